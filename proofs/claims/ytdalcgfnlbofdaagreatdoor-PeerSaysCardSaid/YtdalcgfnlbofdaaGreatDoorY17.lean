import Derived.Test.YtdalcgfnlbofdaaGreatDoorY16
import Derived.Test.YtdalcgfnlbofdaaGreatDoorY15
import Derived.Test.YtdalcgfnlbofdaaGreatDoorPc
import Derived.Test.YtdalcgfnlbofdaaGreatDoorY01
set_option linter.unusedVariables false
set_option linter.unusedSimpArgs false
namespace Go.Proofs.YtdalcgfnlbofdaaGreatDoor
open Go Go.Lf Go.Proofs
attribute [local irreducible] Lf.rg Lf.ro Lf.PWp Lf.SOp Lf.ACall Lf.Scoped Lf.dg Lf.dw
set_option maxRecDepth 20000
set_option maxHeartbeats 4000000
def gm (f : Fm) : Gm:=⟨f.t,f.g,f.s,f.p,f.d,f.st,f.wt,f.pa,f.al,f.pr,f.la,f.co,f.sp⟩
theorem zib {t g s : Int} {b : List UInt8} (h : yX t g s b = (0,0)) : vg t s = true:=by
 cases e : vg t s with
 | true=>rfl
 | false=>unfold yX at h;rw [if_pos e] at h;exact absurd h (by decide)
theorem vQ {b : List UInt8} {k : Int} (h0 : 0 ≤ k) (h : k ≤ b.length) : byL b k (b.length - k) = b.drop k.toNat:=by
 have e : byE b k ((b.length : Int) - k) = 0:=by unfold byE;rw [if_neg (by omega),if_neg (by omega)]
 unfold byL
 rw [if_pos e,List.take_of_length_le (by rw [List.length_drop];omega)]
theorem zer {b : List UInt8} {k m : Int} (h0 : 0 ≤ k) (hm : 0 ≤ m) (h : k + m ≤ b.length) : byL b k (b.length - k - m) = (b.take ((b.length : Int) - m).toNat).drop k.toNat:=by
 have e : byE b k ((b.length : Int) - k - m) = 0:=by unfold byE;rw [if_neg (by omega),if_neg (by omega)]
 unfold byL
 rw [if_pos e,List.drop_take]
 congr 1
 omega
theorem v4 {t g s : Int} {b : List UInt8} {n : Nm} {p : Int} (hp : v3 t g b = p) (hn : zY t g b (yW t g b) = n) (hs : (zF t g 8 && shB b 0 1) = false) (hn2 : n.sh = false) (h : ¬ (b.length : Int) - n.pos < p) :
    zbc t g s b = (if t = 4 then ⟨t,g,s,p,true,[],false,zep b,n.wt,n.pa,n.al,n.pr,n.la,n.co,n.sp⟩ else ⟨t,g,s,p,false,byL b n.pos (b.length - n.pos - max p 0),true,[],n.wt,n.pa,n.al,n.pr,n.la,n.co,n.sp⟩,0,0):=by
  have hS : zam t g b = false:=by unfold zam;rw [hs,hn,hn2];rfl
  unfold zbc
  dsimp only
  rw [if_neg (by rw [hS];simp),hn,hp,if_neg h]
  split<;>rfl
theorem jL {t g s : Int} {b : List UInt8} (h : yX t g s b = (0,0)) : (ym t g s b).2 = (0,0) ∧ gm (ym t g s b).1 = gm (rfM t g s b):=by
 have hst:=zib h
 obtain ⟨hL,_,_⟩:=zh9 h
 have e0 : ym t g s b = zbc t g s b:=by
  unfold ym;rw [if_neg (by rw [hst];simp),if_neg (by rw [hL];simp)]
 rw [e0]
 rcases zdn h with ⟨rfl,hx8,hx32,hgx,hgy,hne,hln,e⟩|⟨rfl,hx8,hx32,hgx,hgy,hne,hln,e⟩|⟨rfl,hx8,hx32,hgx,hgy,hne,hln,e⟩|⟨rfl,hx8,hx32,hgx,hgy,hne,hln,e⟩|⟨x,rfl,hx8,hx32,hgx,hgy,hne,hx,⟨hpb,hpb0⟩,hln,e⟩|⟨rfl,hx8,hx32,hgx,hgy,hne,hln,e⟩|⟨y,rfl,hx8,hx32,hgx,hgy,hne,hy,⟨hu0,hu1⟩,hln,e⟩|⟨x,y,⟨m2,m3,m4,m5,m7,m8⟩,hx8,hx32,hgx,hgy,hne,hx,⟨hpb,hpb0⟩,hy,⟨hu0,hu1⟩,hln,e⟩|⟨y,⟨m2,m3,m4,m5,m7,m8⟩,hx8,hx32,hgx,hgy,hne,hy,⟨hu0,hu1⟩,hln,e⟩|⟨x,⟨m2,m3,m4,m5,m7,m8⟩,hx8,hx32,hgx,hgy,hne,hx,⟨hpb,hpb0⟩,hln,e⟩|⟨⟨m2,m3,m4,m5,m7,m8⟩,hx8,hx32,hgx,hgy,hne,hln,e⟩
 ·rw [e]
  have hA : yW 3 g b = 0:=f_f hx8
  have hs : (zF 3 g 8 && shB b 0 1) = false:=by rw [hx8];rfl
  have hp : v3 3 g b = -1:=f_f hx8
  have hn : zY 3 g b (yW 3 g b) = ⟨0,0,false,0,0,u4 b 0,0,shB b 0 4,4⟩:=by rw [hA];rw [show zY 3 g b 0 = ⟨0,0,false,0,0,u4 b 0,0,shB b 0 4,yx b 0 4⟩ from rfl];rw [yC (show (0 : Int) + 4 ≤ b.length by omega)];rfl
  rw [v4 hp hn hs (kU (by omega)) (by dsimp only;omega)]
  refine ⟨rfl,?_⟩
  rw [if_neg (by decide)]
  unfold gm
  dsimp only
  rw [show max (-1 : Int) 0 = 0 from rfl,Int.sub_zero,vQ (by decide) (by omega),List.drop_of_length_le (by show b.length ≤ 4;omega)]
  all_goals rfl
 ·rw [e]
  have hA : yW 4 g b = 0:=f_f hx8
  have hs : (zF 4 g 8 && shB b 0 1) = false:=by rw [hx8];rfl
  have hp : v3 4 g b = -1:=f_f hx8
  have hn : zY 4 g b (yW 4 g b) = ⟨0,0,false,0,0,0,0,false,0⟩:=by rw [hA];rw [show zY 4 g b 0 = ⟨0,0,false,0,0,0,0,false,0⟩ from rfl]
  rw [v4 hp hn hs rfl (by dsimp only;omega)]
  refine ⟨rfl,?_⟩
  rw [if_pos rfl]
  all_goals rfl
 ·rw [e]
  have hA : yW 8 g b = 0:=f_f hx8
  have hs : (zF 8 g 8 && shB b 0 1) = false:=by rw [hx8];rfl
  have hp : v3 8 g b = -1:=f_f hx8
  have hn : zY 8 g b (yW 8 g b) = ⟨0,0,false,0,0,0,yO (u4 b 0),shB b 0 4,4⟩:=by rw [hA];rw [show zY 8 g b 0 = ⟨0,0,false,0,0,0,yO (u4 b 0),shB b 0 4,yx b 0 4⟩ from rfl];rw [yC (show (0 : Int) + 4 ≤ b.length by omega)];rfl
  rw [v4 hp hn hs (kU (by omega)) (by dsimp only;omega)]
  refine ⟨rfl,?_⟩
  rw [if_neg (by decide)]
  unfold gm
  dsimp only
  rw [show max (-1 : Int) 0 = 0 from rfl,Int.sub_zero,vQ (by decide) (by omega),List.drop_of_length_le (by show b.length ≤ 4;omega)]
  all_goals rfl
 ·rw [e]
  have hA : yW 7 g b = 0:=f_f hx8
  have hs : (zF 7 g 8 && shB b 0 1) = false:=by rw [hx8];rfl
  have hp : v3 7 g b = -1:=f_f hx8
  have hn : zY 7 g b (yW 7 g b) = ⟨0,0,false,0,yO (u4 b 0),u4 b 4,0,shB b 0 8,8⟩:=by rw [hA];rw [show zY 7 g b 0 = ⟨0,0,false,0,yO (u4 b 0),u4 b (yx b 0 4),0,shB b 0 8,yx b (yx b 0 4) 4⟩ from rfl];rw [yC (show (0 : Int) + 4 ≤ b.length by omega),yC (show (0 + 4 : Int) + 4 ≤ b.length by omega)];rfl
  rw [v4 hp hn hs (kU (by omega)) (by dsimp only;omega)]
  refine ⟨rfl,?_⟩
  rw [if_neg (by decide)]
  unfold gm
  dsimp only
  rw [show max (-1 : Int) 0 = 0 from rfl,Int.sub_zero,vQ (by decide) (by omega)]
  all_goals rfl
 ·rw [e]
  have hA : yW 5 g b = 1:=(f_t hx8).trans (yC (by omega))
  have hs : (zF 5 g 8 && shB b 0 1) = false:=by rw [hx8,kU (by omega)];rfl
  have hp : v3 5 g b = zM b 1:=f_t hx8
  have hn : zY 5 g b (yW 5 g b) = ⟨0,0,false,yO (u4 b 1),0,0,0,shB b 1 4,5⟩:=by rw [hA];rw [show zY 5 g b 1 = ⟨0,0,false,yO (u4 b 1),0,0,0,shB b 1 4,yx b 1 4⟩ from rfl];rw [yC (show (1 : Int) + 4 ≤ b.length by omega)];rfl
  rw [v4 hp hn hs (kU (by omega)) (by dsimp only;omega)]
  refine ⟨rfl,?_⟩
  rw [if_neg (by decide)]
  unfold gm
  dsimp only
  rw [show max (zM b 1) 0 = zM b 1 from by omega,zer (by decide) hpb0 (by omega)]
  all_goals rfl
 ·rw [e]
  have hA : yW 5 g b = 0:=f_f hx8
  have hs : (zF 5 g 8 && shB b 0 1) = false:=by rw [hx8];rfl
  have hp : v3 5 g b = -1:=f_f hx8
  have hn : zY 5 g b (yW 5 g b) = ⟨0,0,false,yO (u4 b 0),0,0,0,shB b 0 4,4⟩:=by rw [hA];rw [show zY 5 g b 0 = ⟨0,0,false,yO (u4 b 0),0,0,0,shB b 0 4,yx b 0 4⟩ from rfl];rw [yC (show (0 : Int) + 4 ≤ b.length by omega)];rfl
  rw [v4 hp hn hs (kU (by omega)) (by dsimp only;omega)]
  refine ⟨rfl,?_⟩
  rw [if_neg (by decide)]
  unfold gm
  dsimp only
  rw [show max (-1 : Int) 0 = 0 from rfl,Int.sub_zero,vQ (by decide) (by omega)]
  all_goals rfl
 ·rw [e]
  have hA : yW 2 g b = 0:=f_f hx8
  have hs : (zF 2 g 8 && shB b 0 1) = false:=by rw [hx8];rfl
  have hp : v3 2 g b = -1:=f_f hx8
  have hn : zY 2 g b (yW 2 g b) = ⟨u1 b 4,yO (u4 b 0),hiN (u4 b 0),0,0,0,0,shB b 0 5,5⟩:=by rw [hA];rw [show zY 2 g b 0 = ⟨u1 b (yx b 0 4),yO (u4 b 0),hiN (u4 b 0),0,0,0,0,shB b 0 5,yx b (yx b 0 4) 1⟩ from rfl];rw [yC (show (0 : Int) + 4 ≤ b.length by omega),yC (show (0 + 4 : Int) + 1 ≤ b.length by omega)];rfl
  rw [v4 hp hn hs (kU (by omega)) (by dsimp only;omega)]
  refine ⟨rfl,?_⟩
  rw [if_neg (by decide)]
  unfold gm
  dsimp only
  rw [show max (-1 : Int) 0 = 0 from rfl,Int.sub_zero,vQ (by decide) (by omega)]
  all_goals rfl
 ·obtain rfl : t = 1 := by apply Decidable.byContradiction; intro hn1; rw [yB hn1] at hx32; exact absurd hx32 (by simp)
  rw [e]
  have hA : yW 1 g b = 1:=(f_t hx8).trans (yC (by omega))
  have hs : (zF 1 g 8 && shB b 0 1) = false:=by rw [hx8,kU (by omega)];rfl
  have hp : v3 1 g b = zM b 1:=f_t hx8
  have hn : zY 1 g b (yW 1 g b) = ⟨u1 b 5,yO (u4 b 1),hiN (u4 b 1),0,0,0,0,shB b 1 5,6⟩:=by rw [hA];rw [show zY 1 g b 1 = ⟨u1 b (yx b 1 4),yO (u4 b 1),hiN (u4 b 1),0,0,0,0,shB b 1 5,yx b (yx b 1 4) 1⟩ from (if_pos rfl).trans (if_pos hx32)];rw [yC (show (1 : Int) + 4 ≤ b.length by omega),yC (show (1 + 4 : Int) + 1 ≤ b.length by omega)];rfl
  rw [v4 hp hn hs (kU (by omega)) (by dsimp only;omega)]
  refine ⟨rfl,?_⟩
  rw [if_neg (by decide)]
  unfold gm
  dsimp only
  rw [show max (zM b 1) 0 = zM b 1 from by omega,zer (by decide) hpb0 (by omega)]
  all_goals rfl
 ·obtain rfl : t = 1 := by apply Decidable.byContradiction; intro hn1; rw [yB hn1] at hx32; exact absurd hx32 (by simp)
  rw [e]
  have hA : yW 1 g b = 0:=f_f hx8
  have hs : (zF 1 g 8 && shB b 0 1) = false:=by rw [hx8];rfl
  have hp : v3 1 g b = -1:=f_f hx8
  have hn : zY 1 g b (yW 1 g b) = ⟨u1 b 4,yO (u4 b 0),hiN (u4 b 0),0,0,0,0,shB b 0 5,5⟩:=by rw [hA];rw [show zY 1 g b 0 = ⟨u1 b (yx b 0 4),yO (u4 b 0),hiN (u4 b 0),0,0,0,0,shB b 0 5,yx b (yx b 0 4) 1⟩ from (if_pos rfl).trans (if_pos hx32)];rw [yC (show (0 : Int) + 4 ≤ b.length by omega),yC (show (0 + 4 : Int) + 1 ≤ b.length by omega)];rfl
  rw [v4 hp hn hs (kU (by omega)) (by dsimp only;omega)]
  refine ⟨rfl,?_⟩
  rw [if_neg (by decide)]
  unfold gm
  dsimp only
  rw [show max (-1 : Int) 0 = 0 from rfl,Int.sub_zero,vQ (by decide) (by omega)]
  all_goals rfl
 ·rw [e]
  have hA : yW t g b = 1:=(f_t hx8).trans (yC (by omega))
  have hs : (zF t g 8 && shB b 0 1) = false:=by rw [hx8,kU (by omega)];rfl
  have hp : v3 t g b = zM b 1:=f_t hx8
  have hn : zY t g b (yW t g b) = ⟨0,0,false,0,0,0,0,false,1⟩:=by rw [hA];rw [show zY t g b 1 = ⟨0,0,false,0,0,0,0,false,1⟩ from by unfold zY;split;exact if_neg (by rw [show zF 1 g 32 = zF t g 32 from by subst_vars;rfl,hx32];simp);simp [m2,m3,m5,m7,m8]]
  rw [v4 hp hn hs rfl (by dsimp only;omega)]
  refine ⟨rfl,?_⟩
  rw [if_neg m4]
  unfold gm
  dsimp only
  rw [show max (zM b 1) 0 = zM b 1 from by omega,zer (by decide) hpb0 (by omega)]
  all_goals rfl
 ·rw [e]
  have hA : yW t g b = 0:=f_f hx8
  have hs : (zF t g 8 && shB b 0 1) = false:=by rw [hx8];rfl
  have hp : v3 t g b = -1:=f_f hx8
  have hn : zY t g b (yW t g b) = ⟨0,0,false,0,0,0,0,false,0⟩:=by rw [hA];rw [show zY t g b 0 = ⟨0,0,false,0,0,0,0,false,0⟩ from by unfold zY;split;exact if_neg (by rw [show zF 1 g 32 = zF t g 32 from by subst_vars;rfl,hx32];simp);simp [m2,m3,m5,m7,m8]]
  rw [v4 hp hn hs rfl (by dsimp only;omega)]
  refine ⟨rfl,?_⟩
  rw [if_neg m4]
  unfold gm
  dsimp only
  rw [show max (-1 : Int) 0 = 0 from rfl,Int.sub_zero,vQ (by decide) (by omega)]
  all_goals rfl
theorem zrr {t g : Int} (h : zF t g 8 = true) : t = 0 ∨ t = 1 ∨ t = 5:=by
 apply Decidable.byContradiction
 intro hn
 rw [kH (by omega) (by omega) (by omega)] at h
 exact absurd h (by simp)
theorem zic {t g : Int} (h : zF t g 32 = true) : t = 1:=by
 apply Decidable.byContradiction
 intro hn
 rw [yB hn] at h
 exact absurd h (by simp)
theorem zid {t g : Int} {b : List UInt8} (h : (b.length : Int) < ahI t g) : zam t g b = true:=by
 obtain ⟨c8,c32,h8,h32,hc⟩:=zdm t g
 rcases hc with ⟨h5,rfl,rfl,ha⟩|⟨h5,rfl,rfl,ha⟩|⟨h5,rfl,rfl,ha⟩|⟨h5,rfl,rfl,ha⟩|⟨h5,rfl,rfl,ha⟩|⟨h5,rfl,rfl,ha⟩
 ·subst h5
  by_cases h1 : b.length < 1
  ·unfold zam;rw [h8,zbq (by omega)];rfl
  ·have hA : yW 5 g b = 1 := (f_t h8).trans (yC (by omega))
   unfold zam
   rw [hA,show (zY 5 g b 1).sh = shB b 1 4 from rfl,zbq (a:=1) (by omega),Bool.or_true]
 ·subst h5
  have hA : yW 5 g b = 0:=f_f h8
  unfold zam
  rw [hA,show (zY 5 g b 0).sh = shB b 0 4 from rfl,zbq (a:=0) (n:=4) (by omega),Bool.or_true]
 ·obtain rfl := zic h32
  by_cases h1 : b.length < 1
  ·unfold zam;rw [h8,zbq (by omega)];rfl
  ·have hA : yW 1 g b = 1 := (f_t h8).trans (yC (by omega))
   unfold zam
   rw [hA,show (zY 1 g b 1).sh = shB b 1 5 from by unfold zY;rw [if_pos rfl,if_pos h32],zbq (a:=1) (n:=5) (by omega),Bool.or_true]
 ·obtain rfl := zic h32
  have hA : yW 1 g b = 0:=f_f h8
  unfold zam
  rw [hA,show (zY 1 g b 0).sh = shB b 0 5 from by unfold zY;rw [if_pos rfl,if_pos h32],zbq (a:=0) (n:=5) (by omega),Bool.or_true]
 ·unfold zam;rw [h8,zbq (a:=0) (n:=1) (by omega)];rfl
 ·omega
theorem znD {t g s : Int} {b : List UInt8} (h8 : zF t g 8 = true) (h : ¬ (b.length : Int) < ahI t g) (hp : (b.length : Int) - ahI t g < zM b 1) : zbc t g s b = (fm0,2,1):=by
 have hk2:=zky (t:=t) (g:=g)
 have hk : kI t g = 1:=f_t h8
 have hA : yW t g b = 1:=(f_t h8).trans (yC (by omega))
 have hpd : v3 t g b = zM b 1:=f_t h8
 have key : (zY t g b 1).sh = false ∧ (zY t g b 1).pos = ahI t g:=by
  rcases zrr h8 with rfl|rfl|rfl
  ·have ha : ahI 0 g = 1 := by unfold ahI; rw [hk, f_f (yB (by decide)), if_neg (by decide)]; rfl
   rw [ha];exact ⟨rfl,rfl⟩
  ·rcases bTF (c := zF 1 g 32) with h32 | h32
   ·have ha : ahI 1 g = 6 := by unfold ahI; rw [hk, f_t h32, if_neg (by decide)]; rfl
    rw [show zY 1 g b 1 = ⟨u1 b (yx b 1 4),yO (u4 b 1),hiN (u4 b 1),0,0,0,0,shB b 1 5,yx b (yx b 1 4) 1⟩ from (if_pos rfl).trans (if_pos h32),ha]
    refine ⟨kU (by omega),?_⟩
    show yx b (yx b 1 4) 1 = 6
    rw [yC (show (1 : Int) + 4 ≤ b.length by omega),yC (show (1 + 4 : Int) + 1 ≤ b.length by omega)];rfl
   ·have ha : ahI 1 g = 1 := by unfold ahI; rw [hk, f_f h32, if_neg (by decide)]; rfl
    rw [show zY 1 g b 1 = ⟨0,0,false,0,0,0,0,false,1⟩ from (if_pos rfl).trans (if_neg (by rw [h32];simp)),ha]
    exact ⟨rfl,rfl⟩
  ·have ha : ahI 5 g = 5 := by unfold ahI; rw [hk, f_f (yB (by decide)), if_pos rfl]; rfl
   rw [ha]
   refine ⟨kU (a:=1) (n:=4) (by omega),?_⟩
   show yx b 1 4 = 5
   rw [yC (show (1 : Int) + 4 ≤ b.length by omega)];rfl
 have hS : zam t g b = false:=by unfold zam;rw [hA,key.1,h8,kU (by omega)];rfl
 unfold zbc
 dsimp only
 rw [if_neg (by rw [hS];simp),hA,key.2,hpd,if_pos hp]
theorem zrs {t g s : Int} {b : List UInt8} (h : ¬ yX t g s b = (0,0)) : ym t g s b = (fm0,yX t g s b):=by
 rcases bTF (c:=vg t s) with h1|h1
 ·have n1 : ¬ vg t s = false := by rw [h1]; simp
  rcases bTF (c:=vP t g b.length) with h2|h2
  ·have n2 : ¬ vP t g b.length = false := by rw [h2]; simp
   have e : ym t g s b = zbc t g s b:=by unfold ym;rw [if_neg n1,if_neg n2]
   rw [e]
   by_cases hS : (b.length : Int) < ahI t g
   ·have hk := zky (t := t) (g := g)
    have e2 : yX t g s b = (if t = 0 then 1 else 2,6):=by unfold yX;rw [if_neg n1,if_neg n2,if_pos hS]
    rw [e2,← zro (t:=t) (g:=g) (by omega)]
    unfold zbc
    dsimp only
    rw [if_pos (zid hS)]
   ·by_cases hP : zF t g 8 = true ∧ (b.length : Int) - ahI t g < zM b 1
    ·have e2 : yX t g s b = (2, 1) := by unfold yX; rw [if_neg n1, if_neg n2, if_neg hS, if_pos hP]
     rw [e2]
     exact znD hP.1 hS hP.2
    ·exfalso
     apply h
     unfold yX;rw [if_neg n1,if_neg n2,if_neg hS,if_neg hP]
  ·have e2 : yX t g s b = (if t = 2 then 1 else 2, 6) := by unfold yX; rw [if_neg n1, if_pos h2]
   rw [e2,← znB h2]
   unfold ym;rw [if_neg n1,if_pos h2]
 ·have e2 : yX t g s b = (2, 1) := if_pos h1
  rw [e2]
  unfold ym;rw [if_pos h1]
def rfR (t g s : Int) (b : List UInt8) : Fm:=if yX t g s b = (0,0) then rfM t g s b else fm0
theorem zrt {t g s : Int} {b : List UInt8} (h : (yX t g s b).1 = 0) : yX t g s b = (0,0):=by
 unfold yX at h ⊢
 repeat' split at h
 all_goals first|(exact absurd h (by decide))|(simp only [*,if_true,if_false];done)|skip
 all_goals (repeat' split)
 all_goals first|rfl|(exfalso;simp_all;done)
theorem zcB (t g s : Int) (b : List UInt8) : (ym t g s b).2 = yX t g s b ∧ gm (ym t g s b).1 = gm (rfR t g s b):=by
 unfold rfR
 by_cases h : yX t g s b = (0,0)
 ·obtain ⟨h1, h2⟩ := jL h
  rw [if_pos h,h1,h2,h];exact ⟨rfl,rfl⟩
 ·rw [if_neg h,zrs h];exact ⟨rfl,rfl⟩
theorem znE (w t g s : Int) (r f : Bool) (b : List UInt8) (hg0 : 0 ≤ g) (hg1 : g < 256) (hb : b.length ≤ 1000000000) : AEq Tryz.prog 63 [.ag [i64 w,i64 t,i64 g,i64 s,bl r,.sl f false (b.map zf)]] [] (.tu [.ag (fmA (rfR t g s b)),.ag [i64 (yX t g s b).1,i64 (yX t g s b).2]]) []:=by
 by_cases h : yX t g s b = (0,0)
 ·rw [show rfR t g s b = rfM t g s b from if_pos h, h]
  exact zrq w t g s r f b hg0 hg1 hb h
 ·rw [show rfR t g s b = fm0 from if_neg h]
  exact zia w t g s r f b hg0 hg1 hb (fun e=>h (zrt e))
theorem znF (b : List UInt8) (a n : Int) : (byL b a n).length ≤ b.length:=by
 unfold byL
 split
 ·rw [List.length_take,List.length_drop];omega
 ·exact Nat.zero_le _
theorem zie (b : List UInt8) : (zep b).length ≤ b.length:=by
 unfold zep
 split
 ·rw [zcx];omega
 ·exact Nat.zero_le _
theorem zcC (t g s : Int) (b : List UInt8) : (ym t g s b).1.d.length ≤ b.length ∧ (ym t g s b).1.st.length ≤ b.length:=by
 have h1:=znF b
 have h2:=zie b
 unfold ym
 split
 ·exact ⟨Nat.zero_le _,Nat.zero_le _⟩
 ·split
  ·exact ⟨Nat.zero_le _,Nat.zero_le _⟩
  ·unfold zbc
   dsimp only
   repeat' split
   all_goals (refine ⟨?_,?_⟩<;>(first|exact h1 _ _|exact h2|exact Nat.zero_le _))
structure Fr where
 (f : Bool) (w t g s : Int) (r : Bool) (b : List UInt8)
@[go_sem] def frA (f : Fr) : List AV:=[i64 f.w,i64 f.t,i64 f.g,i64 f.s,bl f.r,.sl f.f false (f.b.map zf)]
@[go_sem] theorem zsw (l : List Fr) : vn (l.map frA).flatten = true:=yd (fun a=>by simp [frA,vn,pur]) l
@[go_sem] theorem zsx {κ : List Nat} {σ : Sto} (l : List Fr) : List.map (fzl κ σ) (l.map frA) = l.map frA:=vG (fun _=>rfl) l
theorem jM {α : Type} {l : List α} {i : Nat} (h : i < l.length) : ∃ x,l[i]? = some x:=⟨l[i],List.getElem?_eq_getElem h⟩
theorem zfs {α : Type} {l : List α} {i : Nat} {x : α} (h : l[i]? = some x) : l.drop i = x :: l.drop (i + 1):=by
 obtain ⟨h1,h2⟩:=List.getElem?_eq_some_iff.1 h
 rw [List.drop_eq_getElem_cons h1,h2]
structure Rq where
 (w t g s : Int) (r : Bool) (b : List UInt8)
deriving DecidableEq
def okQ (r : Rq) : Prop:=km ⟨r.b.length,r.t,r.g,r.s,r.r⟩ ∧ yX r.t r.g r.s r.b = (0,0)
instance (r : Rq) : Decidable (okQ r):=by unfold okQ;infer_instance
def zgb : List (List UInt8) → List UInt8 → List (List UInt8)
 | [],_=>[]
 | x :: l,d=>if x = d then l else x :: zgb l d
structure Ow where
 (n : Int) (p : List (List UInt8))
def zaz (sd : Int) (q : Ow) (r : Rq) : Ow:=
 if okQ r then
  if r.t = 4 then (if r.w = 1 - sd ∧ zF 4 r.g 1 = false then ⟨q.n + 1,q.p⟩ else if r.w = sd ∧ zF 4 r.g 1 = true then ⟨q.n - 1,q.p⟩ else q)
  else if r.t = 6 then (if r.w = 1 - sd ∧ zF 6 r.g 1 = false then ⟨q.n,q.p ++ [r.b]⟩ else if r.w = sd ∧ zF 6 r.g 1 = true then ⟨q.n,zgb q.p r.b⟩ else q)
  else q
 else q
def zif (sd : Int) : List Rq → Ow → Ow
 | [],q=>q
 | r :: l,q=>zif sd l (zaz sd q r)
def zzu (sd : Int) : Rq:=⟨sd,4,1,0,false,[]⟩
def zzv (sd : Int) (b : List UInt8) : Rq:=⟨sd,6,1,0,false,b⟩
theorem zft (sd : Int) : ∀ (a b : List Rq) (q : Ow), zif sd (a ++ b) q = zif sd b (zif sd a q)
 | [],b,q=>rfl
 | r :: a,b,q=>zft sd a b (zaz sd q r)
theorem zaA {r : Rq} (h : okQ r) (ht : r.t = 6) : r.b.length = 8:=by
 obtain ⟨_,h⟩:=h
 rw [ht] at h
 unfold yX at h
 split at h
 ·exact absurd h (by decide)
 ·split at h
  ·exact absurd h (by decide)
  ·rename_i hl
   cases hb : vP 6 r.g r.b.length with
   | false=>exact absurd hb hl
   | true=>
    unfold vP at hb
    rw [if_neg (by decide),if_neg (by decide),if_pos rfl] at hb
    exact of_decide_eq_true hb
theorem zkz {l : List (List UInt8)} {d x : List UInt8} (h : x ∈ zgb l d) : x ∈ l:=by
 induction l with
 | nil=>exact h
 | cons y l ih=>
  unfold zgb at h
  split at h
  ·exact List.mem_cons_of_mem _ h
  ·rcases List.mem_cons.1 h with rfl | h
   ·exact List.mem_cons_self
   ·exact List.mem_cons_of_mem _ (ih h)
theorem zkA (l : List (List UInt8)) (d : List UInt8) : (zgb l d).length ≤ l.length:=by
 induction l with
 | nil=>exact Nat.le_refl _
 | cons y l ih=>
  unfold zgb
  split
  ·rw [List.length_cons];omega
  ·rw [List.length_cons,List.length_cons];omega
def Ow8 (q : Ow) : Prop:=∀ b ∈ q.p,b.length = 8
theorem zru {sd : Int} {q : Ow} {r : Rq} (h : Ow8 q) : Ow8 (zaz sd q r):=by
 unfold zaz
 split
 ·rename_i ho
  split
  ·split
   ·exact h
   ·split<;>exact h
  ·split
   ·rename_i ht
    split
    ·intro b hb
     rcases List.mem_append.1 hb with hb|hb
     ·exact h b hb
     ·obtain rfl := List.mem_singleton.1 hb
      exact zaA ho ht
    ·split
     ·intro b hb;exact h b (zkz hb)
     ·exact h
   ·exact h
 ·exact h
theorem zkB (sd : Int) (q : Ow) (r : Rq) : (zaz sd q r).p.length ≤ q.p.length + 1 ∧ q.n - 1 ≤ (zaz sd q r).n ∧ (zaz sd q r).n ≤ q.n + 1:=by
 have h:=zkA q.p r.b
 have e : (q.p ++ [r.b]).length = q.p.length + 1:=by rw [List.length_append];rfl
 unfold zaz
 repeat' split
 all_goals (refine ⟨?_,?_,?_⟩<;>(try dsimp only)<;>omega)
theorem zlF {sd : Int} : ∀ {l : List Rq} {q : Ow}, Ow8 q → Ow8 (zif sd l q)
 | [],_,h=>h
 | r :: l,q,h=>zlF (l:=l) (zru h)
theorem znG (sd : Int) : okQ (zzu sd):=by
 refine ⟨?_,?_⟩
 ·show km ⟨0,4,1,0,false⟩;decide
 ·show yX 4 1 0 [] = (0,0);decide
theorem ztU {b : List UInt8} (h : b.length = 8) : yX 6 1 0 b = (0,0):=by
 have e1 : vg 6 0 = true:=by decide
 have e2 : vP 6 1 b.length = true:=by unfold vP;rw [if_neg (by decide),if_neg (by decide),if_pos rfl];exact decide_eq_true h
 have e3 : ahI 6 1 = 0:=by decide
 have e4 : zF 6 1 8 = false:=by decide
 unfold yX
 rw [if_neg (by rw [e1];decide),if_neg (by rw [e2];decide),if_neg (by rw [e3];omega),if_neg (by rw [e4];simp)]
theorem znH {sd : Int} {b : List UInt8} (h : b.length = 8) : okQ (zzv sd b):=by
 refine ⟨?_,ztU h⟩
 show km ⟨b.length,6,1,0,false⟩
 rw [h];decide
theorem zbL (d : List UInt8) : ∀ (l : List (List UInt8)) (i : Int), 0 ≤ i → (zd6 d l i = -1 ∧ zgb l d = l) ∨ ∃ k : Nat, zd6 d l i = i + k ∧ k < l.length ∧ zgb l d = l.eraseIdx k
 | [],i,_=>.inl ⟨rfl,rfl⟩
 | x :: l,i,h=>by
  by_cases c : x = d
  ·refine .inr ⟨0, ?_, by simp, ?_⟩
   ·rw [zd6,if_pos c];simp
   ·rw [zgb,if_pos c];rfl
  ·rcases zbL d l (i + 1) (by omega) with ⟨h1, h2⟩ | ⟨k, h1, h2, h3⟩
   ·refine .inl ⟨?_, ?_⟩
    ·rw [zd6,if_neg c,h1]
    ·rw [zgb,if_neg c,h2]
   ·refine .inr ⟨k + 1, ?_, by simpa using h2, ?_⟩
    ·rw [zd6,if_neg c,h1];omega
    ·rw [zgb,if_neg c,h3];rfl
theorem zgc (sd : Int) (q : Ow) (r : Rq) :
    (¬ okQ r ∧ zaz sd q r = q) ∨ (okQ r ∧
      ((r.t = 4 ∧ r.w = 1 - sd ∧ zF r.t r.g 1 = false ∧ zaz sd q r = ⟨q.n + 1, q.p⟩) ∨
       (r.t = 4 ∧ ¬ (r.w = 1 - sd ∧ zF r.t r.g 1 = false) ∧ r.w = sd ∧ zF r.t r.g 1 = true ∧ zaz sd q r = ⟨q.n - 1,q.p⟩) ∨
       (r.t = 6 ∧ r.w = 1 - sd ∧ zF r.t r.g 1 = false ∧ zaz sd q r = ⟨q.n,q.p ++ [r.b]⟩) ∨
       (r.t = 6 ∧ ¬ (r.w = 1 - sd ∧ zF r.t r.g 1 = false) ∧ r.w = sd ∧ zF r.t r.g 1 = true ∧ zaz sd q r = ⟨q.n,zgb q.p r.b⟩) ∨
       ((¬ r.t = 4 ∧ ¬ r.t = 6 ∨ ¬ (r.w = 1 - sd ∧ zF r.t r.g 1 = false) ∧ ¬ (r.w = sd ∧ zF r.t r.g 1 = true)) ∧ zaz sd q r = q))):=by
  by_cases ho : okQ r
  · refine .inr ⟨ho, ?_⟩
    have e : zaz sd q r = if r.t = 4 then (if r.w = 1 - sd ∧ zF 4 r.g 1 = false then ⟨q.n + 1, q.p⟩ else if r.w = sd ∧ zF 4 r.g 1 = true then ⟨q.n - 1, q.p⟩ else q)
      else if r.t = 6 then (if r.w = 1 - sd ∧ zF 6 r.g 1 = false then ⟨q.n,q.p ++ [r.b]⟩ else if r.w = sd ∧ zF 6 r.g 1 = true then ⟨q.n,zgb q.p r.b⟩ else q)
      else q:=if_pos ho
    rw [e]
    by_cases h4 : r.t = 4
    · rw [h4, if_pos rfl]
      by_cases c1 : r.w = 1 - sd ∧ zF 4 r.g 1 = false
      · rw [if_pos c1]
        exact .inl ⟨rfl,c1.1,c1.2,rfl⟩
      · rw [if_neg c1]
        by_cases c2 : r.w = sd ∧ zF 4 r.g 1 = true
        · rw [if_pos c2]
          exact .inr (.inl ⟨rfl,c1,c2.1,c2.2,rfl⟩)
        · rw [if_neg c2]
          exact .inr (.inr (.inr (.inr ⟨.inr ⟨c1,c2⟩,rfl⟩)))
    · rw [if_neg h4]
      by_cases h6 : r.t = 6
      · rw [h6, if_pos rfl]
        by_cases c1 : r.w = 1 - sd ∧ zF 6 r.g 1 = false
        · rw [if_pos c1]
          exact .inr (.inr (.inl ⟨rfl,c1.1,c1.2,rfl⟩))
        · rw [if_neg c1]
          by_cases c2 : r.w = sd ∧ zF 6 r.g 1 = true
          · rw [if_pos c2]
            exact .inr (.inr (.inr (.inl ⟨rfl,c1,c2.1,c2.2,rfl⟩)))
          · rw [if_neg c2]
            exact .inr (.inr (.inr (.inr ⟨.inr ⟨c1,c2⟩,rfl⟩)))
      · rw [if_neg h6]
        exact .inr (.inr (.inr (.inr ⟨.inl ⟨h4,h6⟩,rfl⟩)))
  · exact .inl ⟨ho,if_neg ho⟩
end Go.Proofs.YtdalcgfnlbofdaaGreatDoor
