import Derived.Test.YtdalcgfnlbofdaaGreatDoorY01
import Derived.Shelf.RegionOpenPlain
import Derived.WalkKit
import Derived.Deep.RegionLaw
import Derived.Lib.SliceRun
set_option linter.unusedVariables false
set_option linter.unusedSimpArgs false
namespace Go.Proofs.YtdalcgfnlbofdaaGreatDoor
open Go Go.Lf Go.Proofs Go.RowKit
attribute [local irreducible] Lf.rg Lf.ro Lf.PWp Lf.SOp Lf.ACall Lf.Scoped Lf.dg
set_option maxRecDepth 20000
set_option maxHeartbeats 4000000
theorem zit {P : Program} {ops : Array Oper} {o : Oper} {a : Act} {w : World} {K : Act → World → Prop} {Q : Exit → Act → World → Prop} {E : Prop}
    (hg : o.guard = none) (s x : Operand) (t : TypeId) (hop : o.op = Op.call { callee:=Callee.builtin Builtin.append,args:=#[s,x],argTypes:=#[t,t] })
    (e : TypeId) (i : TypeInfo) (size : Nat) (h1 : P.underlying t = some (.slice e)) (h2 : P.info? e = some i) (h4 : i.size = size)
    (b n cap : Nat) (cur : Array Value) (hb : w.heap[b]? = some (.cells cur e (0,0))) (hs : a.eval s = .slice (some ⟨b,0,none⟩) n cap)
    (ad : Addr) (m c : Nat) (news : List Value) (hx : a.eval x = .slice (some ad) m c) (hn : news.length = m * size) (hc : ∀ j u,news[j]? = some u → w.cell? (ad.add j) = some u) (h1c : ∀ u ∈ news,u.oneCell' = true)
    (hroom : n + m ≤ cap) (hfit : n * size + news.length ≤ cur.size)
    (hK : K (a.put o.dst (.slice (some ⟨b,0,none⟩) (n + m) cap)) (w.setRow b (cur.toList.take (n * size) ++ news ++ cur.toList.drop (n * size + news.length)).toArray)) :
    if Region.wanted o (yielded ops a.tmps) = true then Oper.wp P o a w K Q else E:=by
  have hw : Region.wanted o (yielded ops a.tmps) = true:=by simp [Region.wanted,hg]
  rw [if_pos hw]
  subst h4
  have hrun:=run_append_room (P:=P) w t o.type e i h1 h2 b n cap cur hb ad m c news hn hc h1c hroom hfit
  unfold Oper.wp
  simp [execOp,hop,resolve,invoke,builtin,hs,hx,hrun,Result.andThen]
  rw [List.append_assoc] at hK
  exact hK
theorem zgf {P : Program} (w : World) (t e : TypeId) (z : Value) (sz : Nat) (ht : P.underlying t = some (.slice e)) (hv : ∀ w, (zeroValue e).run P w = .ok z w) (hz : z.cells.size = sz) (h1 : ∀ u ∈ z.cells.toList, u.oneCell' = true) (b o n c : Nat) (hn : 0 < n)
    (cur : Array Value) (hb : w.heap[b]? = some (.cells cur e (0,0))) (hfit : o + n * sz ≤ cur.size) :
    ∃ zs : List Value,zs.length = n * sz ∧ ∀ ty,(Builtin.clear_ #[t] ty #[.slice (some ⟨b,o,none⟩) n c]).run P w = .ok (.tuple #[]) (w.setRow b (cur.toList.take o ++ zs ++ cur.toList.drop (o + n * sz)).toArray):=by
  have hl : (Builtin.zeroCells z.cells n).toList.length = n * sz:=by rw [Array.length_toList,size_zeroCells,hz]
  refine ⟨(Builtin.zeroCells z.cells n).toList,hl,fun ty=>?_⟩
  have hst:=run_storeCells_at (P:=P) b o e (Builtin.zeroCells z.cells n).toList 0 cur w hb (by rw [hl];omega) (by
    intro v hv'
    simp only [Builtin.zeroCells,Array.toList_map,List.mem_map] at hv'
    obtain ⟨j,_,rfl⟩:=hv'
    by_cases hj : j % z.cells.size < z.cells.size
    · rw [getElem!_pos z.cells _ hj]
      exact h1 _ (by simp)
    · rw [getElem!_neg z.cells _ hj];rfl)
  rw [Nat.add_zero,hl] at hst
  obtain ⟨m,rfl⟩ : ∃ m,n = m + 1:=⟨n - 1,by omega⟩
  simp [Builtin.clear_,run_underlying ht,hv,hst]
theorem ziu (w : World) (b : Nat) (cur : Array Value) (e : TypeId) (hb : w.drew.heap[b]? = some (.cells cur e (0,0))) (c X : Array Value) : ((w.drew.setRow b c).setRow b X).heap = (w.setRow b X).heap:=by
 have hb' : w.heap[b]? = some (.cells cur e (0,0)):=hb
 apply Array.ext_getElem?
 intro i
 by_cases h : b = i
 ·subst h
  rw [setRow_heap _ b c X e _ (setRow_heap w.drew b cur c e _ hb),setRow_heap w b cur X e _ hb']
 ·rw [setRow_other _ b i _ (Ne.symm h),setRow_other _ b i _ (Ne.symm h),setRow_other _ b i _ (Ne.symm h)];rfl
theorem zkS {α : Type _} (a b c : List α) (k : Nat) (h : a.length + b.length = k) : (a ++ b ++ c).take k = a ++ b:=by
 rw [← h,← List.length_append,List.take_left]
theorem zn4 (b n cap i k : Nat) (cur : Array Value) (w : World) (hb : w.heap[b]? = some (.cells cur 43 (0, 0))) (hn : n ≤ cap) (hm : cap ≤ 9223372036854775807) (hk : i < n) (hki : k = i + 1) (hsz : cur.size = cap) (hone : ∀ u ∈ (cur.toList.take n).drop k, u.oneCell' = true) :
    Calls Tryz.prog 127 #[.slice (some ⟨b, 0, none⟩) n cap, .int .i64 i, .int .i64 k] w fun e w' => e = .returned (.slice (some ⟨b, 0, none⟩) (n - 1) cap) ∧ w'.os = w.os ∧ w'.tape = w.tape ∧ w'.output = w.output ∧
      ∃ rest : List Value,w'.heap = (w.setRow b (cur.toList.take i ++ (cur.toList.take n).drop k ++ rest).toArray).heap ∧ (cur.toList.take i ++ (cur.toList.take n).drop k ++ rest).length = cap:=by
  obtain ⟨i0,hi0,hz1⟩ : ∃ q,Tryz.prog.info? 43 = some q ∧ q.size = 1:=⟨_,rfl,rfl⟩
  obtain ⟨news,hnews⟩ : ∃ news,news = (cur.toList.take n).drop k:=⟨_,rfl⟩
  rw [← hnews] at hone ⊢
  have hlen : news.length = (n - k) * 1:=by rw [hnews,List.length_drop,List.length_take,Array.length_toList,hsz];omega
  have hget : ∀ j u,news[j]? = some u → cur[k + j]? = some u:=by
    intro j u hu
    rw [hnews,List.getElem?_drop,List.getElem?_take] at hu
    split at hu
    · rw [← Array.getElem?_toList];exact hu
    · cases hu
  obtain ⟨A,hA,hsrc⟩ : ∃ A : Addr,(if cap = k then some (⟨b,0,none⟩ : Addr) else some ⟨b,k,none⟩) = some A ∧ Hid (∀ j u,news[j]? = some u → w.drew.cell? (A.add j) = some u):=by
    by_cases h : cap = k
    · refine ⟨⟨b, 0, none⟩, by simp [h], fun j u hu => ?_⟩
      have h0 : news.length = 0:=by rw [hlen];omega
      rw [List.length_eq_zero_iff.1 h0] at hu
      simp at hu
    · refine ⟨⟨b, k, none⟩, by simp [h], fun j u hu => ?_⟩
      rw [Addr.add_lit]
      show (w.cell? ⟨b,k + j,none⟩) = some u
      have:=hget j u hu
      simp [World.cell?,hb,this]
  have s1 : Hid (news.length = (n - k) * 1):=hlen
  have s2 : Hid (∀ u ∈ news,u.oneCell' = true):=hone
  have s3 : Hid (w.drew.heap[b]? = some (.cells cur 43 (0,0))):=hb
  have s4 : Hid (i * 1 + news.length ≤ cur.size):=by show i * 1 + news.length ≤ cur.size;rw [hlen,hsz];omega
  obtain ⟨c1,hc1⟩ : ∃ c1,c1 = cur.toList.take (i * 1) ++ news ++ cur.toList.drop (i * 1 + news.length):=⟨_,rfl⟩
  have hc1l : c1.length = cap:=by rw [hc1];simp [hlen,hsz];omega
  obtain ⟨W1,hW1⟩ : ∃ W1,W1 = w.drew.setRow b c1.toArray:=⟨_,rfl⟩
  have hH1 : W1.heap[b]? = some (.cells c1.toArray 43 (0,0)):=by rw [hW1];exact setRow_heap w.drew b cur c1.toArray _ _ hb
  have hcl : ∃ zs : List Value,zs.length = 1 * 1 ∧ ∀ ty,(Builtin.clear_ #[148] ty #[.slice (some ⟨b,n - 1,none⟩) 1 (cap - (n - 1))]).run Tryz.prog W1 = .ok (.tuple #[]) (W1.setRow b (c1.take (n - 1) ++ zs ++ c1.drop (n - 1 + 1 * 1)).toArray):=by
    exact zgf (P:=Tryz.prog) W1 148 43 _ 1 Tryz.underlying148 Tryz.zeroValue43 rfl (by decide) b (n - 1) 1 (cap - (n - 1)) (by decide) c1.toArray hH1 (by simp [hc1l];omega)
  obtain ⟨zs,hzl,hcl0⟩:=hcl
  have hin : i + (n - k) = n - 1:=by omega
  have hcl : ∀ ty,(Builtin.clear_ #[148] ty #[.slice (some ⟨b,i + (n - k),none⟩) (n - (i + (n - k))) (cap - (i + (n - k)))]).run Tryz.prog W1 = .ok (.tuple #[]) (W1.setRow b (c1.take (n - 1) ++ zs ++ c1.drop (n - 1 + 1 * 1)).toArray):=by
    intro ty
    rw [hin,show n - (n - 1) = 1 by omega]
    exact hcl0 ty
  clear hcl0
  have hW : Hid (W1 = w.drew.setRow b c1.toArray):=hW1
  have C1 : Hid (c1 = cur.toList.take (i * 1) ++ news ++ cur.toList.drop (i * 1 + news.length)):=hc1
  have H1 : Hid (W1.heap[b]? = some (.cells c1.toArray 43 (0,0))):=hH1
  have L1 : Hid (c1.length = cap):=hc1l
  have hkc : k ≤ cap:=by omega
  have hk0' : ¬ (i = k):=by omega
  have hkn : n - 1 ≤ n:=by omega
  have hkn2 : n - 1 ≤ cap:=by omega
  have hi1 : i ≤ k:=by omega
  have hi2 : k ≤ n:=by omega
  have hi3 : i ≤ cap:=by omega
  have hi4 : i ≤ n:=by omega
  have Z : Hid (zs.length = 1 * 1):=hzl
  have SZ : Hid (cur.size = cap):=hsz
  have HK : Hid (k = i + 1):=hki
  clear hW1 hc1 hH1 hc1l hzl hget hnews hlen hone hb hsz hki hin
  go_enter Tryz.func127,Tryz.ntmps127
  go_wp2_with fail
  go_region_law (refine zit rfl (.tmp 22) (.tmp 25) 148 rfl 43 i0 1 Tryz.underlying148 hi0 hz1 b i cap cur s3.out (by simp [Act.eval,Act.put]) A (n - k) (cap - k) news (by simp [Act.eval,Act.put]) s1.out hsrc.out s2.out (by omega) s4.out ?_;rw [← C1.out,← hW.out])
  go_wp2
  go_ret
  have hki:=HK.out
  have ht : c1.take (n - 1) = cur.toList.take i ++ news:=by
    have l1:=s1.out
    have l2:=SZ.out
    rw [C1.out,Nat.mul_one]
    exact zkS _ _ _ _ (by rw [List.length_take,Array.length_toList];omega)
  rw [ht,hW.out]
  have hin : i + (n - k) = n - 1:=by omega
  refine ⟨congrArg (fun m=>Ending.returned (Value.slice (some ⟨b,0,none⟩) m cap)) hin,rfl,rfl,rfl,zs ++ c1.drop (n - 1 + 1 * 1),?_,?_⟩
  · have := ziu w b cur 43 s3.out c1.toArray (cur.toList.take i ++ news ++ zs ++ c1.drop (n - 1 + 1 * 1)).toArray
    rw [← List.append_assoc]
    exact this
  · have l1 := s1.out
    have l2:=SZ.out
    have l3:=Z.out
    have l4:=L1.out
    rw [List.length_append,List.length_append,List.length_append,List.length_take,List.length_drop,Array.length_toList]
    omega
theorem zrE (n : Nat) (us sp : List Value) (h : us.length = n) (i : Nat) (hi : i ≤ n) : (us ++ sp).toArray.toList.take i = us.take i ∧ ((us ++ sp).toArray.toList.take n).drop (i + 1) = us.drop (i + 1):=by
 constructor
 ·show (us ++ sp).take i = _
  rw [List.take_append_of_le_length (by omega)]
 ·show ((us ++ sp).take n).drop (i + 1) = _
  rw [← h,List.take_left]
theorem zey (l : List (List UInt8)) : (l.map bsA).flatten = l.map (fun b=>AV.sl false false (b.map zf)):=by
 induction l with
 | nil=>rfl
 | cons b l ih=>rw [List.map_cons,List.flatten_cons,ih];rfl
theorem zrF (l : List (List UInt8)) (s i : Nat) (h : i < l.length) : AEq Tryz.prog 127 [.row 0 s,i64 i,i64 (i + 1)] [.row s 43 1 (l.map bsA)] (.row 0 (s + 1)) [.row (s + 1) 43 1 ((l.eraseIdx i).map bsA)]:=by
  unfold AEq ACall
  intro ρ w vs hr hG hv
  match vs,hv with
  | [v0,v1,v2],hv=>
  simp only [VRl,VR,and_true] at hv
  obtain ⟨⟨_,hv0⟩,rfl,rfl⟩:=hv
  rw [show ((i : Int) + 1) = ((i + 1 : Nat) : Int) from rfl]
  have hv0:=(hv0 s 43 1 (l.map bsA) rfl).2 rfl
  subst hv0
  obtain ⟨h0,h00,hO⟩:=hr.obj 0 _ rfl
  have all : ∀ q ∈ (l.eraseIdx i).map bsA,q.length = 1:=by intro q hq;simp only [List.mem_map] at hq;obtain ⟨_,_,rfl⟩:=hq;rfl
  have fin : ∀ (v' : Value) (w' : World), w'.os = w.os → w'.tape = w.tape → w'.output = w.output → w.heap.size ≤ w'.heap.size →
      (∀ b,b < w.heap.size → blk (ρ 0) ≠ some b → w'.heap[b]? = w.heap[b]?) → (∀ b,blk v' = some b → blk (ρ 0) = some b ∨ w.heap.size ≤ b) →
      (((∃ ad,v' = .slice ad 0 0) ∧ (l.eraseIdx i).map bsA = []) ∨ ∃ b cap,∃ us sp : List Value,v' = .slice (some ⟨b,0,none⟩) ((l.eraseIdx i).map bsA).length cap ∧ w'.heap[b]? = some (.cells (us ++ sp).toArray 43 (0,0)) ∧ ((l.eraseIdx i).map bsA).length ≤ cap ∧ (0 < cap ∧ cap ≤ maxLen) ∧ (us ++ sp).length = cap * 1 ∧ (∀ u ∈ us,u.oneCell' = true) ∧ VRl [.row s 43 1 (l.map bsA)] ρ w ((l.eraseIdx i).map bsA).flatten us) →
      ∃ r σ' ρ' v,Ending.returned v' = .returned v ∧ (r = AV.row 0 (s + 1) ∧ σ' = [Ob.row (s + 1) 43 1 ((l.eraseIdx i).map bsA)]) ∧ Rel σ' ρ' w' ∧ VR σ' ρ' w' r v ∧ Step 1 [.row s 43 1 (l.map bsA)] ρ w σ' ρ' w':=by
    intro v' w' os tp ou hsz hk hbl hrow
    have hs : [Ob.row s 43 1 (l.map bsA)][0]? = some (Ob.row s 43 1 (l.map bsA)):=rfl
    have hobj : ObjStep (some (Ob.row s 43 1 (l.map bsA))) (some (Ob.row (s + 1) 43 1 ((l.eraseIdx i).map bsA))) (ρ 0) v':=by simp only [ObjStep,true_and];omega
    have st:=vr (σ:=[Ob.row s 43 1 (l.map bsA)]) (ρ:=ρ) (w:=w) (w':=w') (r:=v') hs rfl hobj os tp ou hsz hk (fun b _=>hbl b)
    refine ⟨_,_,upd ρ 0 v',v',rfl,⟨rfl,rfl⟩,kt (σ:=[Ob.row s 43 1 (l.map bsA)]) hr hs rfl hobj os tp ou hsz hk (fun b _=>hbl b) ⟨all,h00,?_⟩,?_,st⟩
    · rcases hrow with h | ⟨b, cap, us, sp, k1, k2, k3, k4, k5, k6, k7⟩
      · exact .inl h
      · exact .inr ⟨b,cap,us,sp,k1,k2,k3,k4,k5,k6,VRl.carry st _ _ k7⟩
    · simp only [VR]
      refine ⟨by simp,fun s' e' sz' xs' hs'=>?_⟩
      simp at hs'
      obtain ⟨rfl,_⟩:=hs'
      exact ⟨Nat.le_refl _,fun _=>by rw [yf]⟩
  rcases hO with ⟨⟨ad,hO⟩,hx⟩|⟨b,cap,us,sp,hb',hh,hle,hm,hc,hone,hl⟩
  · have hx : l = [] := by simpa using hx
    subst hx
    exact absurd h (Nat.not_lt_zero _)
  · have hlu := zO _ _ hl
    rw [zey,List.length_map] at hlu
    rw [List.length_map] at hb' hle
    have hmx : cap ≤ 9223372036854775807:=by have:=hm.2;unfold maxLen at this;omega
    obtain ⟨f1,f2⟩:=zrE l.length us sp hlu.symm i (by omega)
    have hle' : ((l.eraseIdx i).map bsA).length = l.length - 1:=by rw [List.length_map,List.length_eraseIdx_of_lt h]
    have hflat : VRl [.row s 43 1 (l.map bsA)] ρ w ((l.eraseIdx i).map bsA).flatten (us.take i ++ us.drop (i + 1)):=by
      rw [List.eraseIdx_eq_take_drop_succ,zey,List.map_append,List.map_take,List.map_drop,← zey]
      exact yD _ _ _ _ (vq _ _ _ hl) (yJ _ _ _ hl)
    have hone' : ∀ u ∈ us.take i ++ us.drop (i + 1),u.oneCell' = true:=by
      intro u hu
      rcases List.mem_append.1 hu with hu|hu
      · exact hone u (List.mem_of_mem_take hu)
      · exact hone u (List.mem_of_mem_drop hu)
    rw [hb']
    refine (zn4 b l.length cap i (i + 1) (us ++ sp).toArray w hh hle hmx h rfl (by simpa using hc) (by rw [f2];intro u hu;exact hone u (List.mem_of_mem_drop hu))).mono ?_
    rintro e w' ⟨rfl,os,tp,ou,rest,hhp,hrl⟩
    rw [f1,f2] at hhp hrl
    have hsz : w'.heap.size = w.heap.size:=by rw [hhp];simp
    refine fin _ _ os tp ou (by omega) (fun c _ hne=>?_) (fun c hc=>.inl (by rw [hb'];exact hc)) (.inr ⟨b,cap,us.take i ++ us.drop (i + 1),rest,by rw [hle'],?_,by rw [hle'];omega,hm,by rw [hrl];omega,hone',hflat⟩)
    · rw [hhp]
      exact setRow_other w b c _ (fun e=>hne (by rw [hb',e];simp [blk];omega))
    · rw [hhp]
      exact setRow_heap w b _ _ _ _ hh
end Go.Proofs.YtdalcgfnlbofdaaGreatDoor
