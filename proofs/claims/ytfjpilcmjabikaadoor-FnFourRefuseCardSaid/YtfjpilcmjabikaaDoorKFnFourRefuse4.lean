/- A part of the proof that the law FnFourRefuse holds at every input. Written by wip/pack.py: the kit's printed words that are used, the functions' walks as wip/gen.py prints them, and hand proofs. -/
import Derived.Test.YtfjpilcmjabikaaDoorKFnFourRefuse3
import Derived.RangeFuncBox
import Derived.RangeFuncLeaves
import Derived.Shelf.Abstract
import Derived.Shelf.AbstractIn
import Derived.WalkKit
import Derived.OwnWalkIn
import Derived.TacticsInMore
import Derived.LoopNIn
import Derived.LoopIn
import Derived.Maps.AppendAt
import Derived.Lib.SlKeysI
import Derived.Shelf.SortM.Plain
import Derived.Shelf.SortM.SortNone
import Derived.Shelf.SlicesG.CompactI
import Derived.Shelf.SlicesG.SearchI
import Derived.Test.YtfjpilcmjabikaaDoorProg
namespace Go.Proofs.YtfjpilcmjabikaaDoor.P
open Go.RowKit Go.Proofs.YtfjpilcmjabikaaDoorW.PrintWords Go.Proofs.YtfjpilcmjabikaaDoorW.PrintLast Go.Proofs.YtfjpilcmjabikaaDoorW.PrintMore
open Bool renaming true → T, false → F
open List renaming setIfInBounds_toArray → L_, set_cons_zero → M_, set_cons_succ → N_, map_toArray → P_, map_cons → Q_, map_nil → R_, length_drop → S_, length_take → U_
open Aside0 renaming mk → A_
attribute [local go_sem] max2_int min2_int max_two min_two max_three min_three max_four min_four
set_option linter.unusedVariables false
set_option linter.unusedSimpArgs false
attribute [local go_sem] fldOrder_0 fldOrder_1
mutual
def impl_relation.l0 (is : Int → Int → Option Bool) : Nat → Int → Int → Int → Int → List Int → Option (Int × List Int)
 | 0,_,_,_,_,_=>none
 | k + 1,x0,x12,x13,x252000,x252001=>if x13 < x12 then (impl_relation.l1 is k x0 x13 x12 x13 x0 0 x252000 x252001) else (some (x252000,x252001))
def impl_relation.l1 (is : Int → Int → Option Bool) : Nat → Int → Int → Int → Int → Int → Int → Int → List Int → Option (Int × List Int)
 | 0,_,_,_,_,_,_,_,_=>none
 | k + 1,x0,x6,x12,x13,x16,x17,x252000,x252001=>if x17 < x16 then ((is x6 x17).bind fun t252=>(if t252 = true then (if 0 ≤ x6 then (if x6 < (x252001.length : Int) then (if 0 ≤ x17 then (impl_relation.l1 is k x0 x6 x12 x13 x16 (wrap64 (x17 + 1)) x252000 (x252001.set (x6 : Int).toNat (Go.bits .or .i64 (rd x252001 x6) (shl .i64 1 x17)))) else (none)) else (none)) else (none)) else (impl_relation.l1 is k x0 x6 x12 x13 x16 (wrap64 (x17 + 1)) x252000 x252001))) else (impl_relation.l0 is k x0 x12 (wrap64 (x13 + 1)) x252000 x252001)
end
def impl_relation.f (k : Nat) (a0 : Int) (is : Int → Int → Option Bool) : Option (Int × List Int) := if 0 ≤ a0 then (if (a0 : Int).toNat ≤ 35184372088832 then (impl_relation.l0 is k a0 a0 0 a0 (List.replicate (a0 : Int).toNat 0)) else (none)) else (none)
theorem impl_relation.mono_l {is is' : Int → Int → Option Bool} (hi : ∀ x y,LeO (is x y) (is' x y)) : ∀ k,(∀ y0 y1 y2 y3 y4,LeO (impl_relation.l0 is k y0 y1 y2 y3 y4) (impl_relation.l0 is' (k + 1) y0 y1 y2 y3 y4)) ∧ (∀ y0 y1 y2 y3 y4 y5 y6 y7,LeO (impl_relation.l1 is k y0 y1 y2 y3 y4 y5 y6 y7) (impl_relation.l1 is' (k + 1) y0 y1 y2 y3 y4 y5 y6 y7))
 | 0=>⟨fun _ _ _ _ _ r h=>by simp [impl_relation.l0] at h,fun _ _ _ _ _ _ _ _ r h=>by simp [impl_relation.l1] at h⟩
 | k + 1=>by
  obtain ⟨ih0,ih1⟩:=impl_relation.mono_l hi k;refine ⟨?_,?_⟩
  ·intro y0 y1 y2 y3 y4
   unfold impl_relation.l0
   repeat' first
   | (with_reducible exact hi _ _)
   | (with_reducible exact ih0 _ _ _ _ _)
   | (with_reducible exact ih1 _ _ _ _ _ _ _ _)
   | (with_reducible exact LeO.refl _)
   | (with_reducible exact LeO.none _)
   | (with_reducible refine LeO.ite ?_ ?_)
   | (with_reducible refine LeO.bind ?_ (fun _=>?_))
   | exact ih0 _ _ _ _ _
   | exact ih1 _ _ _ _ _ _ _ _
   | exact LeO.none _
   | refine LeO.ite ?_ ?_
   | refine LeO.bind ?_ (fun _=>?_)
  ·intro y0 y1 y2 y3 y4 y5 y6 y7
   unfold impl_relation.l1
   repeat' first
   | (with_reducible exact hi _ _)
   | (with_reducible exact ih0 _ _ _ _ _)
   | (with_reducible exact ih1 _ _ _ _ _ _ _ _)
   | (with_reducible exact LeO.refl _)
   | (with_reducible exact LeO.none _)
   | (with_reducible refine LeO.ite ?_ ?_)
   | (with_reducible refine LeO.bind ?_ (fun _=>?_))
   | exact ih0 _ _ _ _ _
   | exact ih1 _ _ _ _ _ _ _ _
   | exact LeO.none _
   | refine LeO.ite ?_ ?_
   | refine LeO.bind ?_ (fun _=>?_)
theorem impl_relation.mono2 {is is' : Int → Int → Option Bool} (hi : ∀ x y,LeO (is x y) (is' x y)) : ∀ a0 k,LeO (impl_relation.f k a0 is) (impl_relation.f (k + 1) a0 is'):=by
 intro a0 k
 obtain ⟨ih0,ih1⟩:=impl_relation.mono_l hi k;unfold impl_relation.f
 repeat' first
  | (with_reducible exact hi _ _)
  | (with_reducible exact ih0 _ _ _ _ _)
  | (with_reducible exact ih1 _ _ _ _ _ _ _ _)
  | (with_reducible exact LeO.refl _)
  | (with_reducible exact LeO.none _)
  | (with_reducible refine LeO.ite ?_ ?_)
  | (with_reducible refine LeO.bind ?_ (fun _ => ?_))
  | exact ih0 _ _ _ _ _
  | exact ih1 _ _ _ _ _ _ _ _
  | exact LeO.none _
  | refine LeO.ite ?_ ?_
  | refine LeO.bind ?_ (fun _ => ?_)
def impl_relation.T9 : Bool × List (List Nat × List Nat) := (true, [([], []), ([0], [0]), ([], []), ([1, 2], [1, 2]), ([3], [3]), ([], []), ([5], [5]), ([4, 6], [4, 6]), ([1, 2, 0, 1, 2, 3, 4, 5, 6, 7], [1, 2]), ([8, 7, 0, 1, 2, 3, 4, 5, 6, 7], [7, 8])])
def impl_relation.B9 : List Nat := [0, 1, 0, 7, 15, 0, 32, 127, 255, 511]
theorem impl_relation.tab9 : rtab .any (opsOf Tryd.f66 9) = impl_relation.T9:=by kernel_rfl
theorem impl_relation.bits9 : waitsOk impl_relation.T9.2 impl_relation.B9 = true:=by kernel_rfl
set_option maxHeartbeats 8000000 in
set_option maxRecDepth 100000 in
theorem impl_relation.calls (k : Nat) (a0 : Int) (is : Int → Int → Option Bool) (r1 : Int) (r2 : List Int) (w : World) (C : Nat) (lb : Array Value) (eg : ∀ args w,(callFunc C args).run Tryd.prog w = .ok (.enter C args) w)
 (hC : ∀ (W : World) (x y : Int) (r : Bool),Below w.heap.size w W → is x y = some r → Calls Tryd.prog C (#[.int .i64 x,.int .i64 y] ++ lb) W fun e W'=>e = .returned (.bool r) ∧ Below W.heap.size W W') (h : impl_relation.f k a0 is = some (r1,r2)) :
 Calls Tryd.prog 66 #[.int .i64 a0,.func (.func C) #[] lb] w fun e w'=>∃ v1_ : Value,e = .returned (.agg #[.int .i64 r1,v1_]) ∧ Kd.R (Kd.int .i64) 3 w' w.heap.size (fun _=>True) v1_ r2 ∧ Below w.heap.size w w':=by
 have hu26:=Tryd.underlying26;have HB:=A_ (Below.refl w.heap.size w);have HC:=A_ hC;clear hC;have H : (if 0 ≤ a0 then (if (a0 : Int).toNat ≤ 35184372088832 then (impl_relation.l0 is k a0 a0 0 a0 (List.replicate (a0 : Int).toNat 0)) else (none)) else (none)) = some (r1,r2):=h;clear h;by_cases c3 : 0 ≤ a0
 ·rw [if_pos c3] at H;have c3b0:=eq_true c3;have c3b1 : decide (0 ≤ a0) = true:=decide_eq_true c3;clear c3;by_cases c4 : (a0 : Int).toNat ≤ 35184372088832
  ·rw [if_pos c4] at H;have c4b0:=eq_true c4;have c4b1 : decide ((a0 : Int).toNat ≤ 35184372088832) = true:=decide_eq_true c4;clear c4;obtain ⟨y248,hy248⟩ : ∃ y_ : List Int,y_ = (List.replicate (a0 : Int).toNat 0):=⟨_,rfl⟩;replace H : (impl_relation.l0 is k a0 a0 0 a0 y248) = some (r1,r2):=by first|(rw [hy248];with_reducible exact H)|(have H2_:=(Option.bind_some _ _).symm.trans H;rw [hy248];with_reducible exact H2_)|(have H2_:=(Option.bind_some _ _).symm.trans H;with_reducible exact H2_)|with_reducible exact H|(rw [hy248];exact H)|exact H
   have Ny248:=A_ hy248;clear hy248;have H':=A_ H;clear H;go_enter Tryd.func66,Tryd.ntmps66
   go_wp2_with (first|((with_reducible refine gate_dst (N:=4) rfl ?_);refine box_event ?hg (N:=4) ?hd (cs:=#[.int .i64 0,.slice none 0 0]) (t:=26) ?hr ?_;(case hd=>rfl);(case hg=>rfl);(case hr=>first|(go_simp;done)|(go_simp;rfl));intro gb247 hg w5 hbox hb;have BK247:=A_ (hbox);have GW247:=A_ ((by rw [hg];exact (below_size bb_) : w.heap.size ≤ gb247));have GE247:=A_ ((by rw [hg];exact (below_size bb_) : w.heap.size ≤ gb247));replace HB:=A_ (below_step bb_ hb);clear hb hbox hg)|((with_reducible refine gate_dst (N:=10) rfl ?_);refine Kd.R_make (Kd.int .i64) _ 3 rfl (N:=10) rfl 24 _ _ rfl a0 rfl rfl Tryd.underlying24 (.int .i64 0) 8 info3 rfl (by decide) (by omega) 0 (ok:=fun _=>True) (okp:=fun _=>True) rfl (fun _ hk=>hk) trivial (of_decide_eq_true (by first|(with_reducible assumption)|assumption)) (Nat.le_trans (Nat.mul_le_mul_right _ (of_decide_eq_true (by first|(with_reducible assumption)|assumption) : a0.toNat ≤ 35184372088832)) (by omega)) (Below.refl _ _) (Nat.le_refl _) ?_;intro v249 w6 ho7 hb hg_ hnew_;clear hg_ hnew_;(first|rw [← Ny248.out] at ho7|(simp only [Int.reduceToNat] at ho7;rw [← Ny248.out] at ho7));have HO250:=A_ (Kd.R_lower ho7 (below_size bb_));replace BK247:=bz BK247 hb;replace HB:=A_ (below_step bb_ hb);clear hb ho7;obtain ⟨Ao8,co8,eo8⟩:=Kd.R_slice HO250.out;subst eo8)|((with_reducible refine gate_dst (N:=5) rfl ?_);refine box_event ?hg (N:=5) ?hd (cs:=#[.int .i64 0,.slice none 0 0]) (t:=26) ?hr ?_;(case hd=>rfl);(case hg=>rfl);(case hr=>first|(go_simp;done)|(go_simp;rfl));intro gb251 hg w9 hbox hb;replace HO250:=rb_ HO250 hb;have BK251:=A_ (hbox);have GW251:=A_ ((by rw [hg];exact (below_size bb_) : w.heap.size ≤ gb251));have GE251:=A_ ((by rw [hg];exact (below_size bb_) : w.heap.size ≤ gb251));replace HB:=A_ (below_step bb_ hb);have NB247_251:=A_ ((by rw [hg];exact Nat.ne_of_lt (blk_lt (bl_ BK247)) : gb247 ≠ gb251));have NB251_247:=A_ ((by rw [hg];exact Nat.ne_of_gt (blk_lt (bl_ BK247)) : gb251 ≠ gb247));replace BK247:=bz BK247 hb;clear hb hbox hg;have hnb10:=NB251_247.out;have hnc10:=NB247_251.out;have hcz11_0 : w9.cell? ⟨gb251,0,none⟩ = some (.int .i64 0):=blk_cell BK251.out 0;have hcz11_1 : w9.cell? ⟨gb251,1,none⟩ = some (.slice none 0 0):=blk_cell BK251.out 1;have hfz11_0:=blk_frozen BK251.out 0;have hfz11_1:=blk_frozen BK251.out 1))
   go_loopg [13] k (fun kq v13 w'=>∃ (x13_1 : Int) (x252001_1 : List Int) (u252001 : Value),v13 = .int .i64 x13_1 ∧ Aside0 (impl_relation.l0 is kq a0 a0 x13_1 a0 x252001_1 = some (r1,r2)) ∧ Aside0 (kq ≤ k) ∧ Aside0 (Kd.R (Kd.int .i64) 3 w' w.heap.size (fun _=>True) u252001 x252001_1) ∧ Aside0 (w'.heap[gb247]? = some (.cells #[.int .i64 0,(.slice none 0 0)] 26 (0,0))) ∧ Aside0 (w'.heap[gb251]? = some (.cells #[.int .i64 a0,u252001] 26 (0,0))) ∧ Aside0 (Below w.heap.size w w'))
   case atStart=>exact ⟨(0),(y248),(.slice Ao8 y248.length co8),(by first|rfl|(simp;done)|(simp [*];done)),H',⟨Nat.le_refl _⟩,⟨by (with_reducible repeat (first|apply Kd.R_alloc|apply Kd.R_drewN|apply Kd.R_drew));exact Kd.R_mono (Kd.R_far (p:=⟨gb251,1,none⟩) (Kd.R_far (p:=⟨gb251,0,none⟩) (Kd.R_types HO250.out BK251.out (by decide)) (fun _ hk=>hk.2) (.int .i64 a0)) (fun _ hk=>hk.2) (.slice Ao8 y248.length co8)) (fun _ hk=>trivial)⟩,⟨by (with_reducible repeat (first|refine blk_drewN ?_ _|refine blk_drew ?_|refine blk_alloc ?_ _));refine blk_far ?_ NB247_251.out _;(with_reducible repeat (first|refine blk_drewN ?_ _|refine blk_drew ?_|refine blk_alloc ?_ _));refine blk_far ?_ NB247_251.out _;(with_reducible repeat (first|refine blk_drewN ?_ _|refine blk_drew ?_|refine blk_alloc ?_ _));exact BK247.out⟩,⟨by (with_reducible repeat (first|refine blk_drewN ?_ _|refine blk_drew ?_|refine blk_alloc ?_ _));refine blk_put (cs:=#[.int .i64 a0,.slice none 0 0]) ?_ 1 _ rfl;(with_reducible repeat (first|refine blk_drewN ?_ _|refine blk_drew ?_|refine blk_alloc ?_ _));refine blk_put (cs:=#[.int .i64 0,.slice none 0 0]) ?_ 0 _ rfl;(with_reducible repeat (first|refine blk_drewN ?_ _|refine blk_drew ?_|refine blk_alloc ?_ _));exact BK251.out⟩,⟨bb_⟩⟩
   case round =>
    clear H';try clear c1
    try clear p2
    try clear c3
    try clear c3b0
    try clear c3b1
    try clear c4
    try clear c4b0
    try clear c4b1
    try clear c8
    try clear c10
    try clear hcz11_0
    try clear hcz11_1
    try clear hfz11_0
    try clear hfz11_1
    obtain ⟨x13_1,x252001_1,u252001,rfl,HA,HK1,HO_252001,BK247,BK251,HB⟩:=hrel;cases gk with
    | zero=>exact absurd HA.out (by simp [impl_relation.l0])
    | succ k1 =>
     have H:=HA.out;clear HA;simp only [impl_relation.l0] at H
     by_cases c12 : x13_1 < a0
     ·rw [if_pos c12] at H;have c12b0 : decide (x13_1 < a0) = true:=decide_eq_true c12;clear c12;have H':=A_ H;clear H;go_wp2
      go_loopg [17] k1 (fun kq v17 w'=>∃ (x17_2 : Int) (x252001_2 : List Int) (u252001 : Value),v17 = .int .i64 x17_2 ∧ Aside0 (impl_relation.l1 is kq a0 x13_1 a0 x13_1 a0 x17_2 a0 x252001_2 = some (r1,r2)) ∧ Aside0 (kq ≤ k1) ∧ Aside0 (Kd.R (Kd.int .i64) 3 w' w.heap.size (fun _=>True) u252001 x252001_2) ∧ Aside0 (w'.heap[gb247]? = some (.cells #[.int .i64 0,(.slice none 0 0)] 26 (0,0))) ∧ Aside0 (w'.heap[gb251]? = some (.cells #[.int .i64 a0,u252001] 26 (0,0))) ∧ Aside0 (Below w.heap.size w w'))
      case atStart=>exact ⟨(0),(x252001_1),(u252001),(by first|rfl|(simp;done)|(simp [*];done)),H',⟨Nat.le_refl _⟩,⟨by (with_reducible repeat (first|apply Kd.R_alloc|apply Kd.R_drewN|apply Kd.R_drew));exact HO_252001.out⟩,⟨bl_ BK247⟩,⟨bl_ BK251⟩,⟨bb_⟩⟩
      case round =>
       clear H';try clear c1
       try clear p2
       try clear c3
       try clear c3b0
       try clear c3b1
       try clear c4
       try clear c4b0
       try clear c4b1
       try clear c8
       try clear c10
       try clear c12
       try clear c12b0
       try clear hcz11_0
       try clear hcz11_1
       try clear hfz11_0
       try clear hfz11_1
       try clear p2
       obtain ⟨x17_2,x252001_2,u252001,rfl,HA,HK2,HO_252001,BK247,BK251,HB⟩:=hrel;cases gk with
       | zero=>exact absurd HA.out (by simp [impl_relation.l1])
       | succ k2 =>
        have H:=HA.out;clear HA;simp only [impl_relation.l1] at H
        by_cases c13 : x17_2 < a0
        ·rw [if_pos c13] at H;have c13b0 : decide (x17_2 < a0) = true:=decide_eq_true c13;clear c13;replace H:=Option.bind_eq_some_iff.mp H;obtain ⟨t252,A140,H⟩:=H;replace H : (if t252 = true then (if 0 ≤ x13_1 then (if x13_1 < (x252001_2.length : Int) then (if 0 ≤ x17_2 then (impl_relation.l1 is k2 a0 x13_1 a0 x13_1 a0 (wrap64 (x17_2 + 1)) a0 (x252001_2.set (x13_1 : Int).toNat (Go.bits .or .i64 (rd x252001_2 x13_1) (shl .i64 1 x17_2)))) else (none)) else (none)) else (none)) else (impl_relation.l1 is k2 a0 x13_1 a0 x13_1 a0 (wrap64 (x17_2 + 1)) a0 x252001_2)) = some (r1,r2):=H;have A14:=A_ A140;clear A140;by_cases c15 : t252 = true
         ·subst c15;have H1 : (if 0 ≤ x13_1 then (if x13_1 < (x252001_2.length : Int) then (if 0 ≤ x17_2 then (impl_relation.l1 is k2 a0 x13_1 a0 x13_1 a0 (wrap64 (x17_2 + 1)) a0 (x252001_2.set (x13_1 : Int).toNat (Go.bits .or .i64 (rd x252001_2 x13_1) (shl .i64 1 x17_2)))) else (none)) else (none)) else (none)) = some (r1,r2):=by rw [if_pos rfl] at H;exact H
          clear H;have H:=H1;clear H1;by_cases c16 : 0 ≤ x13_1
          ·rw [if_pos c16] at H;have c16b0 : decide (0 ≤ x13_1) = true:=decide_eq_true c16;clear c16;by_cases c17 : x13_1 < (x252001_2.length : Int)
           ·rw [if_pos c17] at H;have c17b0 : decide (x13_1 < (x252001_2.length : Int)) = true:=decide_eq_true c17;clear c17;by_cases c18 : 0 ≤ x17_2
            ·rw [if_pos c18] at H;have c18b0:=eq_true c18;have c18b1 : decide (0 ≤ x17_2) = true:=decide_eq_true c18;clear c18;obtain ⟨ji19,hji19⟩ : ∃ j_ : Int,(shl .i64 1 x17_2) = j_:=⟨_,rfl⟩;replace H : (impl_relation.l1 is k2 a0 x13_1 a0 x13_1 a0 (wrap64 (x17_2 + 1)) a0 (x252001_2.set (x13_1 : Int).toNat (Go.bits .or .i64 (rd x252001_2 x13_1) (ji19)))) = some (r1,r2):=by first|(rw [hji19] at H;exact H)|(simp only [hji19] at H ⊢;exact H)
             (try rw [hji19] at A14);have hji19_ : (IntKind.i64.wrap (1 * 2 ^ min x17_2.toNat 64)) = ji19:=hji19;have hji19z : x17_2 ≤ 64 → (IntKind.i64.wrap (1 * 2 ^ x17_2.toNat)) = ji19:=shl_small hji19;have hji19u : (IntKind.i64.wrap (2 ^ min x17_2.toNat 64)) = ji19:=by have h_:=hji19_;rw [Int.one_mul] at h_;exact h_
             have hji19v : x17_2 ≤ 64 → (IntKind.i64.wrap (2 ^ x17_2.toNat)) = ji19:=fun hle_=>by have h_:=hji19z hle_;rw [Int.one_mul] at h_;exact h_
             have hji19y : (wrap64 (1 * 2 ^ min x17_2.toNat 64)) = ji19:=(i64_w _).symm.trans hji19_;have hji19x : x17_2 ≤ 64 → (wrap64 (1 * 2 ^ x17_2.toNat)) = ji19:=fun h_=>(i64_w _).symm.trans (hji19z h_)
             obtain ⟨y254,hy254⟩ : ∃ y_ : List Int,y_ = (x252001_2.set (x13_1 : Int).toNat (Go.bits .or .i64 (rd x252001_2 x13_1) (ji19))):=⟨_,rfl⟩;replace H : (impl_relation.l1 is k2 a0 x13_1 a0 x13_1 a0 (wrap64 (x17_2 + 1)) a0 y254) = some (r1,r2):=by first|(rw [hy254];with_reducible exact H)|(have H2_:=(Option.bind_some _ _).symm.trans H;rw [hy254];with_reducible exact H2_)|(have H2_:=(Option.bind_some _ _).symm.trans H;with_reducible exact H2_)|with_reducible exact H|(rw [hy254];exact H)|exact H
             have Ny254:=A_ hy254;clear hy254;have H':=A_ H;clear H;try go_wp2_with (first|(go_at_fn C;(refine (HC.out _ x13_1 x17_2 true ?sideB A14.out).mono ?_);(case sideB=>repeat (first|(with_reducible first|exact HB.out|apply below_alloc|apply pw_below_drewN|apply below_drew1|refine below_set ?_ (Aside0.out (by assumption)))|exact HB.out));rintro e w21 ⟨rfl,hb⟩;replace HO_252001:=rb_ HO_252001 hb;replace BK247:=bz BK247 hb;replace BK251:=bz BK251 hb;replace HB:=A_ (below_step bb_ hb);(try clear hb);(try clear hb2);(try clear hk);(try clear hi)))
             replace HO_252001:=A_ (Kd.R_drew HO_252001.out);replace BK247:=A_ (blk_drew BK247.out);replace BK251:=A_ (blk_drew BK251.out);replace HB:=A_ (below_drew1 HB.out);obtain ⟨Ao23,co23,eo23⟩:=Kd.R_slice HO_252001.out;(first|subst eo23|(injection eo23 with f1_ f2_ f3_;have f4_:=f1_.symm;have f5_:=f3_.symm;clear f1_ f2_ f3_;subst f4_;subst f5_))
             have p253 : 0 ≤ (x13_1 : Int):=of_decide_eq_true (by first|(with_reducible assumption)|assumption);have q253 : x13_1 < (x252001_2.length : Int):=of_decide_eq_true (by first|(with_reducible assumption)|assumption);obtain ⟨ad253,e253,hx253_0⟩:=Kd.at_int (Kd.R_reads' HO_252001.out).2.2 x13_1 p253 q253;cases e253
             replace p253:=eq_true p253;replace q253:=eq_true q253;have p20 : 0 ≤ (x13_1 : Int):=of_decide_eq_true (by first|(with_reducible assumption)|assumption);have q20 : (x13_1 : Int) < ((x252001_2.length : Int) : Int):=of_decide_eq_true (by first|(with_reducible assumption)|assumption);obtain ⟨go20,co20,eo20,gb20,gl20,cl20,HG20⟩:=Kd.R_form HO_252001.out (by omega);(first|cases eo20|(injection eo20 with ea_ en_ ec_;(first|subst ea_|(injection ea_ with ea_;subst ea_));subst ec_;clear en_))
             have GB20:=A_ gb20;have GG20:=A_ HG20;clear gb20 gl20 HG20;(first|simp only [add_plain] at hx253_0|skip)
             obtain ⟨hx20_0,hf20_0⟩:=Kd.R_celln 0 HO_252001.out (x13_1 : Int) p20 q20;replace p20:=eq_true p20;replace q20:=eq_true q20;have HP24:=Kd.R_putn HO_252001.out (x13_1 : Int) (Go.bits .or .i64 (rd x252001_2 x13_1) (ji19));rw [← Ny254.out] at HP24;have HQ24:=A_ HP24;clear HP24;refine start_ (n:=10) (S:=fun w'=>w'.cell? ⟨gb251,0,none⟩ = some (.int .i64 a0) ∧ w'.cell? ⟨gb251,1,none⟩ = some (.slice (some ⟨go20,0,none⟩) x252001_2.length co23) ∧ w'.cell? ⟨go20,(x13_1).toNat,none⟩ = some (.int .i64 (rd x252001_2 x13_1))) (ds:=[9]) #[F,F,F,F,F,F,F,F,F,F] (by kernel_rfl) rfl rfl ⟨blk_cell BK251.out 0,blk_cell BK251.out 1,hx253_0⟩ (fun hHeld=>?_);refine with_tabW impl_relation.tab9 impl_relation.bits9 (fun HT_ HW_=>?_)
             generalize w21.drew = w22 at HO_252001 BK247 BK251 HB GG20 HQ24 hf20_0 hx20_0 hx253_0 hHeld ⊢
             refine pure_ (i:=0) (N:=some 24) (v:=?_) (a':=?_) #[T,F,F,F,F,F,F,F,F,F] rfl rfl (any_of HT_.out (by kernel_rfl)) (fun _ _ _ h=>h) (Or.inl ⟨by rfl,?_⟩) ?_ ?_
             rotate_left;·intro w';go_simp;with_reducible rfl
             rotate_left;·simp only [Act.put,L_,M_,N_,i64_w,i32_w];rfl
             refine pure_ (i:=2) (N:=some 26) (v:=?_) (a':=?_) #[T,F,T,F,F,F,F,F,F,F] rfl rfl (any_of HT_.out (by kernel_rfl)) (fun _ _ _ h=>h) (Or.inl ⟨by rfl,?_⟩) ?_ ?_
             rotate_left;·intro w';go_simp;with_reducible rfl
             rotate_left;·simp only [Act.put,L_,M_,N_,i64_w,i32_w];rfl
             refine pure_ (i:=5) (N:=some 29) (v:=?_) (a':=?_) #[T,F,T,F,F,T,F,F,F,F] rfl rfl (any_of HT_.out (by kernel_rfl)) (fun _ _ _ h=>h) (Or.inl ⟨by rfl,?_⟩) ?_ ?_
             rotate_left;·intro w';go_simp;with_reducible rfl
             rotate_left;·simp only [Act.put,L_,M_,N_,i64_w,i32_w];rfl
             refine pure_ (i:=6) (N:=some 30) (v:=?_) (a':=?_) #[T,F,T,F,F,T,T,F,F,F] rfl rfl (any_of HT_.out (by kernel_rfl)) (fun _ _ _ h=>h) (Or.inl ⟨by rfl,?_⟩) ?_ ?_
             rotate_left;·intro w';go_simp;with_reducible rfl
             rotate_left;·simp only [Act.put,L_,M_,N_,i64_w,i32_w];rfl
             refine take_ (i:=1) (N:=some 25) (v:=?_) (a':=?_) #[T,T,T,F,F,T,T,F,F,F] rfl rfl (take_ofW HT_.out HW_.out (by kernel_rfl)) (fun _ _ _ h=>h) (Or.inl ⟨by rfl,?_⟩) hHeld ?_ ?_
             rotate_left
             ·rintro w' ⟨s0,s1,s2⟩
              go_simp
              with_reducible rfl
             rotate_left;·simp only [Act.put,L_,M_,N_,i64_w,i32_w];rfl
             refine pure_ (i:=3) (N:=some 27) (v:=?_) (a':=?_) #[T,T,T,T,F,T,T,F,F,F] rfl rfl (any_of HT_.out (by kernel_rfl)) (fun _ _ _ h=>h) (Or.inl ⟨by rfl,?_⟩) ?_ ?_
             rotate_left;·intro w';go_simp;with_reducible rfl
             rotate_left;·simp only [Act.put,L_,M_,N_,i64_w,i32_w];rfl
             refine take_ (i:=4) (N:=some 28) (v:=?_) (a':=?_) #[T,T,T,T,T,T,T,F,F,F] rfl rfl (take_ofW HT_.out HW_.out (by kernel_rfl)) (fun _ _ _ h=>h) (Or.inl ⟨by rfl,?_⟩) hHeld ?_ ?_
             rotate_left
             ·rintro w' ⟨s0,s1,s2⟩
              go_simp
              with_reducible rfl
             rotate_left;·simp only [Act.put,L_,M_,N_,i64_w,i32_w];rfl
             refine pure_ (i:=7) (N:=some 31) (v:=?_) (a':=?_) #[T,T,T,T,T,T,T,T,F,F] rfl rfl (any_of HT_.out (by kernel_rfl)) (fun _ _ _ h=>h) (Or.inl ⟨by rfl,?_⟩) ?_ ?_
             rotate_left;·intro w';go_simp;with_reducible rfl
             rotate_left;·simp only [Act.put,L_,M_,N_,i64_w,i32_w];rfl
             refine pure_ (i:=8) (N:=some 32) (v:=?_) (a':=?_) #[T,T,T,T,T,T,T,T,T,F] rfl rfl (any_of HT_.out (by kernel_rfl)) (fun _ _ _ h=>h) (Or.inl ⟨by rfl,?_⟩) ?_ ?_
             rotate_left;·intro w';go_simp;with_reducible rfl
             rotate_left;·simp only [Act.put,L_,M_,N_,i64_w,i32_w];rfl
             refine last_ (i:=9) (N:=none) #[T,T,T,T,T,T,T,T,T,T] rfl rfl (one_of HT_.out (by kernel_rfl)) (by decide) (fun K hK=>?_)
             refine skip_ (w1:=?_) (by rfl) rfl ?_ ?_
             rotate_left
             ·go_simp
              rfl
             refine hK.out _ _ ?_
             clear hK K;refine done_ (done_of HT_.out (by kernel_rfl)) ?_
             try go_wp2
             go_roundg k2
             case measure=>have:=HK1.out;have:=HK2.out;omega
             case rel=>exact ⟨(wrap64 (x17_2 + 1)),(y254),(.slice (some ⟨go20,0,none⟩) x252001_2.length co23),(by first|rfl|(simp;done)|(simp [*];done)),H',⟨by have:=HK1.out;have:=HK2.out;omega⟩,⟨by (with_reducible repeat (first|apply Kd.R_alloc|apply Kd.R_drewN|apply Kd.R_drew));exact HQ24.out⟩,⟨by (with_reducible repeat (first|refine blk_drewN ?_ _|refine blk_drew ?_|refine blk_alloc ?_ _));refine blk_far ?_ (by have h_:=Kd.R_ne HO_252001.out BK247.out (by decide);intro e_;exact h_ (by rw [e_];rfl)) _;(with_reducible repeat (first|refine blk_drewN ?_ _|refine blk_drew ?_|refine blk_alloc ?_ _));exact BK247.out⟩,⟨by (with_reducible repeat (first|refine blk_drewN ?_ _|refine blk_drew ?_|refine blk_alloc ?_ _));refine blk_far ?_ (by have h_:=Kd.R_ne HO_252001.out BK251.out (by decide);intro e_;exact h_ (by rw [e_];rfl)) _;(with_reducible repeat (first|refine blk_drewN ?_ _|refine blk_drew ?_|refine blk_alloc ?_ _));exact BK251.out⟩,⟨by repeat (first|(with_reducible first|exact HB.out|apply below_alloc|apply pw_below_drewN|apply below_drew1|refine below_set ?_ GB20.out|refine below_set ?_ (Aside0.out (by assumption)))|exact HB.out)⟩⟩
            ·rw [if_neg c18] at H;exact absurd H (by simp)
           ·rw [if_neg c17] at H;exact absurd H (by simp)
          ·rw [if_neg c16] at H;exact absurd H (by simp)
         ·replace c15:=Bool.eq_false_iff.mpr c15;subst c15;have H1 : (impl_relation.l1 is k2 a0 x13_1 a0 x13_1 a0 (wrap64 (x17_2 + 1)) a0 x252001_2) = some (r1,r2):=by rw [if_neg (show ¬ (false = true) by decide)] at H;exact H
          clear H;have H:=H1;clear H1;have H':=A_ H;clear H;go_wp2_with (first|(go_at_fn C;(refine (HC.out _ x13_1 x17_2 false ?sideB A14.out).mono ?_);(case sideB=>repeat (first|(with_reducible first|exact HB.out|apply below_alloc|apply pw_below_drewN|apply below_drew1|refine below_set ?_ (Aside0.out (by assumption)))|exact HB.out));rintro e w25 ⟨rfl,hb⟩;replace HO_252001:=rb_ HO_252001 hb;replace BK247:=bz BK247 hb;replace BK251:=bz BK251 hb;replace HB:=A_ (below_step bb_ hb);(try clear hb);(try clear hb2);(try clear hk);(try clear hi)))
          go_roundg k2
          case measure=>have:=HK1.out;have:=HK2.out;omega
          case rel=>exact ⟨(wrap64 (x17_2 + 1)),(x252001_2),(u252001),(by first|rfl|(simp;done)|(simp [*];done)),H',⟨by have:=HK1.out;have:=HK2.out;omega⟩,⟨by (with_reducible repeat (first|apply Kd.R_alloc|apply Kd.R_drewN|apply Kd.R_drew));exact HO_252001.out⟩,⟨bl_ BK247⟩,⟨bl_ BK251⟩,⟨bb_⟩⟩
        ·rw [if_neg c13] at H;have c13b0 : decide (x17_2 < a0) = false:=decide_eq_false c13;clear c13;have H':=A_ H;clear H;go_wp2
         go_roundg k2
         case measure=>have:=HK1.out;have:=HK2.out;omega
         case rel=>exact ⟨(wrap64 (x13_1 + 1)),(x252001_2),(u252001),(by first|rfl|(simp;done)|(simp [*];done)),H',⟨by have:=HK1.out;have:=HK2.out;omega⟩,⟨by (with_reducible repeat (first|apply Kd.R_alloc|apply Kd.R_drewN|apply Kd.R_drew));exact HO_252001.out⟩,⟨bl_ BK247⟩,⟨bl_ BK251⟩,⟨bb_⟩⟩
     ·rw [if_neg c12] at H;have c12b0 : decide (x13_1 < a0) = false:=decide_eq_false c12;clear c12;simp only [Option.some.injEq,Prod.mk.injEq] at H
      obtain ⟨rfl,rfl⟩:=H;have hnb26:=NB251_247.out;have hnc26:=NB247_251.out;have hcz27_0 : wr.cell? ⟨gb251,0,none⟩ = some (.int .i64 a0):=blk_cell BK251.out 0;have hcz27_1 : wr.cell? ⟨gb251,1,none⟩ = some (u252001):=blk_cell BK251.out 1;have hfz27_0:=blk_frozen BK251.out 0;have hfz27_1:=blk_frozen BK251.out 1;have hcz28_0 : wr.cell? ⟨gb247,0,none⟩ = some (.int .i64 0):=blk_cell BK247.out 0;have hcz28_1 : wr.cell? ⟨gb247,1,none⟩ = some (.slice none 0 0):=blk_cell BK247.out 1;have hfz28_0:=blk_frozen BK247.out 0;have hfz28_1:=blk_frozen BK247.out 1;obtain ⟨Ao29,co29,eo29⟩:=Kd.R_slice HO_252001.out;subst eo29;go_wp2
      refine bodyPost_ret (results_cell_row rfl _ _ gb247 26 #[.int .i64 a0,.slice Ao29 x252001_1.length co29] (0,0) _ rfl (by (with_reducible repeat (first|refine blk_drewN ?_ _|refine blk_drew ?_|refine blk_alloc ?_ _));refine blk_put (cs:=#[.int .i64 a0,.slice none 0 0]) ?_ 1 _ rfl;(with_reducible repeat (first|refine blk_drewN ?_ _|refine blk_drew ?_|refine blk_alloc ?_ _));refine blk_put (cs:=#[.int .i64 0,.slice none 0 0]) ?_ 0 _ rfl;(with_reducible repeat (first|refine blk_drewN ?_ _|refine blk_drew ?_|refine blk_alloc ?_ _));exact BK247.out) Tryd.underlying26 rfl (by kernel_rfl)) rfl ?_
      exact ⟨_,by first|rfl|(simp [errW_none,errW_some] <;> rfl)|(simp [*,errW_none,errW_some] <;> rfl),by (with_reducible repeat (first|apply Kd.R_alloc|apply Kd.R_drewN|apply Kd.R_drew));exact Kd.R_mono (Kd.R_far (p:=⟨gb247,1,none⟩) (Kd.R_far (p:=⟨gb247,0,none⟩) (Kd.R_types HO_252001.out BK247.out (by decide)) (fun _ hk=>hk.2) (.int .i64 a0)) (fun _ hk=>hk.2) (.slice Ao29 x252001_1.length co29)) (fun _ hk=>trivial),bb_⟩
  ·rw [if_neg c4] at H;exact absurd H (by simp)
 ·rw [if_neg c3] at H;exact absurd H (by simp)
def impl_Order_mirror_1.f (a0 : Int) (a1 : Int) (a2_0 : Int) (l2_1 : List Int) : Option (Bool) := (impl_Order_better.f a2_0 l2_1 a1 a0).bind fun t298 => (some t298)
set_option maxHeartbeats 8000000 in
set_option maxRecDepth 100000 in
theorem impl_Order_mirror_1.calls (a0 : Int) (a1 : Int) (g2_ : Nat) (a2_0 : Int) (A2_1 : Option Addr) (c2_1 : Nat) (l2_1 : List Int) (r : Bool) (w : World) (hb2 : w.heap[g2_]? = some (.cells #[.int .i64 a2_0,.slice A2_1 l2_1.length c2_1] 26 (0,0))) (hr2_1 : Kd.C (Kd.int .i64) w A2_1 l2_1.length l2_1) (hc2_1 : l2_1.length ≤ c2_1) (h : impl_Order_mirror_1.f a0 a1 a2_0 l2_1 = some r) :
 Calls Tryd.prog 118 #[.int .i64 a0,.int .i64 a1,.pointer (some ⟨g2_,0,none⟩)] w fun e w'=>e = .returned (.bool r) ∧ Below w.heap.size w w':=by
 have hu26:=Tryd.underlying26;have HR2_1:=A_ hr2_1;have HC2_1:=A_ hc2_1;clear hr2_1 hc2_1;have BK297:=A_ hb2;clear hb2;have HB:=A_ (Below.refl w.heap.size w);have H : ((impl_Order_better.f a2_0 l2_1 a1 a0).bind fun t298=>(some t298)) = some r:=h;clear h;replace H:=Option.bind_eq_some_iff.mp H;obtain ⟨t298,A40,H⟩:=H;replace H : (some t298) = some r:=H;have A4:=A_ A40;clear A40;obtain rfl:=Option.some.inj H;have hcz5_0 : w.cell? ⟨g2_,0,none⟩ = some (.int .i64 a2_0):=blk_cell BK297.out 0;have hcz5_1 : w.cell? ⟨g2_,1,none⟩ = some (.slice A2_1 l2_1.length c2_1):=blk_cell BK297.out 1;have hfz5_0:=blk_frozen BK297.out 0;have hfz5_1:=blk_frozen BK297.out 1;go_enter Tryd.func118,Tryd.ntmps118
 go_wp2_with (first|((with_reducible refine gate_callee (f:=69) rfl ?_);refine goesL_ (some 9) rfl rfl Tryd.func69 (by kernel_rfl) rfl #[.agg #[.int .i64 a2_0,.slice A2_1 l2_1.length c2_1],.int .i64 a1,.int .i64 a0] rfl au_ ?_;(with_reducible refine (impl_Order_better.calls a2_0 _ _ l2_1 a1 a0 t298 _ ?side1 ?side2 A4.out).mono ?_);(case side1=>repeat (first|exact HR2_1.out|(with_reducible refine Kd.C_alloc ?_ _)|(with_reducible refine Kd.C_drewN ?_ _)|(with_reducible refine Kd.C_drew ?_)));(case side2=>exact HC2_1.out);rintro e w6 ⟨rfl,hb⟩;refine ⟨_,rfl,?_⟩;replace BK297:=bz BK297 hb;replace HB:=A_ (below_step bb_ hb);(try clear hb);(try clear hb2);(try clear hk);(try clear hi)))
 go_ret
 exact ⟨by first|rfl|(simp [errW_none,errW_some] <;> rfl)|(simp [*,errW_none,errW_some] <;> rfl),bb_⟩
end Go.Proofs.YtfjpilcmjabikaaDoor.P
namespace Go.Proofs.YtfjpilcmjabikaaDoor.P
open Go.RowKit Go.Proofs.YtfjpilcmjabikaaDoorW.PrintWords Go.Proofs.YtfjpilcmjabikaaDoorW.PrintLast Go.Proofs.YtfjpilcmjabikaaDoorW.PrintMore
open Bool renaming true → T, false → F
open List renaming setIfInBounds_toArray → L_, set_cons_zero → M_, set_cons_succ → N_, map_toArray → P_, map_cons → Q_, map_nil → R_, length_drop → S_, length_take → U_
open Aside0 renaming mk → A_
attribute [local go_sem] max2_int min2_int max_two min_two max_three min_three max_four min_four
set_option linter.unusedVariables false
set_option linter.unusedSimpArgs false
attribute [local go_sem] fldOrder_0 fldOrder_1
def impl_Order_mirror.f (k : Nat) (a0_0 : Int) (l0_1 : List Int) : Option (Int × List Int) := (impl_relation.f k a0_0 (fun x0_ x1_ => impl_Order_mirror_1.f x0_ x1_ a0_0 l0_1)).bind fun bt301 => (some (bt301.1, bt301.2))
set_option maxHeartbeats 8000000 in
set_option maxRecDepth 100000 in
theorem impl_Order_mirror.calls (k : Nat) (a0_0 : Int) (A0_1 : Option Addr) (c0_1 : Nat) (l0_1 : List Int) (r1 : Int) (r2 : List Int) (w : World) (hr0_1 : Kd.C (Kd.int .i64) w A0_1 l0_1.length l0_1) (hc0_1 : l0_1.length ≤ c0_1) (h : impl_Order_mirror.f k a0_0 l0_1 = some (r1,r2)) :
 Calls Tryd.prog 68 #[.agg #[.int .i64 a0_0,.slice A0_1 l0_1.length c0_1]] w fun e w'=>∃ v1_ : Value,e = .returned (.agg #[.int .i64 r1,v1_]) ∧ Kd.R (Kd.int .i64) 3 w' w.heap.size (fun _=>True) v1_ r2 ∧ Below w.heap.size w w':=by
 have hu26:=Tryd.underlying26;have HR0_1:=A_ hr0_1;have HC0_1:=A_ hc0_1;clear hr0_1 hc0_1;have HB:=A_ (Below.refl w.heap.size w);have H : ((impl_relation.f k a0_0 (fun x0_ x1_=>impl_Order_mirror_1.f x0_ x1_ a0_0 l0_1)).bind fun bt301=>(some (bt301.1,bt301.2))) = some (r1,r2):=h;clear h;replace H:=Option.bind_eq_some_iff.mp H;obtain ⟨⟨t301,t302⟩,A20,H⟩:=H;replace H : (some (t301,t302)) = some (r1,r2):=H;have A2:=A_ A20;clear A20;simp only [Option.some.injEq,Prod.mk.injEq] at H
 obtain ⟨rfl,rfl⟩:=H;go_enter Tryd.func68,Tryd.ntmps68
 go_wp2_with (first|((with_reducible refine gate_dst (N:=1) rfl ?_);refine box_event ?hg (N:=1) ?hd (cs:=#[.int .i64 a0_0,.slice A0_1 l0_1.length c0_1]) (t:=26) ?hr ?_;(case hd=>rfl);(case hg=>rfl);(case hr=>first|(go_simp;done)|(go_simp;rfl));intro gb299 hg w3 hbox hb;have BK299:=A_ (hbox);have GW299:=A_ ((by rw [hg];exact (below_size bb_) : w.heap.size ≤ gb299));have GE299:=A_ ((by rw [hg];exact (below_size bb_) : w.heap.size ≤ gb299));replace HB:=A_ (below_step bb_ hb);clear hb hbox hg)|((with_reducible refine gate_dst (N:=2) rfl ?_);refine box_event ?hg (N:=2) ?hd (cs:=#[.int .i64 0,.slice none 0 0]) (t:=26) ?hr ?_;(case hd=>rfl);(case hg=>rfl);(case hr=>first|(go_simp;done)|(go_simp;rfl));intro gb300 hg w4 hbox hb;have BK300:=A_ (hbox);have GW300:=A_ ((by rw [hg];exact (below_size bb_) : w.heap.size ≤ gb300));have GE300:=A_ ((by rw [hg];exact (below_size bb_) : w.heap.size ≤ gb300));replace HB:=A_ (below_step bb_ hb);have NB299_300:=A_ ((by rw [hg];exact Nat.ne_of_lt (blk_lt (bl_ BK299)) : gb299 ≠ gb300));have NB300_299:=A_ ((by rw [hg];exact Nat.ne_of_gt (blk_lt (bl_ BK299)) : gb300 ≠ gb299));replace BK299:=bz BK299 hb;clear hb hbox hg;have hnb5:=NB299_300.out;have hnc5:=NB300_299.out;have hcz6_0 : w4.cell? ⟨gb299,0,none⟩ = some (.int .i64 a0_0):=blk_cell BK299.out 0;have hcz6_1 : w4.cell? ⟨gb299,1,none⟩ = some (.slice A0_1 l0_1.length c0_1):=blk_cell BK299.out 1;have hfz6_0:=blk_frozen BK299.out 0;have hfz6_1:=blk_frozen BK299.out 1)|((with_reducible refine gate_callee (f:=66) rfl ?_);refine goesL_ (some 6) rfl rfl Tryd.func66 (by kernel_rfl) rfl #[.int .i64 a0_0,.func (.func 118) #[] #[.pointer (some ⟨gb299,0,none⟩)]] rfl au_ ?_;(with_reducible refine (impl_relation.calls k a0_0 (fun x0_ x1_=>impl_Order_mirror_1.f x0_ x1_ a0_0 l0_1) t301 t302 _ _ _ ?side1 ?side2 A2.out).mono ?_);(case side1=>exact fun a_ w_=>enters_of Tryd.func118 (by kernel_rfl) rfl a_ w_);(case side2=>(intro W_ x0_ x1_ r_ hB_ h_;refine Calls.mono (impl_Order_mirror_1.calls x0_ x1_ gb299 a0_0 _ _ l0_1 r_ W_ (blk_below (g:=gb299) (o:=.cells #[.int .i64 a0_0,.slice A0_1 l0_1.length c0_1] 26 (0,0)) (bl_ BK299) hB_) (Kd.C_below (by exact cl_ (Kd.C_below HR0_1.out HB.out)) hB_) (by exact HC0_1.out) h_) ?_;rintro e_ w_ ⟨h1_,h2_⟩;exact ⟨h1_,h2_⟩));rintro e w7 ⟨v303,rfl,ho0,hb⟩;refine ⟨_,rfl,?_⟩;have HO304:=A_ (Kd.R_lower ho0 (below_size bb_));replace BK299:=bz BK299 hb;replace BK300:=bz BK300 hb;replace HB:=A_ (below_step bb_ hb);(try clear hb);(try clear hb2);(try clear hk);(try clear hi);(try clear ho0);have hcz8_0 : w7.cell? ⟨gb300,0,none⟩ = some (.int .i64 0):=blk_cell BK300.out 0;have hcz8_1 : w7.cell? ⟨gb300,1,none⟩ = some (.slice none 0 0):=blk_cell BK300.out 1;have hfz8_0:=blk_frozen BK300.out 0;have hfz8_1:=blk_frozen BK300.out 1;obtain ⟨Ao9,co9,eo9⟩:=Kd.R_slice HO304.out;subst eo9))
 refine bodyPost_ret (results_cell_row rfl _ _ gb300 26 #[.int .i64 t301,.slice Ao9 t302.length co9] (0,0) _ rfl (by (with_reducible repeat (first|refine blk_drewN ?_ _|refine blk_drew ?_|refine blk_alloc ?_ _));refine blk_put (cs:=#[.int .i64 t301,.slice none 0 0]) ?_ 1 _ rfl;(with_reducible repeat (first|refine blk_drewN ?_ _|refine blk_drew ?_|refine blk_alloc ?_ _));refine blk_put (cs:=#[.int .i64 0,.slice none 0 0]) ?_ 0 _ rfl;(with_reducible repeat (first|refine blk_drewN ?_ _|refine blk_drew ?_|refine blk_alloc ?_ _));exact BK300.out) Tryd.underlying26 rfl (by kernel_rfl)) rfl ?_
 exact ⟨_,by first|rfl|(simp [errW_none,errW_some] <;> rfl)|(simp [*,errW_none,errW_some] <;> rfl),by (with_reducible repeat (first|apply Kd.R_alloc|apply Kd.R_drewN|apply Kd.R_drew));exact Kd.R_mono (Kd.R_far (p:=⟨gb300,1,none⟩) (Kd.R_far (p:=⟨gb300,0,none⟩) (Kd.R_types HO304.out BK300.out (by decide)) (fun _ hk=>hk.2) (.int .i64 t301)) (fun _ hk=>hk.2) (.slice Ao9 t302.length co9)) (fun _ hk=>trivial),bb_⟩
end Go.Proofs.YtfjpilcmjabikaaDoor.P
namespace Go.Proofs.YtfjpilcmjabikaaDoor.HD
open Go.RowKit Go.Shelf Go.Maps Go.Sort Go.Proofs.YtfjpilcmjabikaaDoorW.PrintMore Go.Proofs.YtfjpilcmjabikaaDoorW.PrintLast Go.Proofs.YtfjpilcmjabikaaDoorW.PrintWords
attribute [local go_sem] Oper.semAt_some
def sortL_ren : Go.Shelf.Ren := ⟨fun | 5 => 164 | 8 => 174 | 7 => 173 | 19 => 188 | 20 => 176 | 10 => 179 | 11 => 180 | 12 => 181 | 13 => 182 | 14 => 183 | 15 => 184 | 16 => 185 | 17 => 186 | 18 => 187 | 30 => 189 | 31 => 190 | 32 => 191 | 33 => 192 | 34 => 193 | 35 => 162 | 40 => 194 | n => n, fun | 23 => 24 | 25 => 3 | 3 => 3 | 32 => 91 | 22 => 24 | 0 => 0 | 44 => 104 | 46 => 60 | 4 => 4 | 36 => 140 | 35 => 139 | 41 => 47 | 5 => 5 | 9 => 9 | 53 => 144 | 57 => 148 | 63 => 150 | 64 => 151 | n => n, fun | n => n⟩
theorem sortL : Go.Proofs.SlLaysM.n5 Tryd.prog sortL_ren := {
  mixed := by kernel_rfl,
  f5 := ⟨Tryd.f164.name, by decide, Tryd.func164.trans (congrArg some (by kernel_rfl))⟩,
  f7 := ⟨Tryd.f173.name, by decide, Tryd.func173.trans (congrArg some (by kernel_rfl))⟩,
  f8 := Tryd.func174.trans (congrArg some (by kernel_rfl)),
  f10 := ⟨Tryd.f179.name, by decide, Tryd.func179.trans (congrArg some (by kernel_rfl))⟩,
  f11 := ⟨Tryd.f180.name, by decide, Tryd.func180.trans (congrArg some (by kernel_rfl))⟩,
  f12 := ⟨Tryd.f181.name, by decide, Tryd.func181.trans (congrArg some (by kernel_rfl))⟩,
  f13 := ⟨Tryd.f182.name, by decide, Tryd.func182.trans (congrArg some (by kernel_rfl))⟩,
  f14 := ⟨Tryd.f183.name, by decide, Tryd.func183.trans (congrArg some (by kernel_rfl))⟩,
  f15 := ⟨Tryd.f184.name, by decide, Tryd.func184.trans (congrArg some (by kernel_rfl))⟩,
  f16 := ⟨Tryd.f185.name, by decide, Tryd.func185.trans (congrArg some (by kernel_rfl))⟩,
  f17 := ⟨Tryd.f186.name, by decide, Tryd.func186.trans (congrArg some (by kernel_rfl))⟩,
  f18 := ⟨Tryd.f187.name, by decide, Tryd.func187.trans (congrArg some (by kernel_rfl))⟩,
  f19 := Tryd.func188.trans (congrArg some (by kernel_rfl)),
  f20 := Tryd.func176.trans (congrArg some (by kernel_rfl)),
  f30 := ⟨Tryd.f189.name, by decide, Tryd.func189.trans (congrArg some (by kernel_rfl))⟩,
  f31 := Tryd.func190.trans (congrArg some (by kernel_rfl)),
  f32 := Tryd.func191.trans (congrArg some (by kernel_rfl)),
  f33 := ⟨Tryd.f192.name, by decide, Tryd.func192.trans (congrArg some (by kernel_rfl))⟩,
  f34 := ⟨Tryd.f193.name, by decide, Tryd.func193.trans (congrArg some (by kernel_rfl))⟩,
  f35 := ⟨Tryd.f162.name, by decide, Tryd.func162.trans (congrArg some (by kernel_rfl))⟩,
  f40 := ⟨Tryd.f194.name, by decide, Tryd.func194.trans (congrArg some (by kernel_rfl))⟩,
  t0 := Tryd.underlying0,
  a0 := Tryd.isAgg0,
  z0 := Tryd.sizeOf0,
  v0 := Tryd.zeroValue0,
  t3 := Tryd.underlying3,
  a3 := Tryd.isAgg3,
  z3 := Tryd.sizeOf3,
  v3 := Tryd.zeroValue3,
  t4 := Tryd.underlying4,
  a4 := Tryd.isAgg4,
  z4 := Tryd.sizeOf4,
  v4 := Tryd.zeroValue4,
  t5 := Tryd.underlying5,
  a5 := Tryd.isAgg5,
  z5 := Tryd.sizeOf5,
  v5 := Tryd.zeroValue5,
  t9 := Tryd.underlying9,
  a9 := Tryd.isAgg9,
  z9 := Tryd.sizeOf9,
  v9 := Tryd.zeroValue9,
  t22 := Tryd.underlying24,
  a22 := Tryd.isAgg24,
  z22 := Tryd.sizeOf24,
  v22 := Tryd.zeroValue24,
  t23 := Tryd.underlying24,
  a23 := Tryd.isAgg24,
  z23 := Tryd.sizeOf24,
  v23 := Tryd.zeroValue24,
  t25 := Tryd.underlying3,
  a25 := Tryd.isAgg3,
  z25 := Tryd.sizeOf3,
  v25 := Tryd.zeroValue3,
  t32 := Tryd.underlying91,
  a32 := Tryd.isAgg91,
  z32 := Tryd.sizeOf91,
  v32 := Tryd.zeroValue91,
  t35 := Tryd.underlying139,
  a35 := Tryd.isAgg139,
  z35 := Tryd.sizeOf139,
  v35 := Tryd.zeroValue139,
  t36 := Tryd.underlying140,
  a36 := Tryd.isAgg140,
  z36 := Tryd.sizeOf140,
  v36 := Tryd.zeroValue140,
  t41 := Tryd.underlying47,
  a41 := Tryd.isAgg47,
  z41 := Tryd.sizeOf47,
  v41 := Tryd.zeroValue47,
  t44 := Tryd.underlying104,
  a44 := Tryd.isAgg104,
  z44 := Tryd.sizeOf104,
  v44 := Tryd.zeroValue104,
  t46 := Tryd.underlying60,
  a46 := Tryd.isAgg60,
  z46 := Tryd.sizeOf60,
  v46 := Tryd.zeroValue60,
  t53 := Tryd.underlying144,
  a53 := Tryd.isAgg144,
  z53 := Tryd.sizeOf144,
  v53 := Tryd.zeroValue144,
  t57 := Tryd.underlying148,
  a57 := Tryd.isAgg148,
  z57 := Tryd.sizeOf148,
  v57 := Tryd.zeroValue148,
  t63 := Tryd.underlying150,
  a63 := Tryd.isAgg150,
  z63 := Tryd.sizeOf150,
  v63 := Tryd.zeroValue150,
  t64 := Tryd.underlying151,
  a64 := Tryd.isAgg151,
  z64 := Tryd.sizeOf151,
  v64 := Tryd.zeroValue151 }
def compactL_ren : Go.Shelf.Ren := ⟨fun | 43 => 155 | n => n, fun | 22 => 24 | 23 => 3 | 3 => 3 | 4 => 4 | 0 => 0 | n => n, fun | n => n⟩
theorem compactL : Go.Proofs.SlLaysN.n43 Tryd.prog compactL_ren := {
  mixed := by kernel_rfl,
  f43 := ⟨Tryd.f155.name, by decide, Tryd.func155.trans (congrArg some (by kernel_rfl))⟩,
  t0 := Tryd.underlying0,
  a0 := Tryd.isAgg0,
  z0 := Tryd.sizeOf0,
  v0 := Tryd.zeroValue0,
  t3 := Tryd.underlying3,
  a3 := Tryd.isAgg3,
  z3 := Tryd.sizeOf3,
  v3 := Tryd.zeroValue3,
  t4 := Tryd.underlying4,
  a4 := Tryd.isAgg4,
  z4 := Tryd.sizeOf4,
  v4 := Tryd.zeroValue4,
  t22 := Tryd.underlying24,
  a22 := Tryd.isAgg24,
  z22 := Tryd.sizeOf24,
  v22 := Tryd.zeroValue24,
  t23 := Tryd.underlying3,
  a23 := Tryd.isAgg3,
  z23 := Tryd.sizeOf3,
  v23 := Tryd.zeroValue3,
  i23 := by kernel_rfl }
def upto {α : Type} (f : Nat → α) (k : Nat) : List α := (List.range k).map f
theorem upto_succ {α : Type} (f : Nat → α) (k : Nat) : upto f (k + 1) = upto f k ++ [f k] := by simp [upto, List.range_succ]
theorem upto_length {α : Type} (f : Nat → α) (k : Nat) : (upto f k).length = k := by simp [upto]
theorem upto_all (zs : List Int) : upto (fun j => zs[j]?.getD 0) zs.length = zs := by
  apply List.ext_getElem
  · simp [upto]
  · intro i h1 h2
    simp [upto, h2]
theorem upto_take (zs : List Int) {k : Nat} (hk : k ≤ zs.length) : upto (fun j => zs[j]?.getD 0) k = zs.take k := by
  apply List.ext_getElem
  · simp [upto, hk]
  · intro i h1 h2
    have : i < zs.length := by simp [upto] at h1; omega
    simp [upto, this]
set_option maxRecDepth 100000 in
set_option maxHeartbeats 2000000 in
theorem values1_in (F : Fence) (n : Nat) (h7 : F.fn 165) (hro : F.round = none) (hn : 1 ≤ n) (l Bs n₀ b off len cap : Nat) (zs : List Int) (hreach : len * 8 ≤ 140737488351232) (hb : b < n₀) (J Jx : List Int → World → Prop)
    (hY : ∀ pre x W, J pre W → pre.length < len → YieldAt F (n - 1) Tryd.prog l #[.int .i64 x] W fun e W' =>
      (e = .returned (.bool true) ∧ J (pre ++ [x]) W' ∧ Below n₀ W W') ∨ (e = .returned (.bool false) ∧ Jx (pre ++ [x]) W'))
    (W : World) (hBs : W.cell? ⟨Bs, 0, none⟩ = some (.slice (some ⟨b, off, none⟩) len cap)) (hc : ∀ j, j < len → W.cell? ⟨b, off + j, none⟩ = some (.int .i64 (zs[j]?.getD 0))) (h0 : J [] W) :
    CallsIn F n Tryd.prog 165 #[.func (.yield l) #[] #[], .pointer (some ⟨Bs, 0, none⟩)] W fun e W' => (∃ v, e = .returned v) ∧
      ((∃ ys, ys = upto (fun j => zs[j]?.getD 0) len ∧ J ys W') ∨ (∃ pre, (∃ k, k ≤ len ∧ pre = upto (fun j => zs[j]?.getD 0) k) ∧ Jx pre W')) := by
  refine callsIn_of_wp Tryd.func165 rfl h7 ?_ hro
  simp only [Tryd.ntmps165, List.size_toArray, List.length_cons, List.length_nil, Nat.reduceAdd, Nat.reduceSub, Array.replicate_succ, Array.replicate_zero, List.push_toArray, List.append_toArray, List.nil_append, List.cons_append]
  gi_wp2
  gi_loopw [7] (fun i wr => ∃ k : Nat, k ≤ len ∧ i = .int .i64 k ∧ J (upto (fun j => zs[j]?.getD 0) k) wr ∧ Below n₀ W wr)
    (fun i _ => len - (intOf i).toNat)
  case atStart => exact ⟨0, Nat.zero_le _, rfl, h0, Below.refl _ _⟩
  case round =>
    obtain ⟨k, hk, rfl, hJs, hnx⟩ := hrel
    have hcx : k < len → wr.cell? ⟨b, off + k, none⟩ = some (.int .i64 (zs[k]?.getD 0)) := fun h => (hnx.cell (p := ⟨b, off + k, none⟩) hb).trans (hc k h)
    by_cases hlt : k < len
    · obtain ⟨fn, tmps, assign, body, hy, hR⟩ := hY _ (zs[k]?.getD 0) wr hJs (by rw [upto_length]; exact hlt)
      have hcx' := hcx hlt
      gi_wp2
      refine hR.mono ?_
      rintro e W3 (⟨rfl, hJ3, hk3⟩ | ⟨rfl, hJx3⟩)
      · gi_wp2
        go_roundw
        case rel => exact ⟨k + 1, by omega, by simp, by rw [upto_succ]; exact hJ3, hnx.trans hk3⟩
        case measure => simp [intOf]; omega
      · gi_wp2
        refine bodyPost_ret (results_none rfl _ _ _) rfl ?_
        exact ⟨⟨_, rfl⟩, .inr ⟨_, ⟨k + 1, by omega, (upto_succ _ _).symm⟩, hJx3⟩⟩
    · obtain rfl : k = len := by omega
      gi_wp2
      go_end0
      exact ⟨⟨_, rfl⟩, .inl ⟨_, rfl, hJs⟩⟩
set_option maxRecDepth 100000 in
set_option maxHeartbeats 1000000 in
theorem values1_none_in (F : Fence) (n : Nat) (h7 : F.fn 165) (hro : F.round = none) (l Bs cap : Nat) (A : Option Addr) (J : List Int → World → Prop) (W : World) (hBs : W.cell? ⟨Bs, 0, none⟩ = some (.slice A 0 cap)) (h0 : J [] W) :
    CallsIn F n Tryd.prog 165 #[.func (.yield l) #[] #[], .pointer (some ⟨Bs, 0, none⟩)] W fun e W' => (∃ v, e = .returned v) ∧ J [] W' := by
  refine callsIn_of_wp Tryd.func165 rfl h7 ?_ hro
  simp only [Tryd.ntmps165, List.size_toArray, List.length_cons, List.length_nil, Nat.reduceAdd, Nat.reduceSub, Array.replicate_succ, Array.replicate_zero, List.push_toArray, List.append_toArray, List.nil_append, List.cons_append]
  gi_wp2
  gi_loopw [7] (fun i wr => i = .int .i64 0 ∧ J [] wr) (fun _ _ => 0)
  case atStart => exact ⟨rfl, h0⟩
  case round =>
    obtain ⟨rfl, hJs⟩ := hrel
    gi_wp2
    go_end0
    exact ⟨⟨_, rfl⟩, hJs⟩
def Ints (n₀ : Nat) (W : World) (sv : Value) (zs : List Int) : Prop :=
  (∃ A c, sv = .slice A 0 c ∧ zs = []) ∨ ∃ b off cap, sv = .slice (some ⟨b, off, none⟩) zs.length cap ∧ b < n₀ ∧ ∀ j, j < zs.length → W.cell? ⟨b, off + j, none⟩ = some (.int .i64 (zs[j]?.getD 0))
theorem Ints.below {n₀ : Nat} {A B : World} (h : Below n₀ A B) {sv : Value} {zs : List Int} : Ints n₀ A sv zs → Ints n₀ B sv zs
  | .inl e => .inl e
  | .inr ⟨b, off, cap, e, hb, hc⟩ => .inr ⟨b, off, cap, e, hb, fun j hj => (h.cell (p := ⟨b, off + j, none⟩) hb).trans (hc j hj)⟩
theorem values_stops (F : Fence) (n : Nat) (h7 : F.fn 165) (hro : F.round = none) (hn : 1 ≤ n) (Bs n₀ : Nat) (sv : Value) (zs : List Int) (hreach : zs.length * 8 ≤ 140737488351232) (w : World) (hBs : Bs < w.heap.size) (hn₀ : n₀ ≤ w.heap.size)
    (hc : w.cell? ⟨Bs, 0, none⟩ = some sv) (hI : Ints n₀ w sv zs) :
    SeqStopsK F n Tryd.prog 165 #[.pointer (some ⟨Bs, 0, none⟩)] (fun x : Int => #[Value.int .i64 x]) (Below n₀) (fun ys => ys = zs) (fun pre => pre <+: zs) zs.length w := fun l J Jx W hW _ _ hY h0 => by
  have hc' := (hW.cell (p := ⟨Bs, 0, none⟩) hBs).trans hc
  rcases hI.below (hW.mono hn₀) with ⟨A, c, rfl, rfl⟩ | ⟨b, off, cap, rfl, hb, hcs⟩
  · exact (values1_none_in F n h7 hro l Bs c A J W hc' h0).mono fun e W' ⟨he, hj⟩ => ⟨he, .inl ⟨_, rfl, hj⟩⟩
  · refine (values1_in F n h7 hro hn l Bs n₀ b off zs.length cap zs hreach hb J Jx hY W hc' hcs h0).mono ?_
    rintro e W' ⟨he, ⟨ys, rfl, hj⟩ | ⟨pre, ⟨k, hk, rfl⟩, hj⟩⟩
    · exact ⟨he, .inl ⟨_, upto_all zs, hj⟩⟩
    · exact ⟨he, .inr ⟨_, by rw [upto_take zs hk]; exact List.take_prefix _ _, hj⟩⟩
theorem values_calls (a : Option Addr) (len cap : Nat) (w : World) :
    Calls Tryd.prog 157 #[.slice a len cap] w fun e w' => e = .returned (.func (.func 165) #[] #[.pointer (some ⟨w.heap.size, 0, none⟩)]) ∧ w' = w.alloc (.cells #[.slice a len cap] 24) := by
  go_enter Tryd.func157, Tryd.ntmps157
  go_wp2
  go_ret
  exact ⟨rfl, rfl⟩
theorem infoI : (Tryd.prog.info? 3).map (fun i => (i.zero, i.size, i.bytes)) = some (some (.int .i64 0), 1, 8) := by kernel_rfl
set_option maxRecDepth 100000 in
set_option maxHeartbeats 2000000 in
theorem appendSeq_in (F : Fence) (n : Nat) (h3 : F.fn 172) (h5 : F.fn 165) (hro : F.round = none) (hn : 3 ≤ n) (Bv : Nat) (sv : Value) (zs : List Int) (hlen : zs.length ≤ maxLen) (hbytes : zs.length * 8 ≤ 140737488351232) (w : World) (hBv : Bv < w.heap.size) (hc : w.cell? ⟨Bv, 0, none⟩ = some sv) (hI : Ints w.heap.size w sv zs) :
    CallsIn F n Tryd.prog 172 #[.slice none 0 0, .func (.func 165) #[] #[.pointer (some ⟨Bv, 0, none⟩)]] w fun e W' => ∃ v, e = .returned v ∧ W'.ownsRow w.heap.size 3 1 v zs.length (zs.map (Value.int .i64)) ∧ (v = .slice none 0 0 ↔ zs = []) ∧ Below w.heap.size w W' := by
  have h1 : 1 ≤ n := by omega
  obtain ⟨i0, hi, hz0, hz1, hz2⟩ := info_parts infoI
  refine callsIn_of_wp_marks Tryd.func172 rfl h3 ?_ hro
  simp only [Tryd.ntmps172, List.size_toArray, List.length_cons, List.length_nil, Nat.reduceAdd, Nat.reduceSub, Array.replicate_succ, Array.replicate_zero, List.push_toArray, List.append_toArray, List.nil_append, List.cons_append]
  gi_wp2
  have bO := Boxed.new w 24 (.slice none 0 0)
  have hB0 : Below w.heap.size w (w.alloc (.cells #[.slice none 0 0] 24)) := (Below.refl _ w).alloc (Nat.le_refl _) _
  refine wpIn_rangeFunc_ownG hro h1 (gf := 165) (lb := #[.pointer (some ⟨Bv, 0, none⟩)]) rfl h5 (enters_of Tryd.func165 (by kernel_rfl) rfl)
    (values_stops F (n - 1) h5 hro (by omega) Bv w.heap.size sv zs hbytes _ (by simp; omega) (by simp) ((hB0.cell (p := ⟨Bv, 0, none⟩) hBv).trans hc) (hI.below hB0)) belowK_t (belowK_b (by simp)) (Below.refl _ _) (fun _ => rfl)
    (fun pre W => (∃ v, Boxed W w.heap.size 24 v ∧ W.ownsRow w.heap.size 3 1 v pre.length (pre.map (Value.int .i64)) ∧ (v = .slice none 0 0 ↔ pre = [])) ∧ Below w.heap.size w W)
    (fun _ _ _ => False)
    (OwnFrom.and (Own.from (holdsRow_own w.heap.size w.heap.size 24 3 1 (fun pre => pre.length) (fun pre => pre.map (Value.int .i64)) (fun pre v => v = .slice none 0 0 ↔ pre = [])) _) (ownFrom_below (Nat.le_refl _) (by simp)))
    (fun _ _ _ _ _ hs _ _ => hs)
    ⟨⟨_, bO, World.ownsRow_nil _ _ _ _, by simp⟩, hB0⟩
    (fun x => { tmps := #[.slice none 0 0, .func (.func 165) #[] #[.pointer (some ⟨Bv, 0, none⟩)], .pointer (some ⟨w.heap.size, 0, none⟩), undef, .slice none 0 0, .int .i64 x, .func (.func 165) #[] #[.pointer (some ⟨Bv, 0, none⟩)], .int .i64 x, undef, undef, undef, undef, undef], defers := [] }) ?assign ?body ?done ?stop
  case assign =>
    intro l x W K hK
    gi_wp2
    exact hK
  case body =>
    rintro l pre x W ⟨⟨v, hv, hrow, hnil⟩, hB⟩ hlt
    have hc := hv.cell
    gi_wp2_with (gi_at_builtin; refine wpListIn_append_own _ rfl _ _ 24 rfl w.heap.size 3 i0 (.int .i64 0) 1 8 Tryd.underlying24 hi hz0 hz1 hz2 rfl (by decide) _ _ _ rfl (hrow.alloc _) ⟨W.heap.size, 0, none⟩ 1 1 [.int .i64 x] rfl rfl (cell_one_new _ _ _) (by simp [Value.oneCell']) (by omega) (by omega) (by have := hB.size; simp; omega) ?_; intro v' w1 hown' hgrow _; obtain ⟨g', cap', rfl⟩ := ownsRow_succ hown'; obtain ⟨hv1, hv2, hr2, hk2, hb2⟩ := hv.appended (by decide) hrow hB.size (Nat.le_refl _) hown' hgrow; have hc1 := hv1.cell; have hf1 := hv1.frozen)
    exact ⟨hk2.from _, hb2, ⟨_, hv2, by simpa using hr2, by simp⟩, hB.trans hb2⟩
  case done =>
    rintro D ys W hD rfl ⟨⟨v, hv, hrow, hnil⟩, hB⟩ hK
    have hc := hv.cell
    gi_wp2
    refine ⟨by simp, .inl ⟨_, _, rfl, run_takeDeferred hK, ?_⟩⟩
    exact ⟨_, results_tmp rfl _ _ _, v, rfl, ownsRow_putObj hrow _ hK rfl, hnil, hB.trans (belowK_b (w := w) (Nat.le_refl _) W D _ _ (by simp at hD; omega) hK rfl rfl)⟩
  case stop =>
    intro D c pre W _ _ h _
    exact h.elim
theorem collect_calls (Bv : Nat) (sv : Value) (zs : List Int) (hlen : zs.length ≤ maxLen) (hbytes : zs.length * 8 ≤ 140737488351232) (w : World) (hBv : Bv < w.heap.size) (hc : w.cell? ⟨Bv, 0, none⟩ = some sv) (hI : Ints w.heap.size w sv zs) :
    Calls Tryd.prog 163 #[.func (.func 165) #[] #[.pointer (some ⟨Bv, 0, none⟩)]] w fun e W' => ∃ v, e = .returned v ∧ W'.ownsRow w.heap.size 3 1 v zs.length (zs.map (Value.int .i64)) ∧ (v = .slice none 0 0 ↔ zs = []) ∧ Below w.heap.size w W' := by
  have cA := (callsIn_wide (n := 3)).1 (appendSeq_in Fence.wide 3 trivial trivial rfl (Nat.le_refl _) Bv sv zs hlen hbytes w hBv hc hI)
  go_enter Tryd.func163, Tryd.ntmps163
  go_wp2_with (go_at_call 172; refine cA.mono ?_; rintro e w' ⟨v, rfl, hrow, hnil, hb⟩)
  go_ret
  exact ⟨v, rfl, hrow, hnil, hb⟩
def srt (l : List Int) : List Int := l.mergeSort fun x y => decide (x ≤ y)
theorem ownsRow_some {w : World} {base e : Nat} {v : Value} {zs : List Int} (h : w.ownsRow base e 1 v zs.length (zs.map (Value.int .i64))) : (v = .slice none 0 0 ∧ zs = []) ∨ ∃ g cap cur, v = .slice (some ⟨g, 0, none⟩) zs.length cap ∧ base ≤ g ∧ w.heap[g]? = some (.cells cur e (0, 0)) ∧ zs.length ≤ cap ∧ cap ≤ maxLen ∧ cur.size = cap * 1 ∧ cur.toList.take zs.length = zs.map encZ := by
  rcases h.2 with ⟨rfl, hz⟩ | ⟨g, cap, cur, rfl, h1, h2, h3, h4, h5, h6⟩
  · exact .inl ⟨rfl, List.eq_nil_of_length_eq_zero hz⟩
  · exact .inr ⟨g, cap, cur, rfl, h1, h2, h3, h4, h5, by simpa using h6⟩
theorem sort_calls {base e : Nat} {v : Value} {zs : List Int} {w : World} (h : w.ownsRow base e 1 v zs.length (zs.map (Value.int .i64))) (hsz : zs.length < 4611686018427387904) :
    Calls Tryd.prog 164 #[v] w fun e' w' => e' = .returned (.tuple #[]) ∧ w'.ownsRow base e 1 v (srt zs).length ((srt zs).map (Value.int .i64)) ∧ w.grownBy w' v.ownBlock := by
  rcases ownsRow_some h with ⟨rfl, rfl⟩ | ⟨g, cap, cur, rfl, hbase, hgb, r1, r2, r3, r4⟩
  · refine (AnyM.slices_Sort_int_none sortL none 0 w).mono ?_
    rintro e' w' ⟨rfl, rfl⟩
    exact ⟨rfl, by simpa [srt] using h, rfl, rfl, rfl, Nat.le_refl _, fun _ _ _ => rfl⟩
  · have hH : Holds encZ w g 0 zs.toArray := holds_of_block_i hgb r4
    refine (AnyM.slices_Sort_int sortL g 0 cap zs w hH (Array.getElem?_eq_some_iff.1 hgb).1 hsz).mono ?_
    rintro e' w' ⟨rfl, nn, os, rfl⟩
    have hl : (srt zs).length = zs.length := by simp [srt]
    refine ⟨rfl, ?_, grownBy_sorted_i _⟩
    rw [hl]
    exact ownsRow_sorted_i hl hbase hgb r1 r2 r3
theorem sorted_calls (Bv : Nat) (sv : Value) (zs : List Int) (hlen : zs.length ≤ maxLen) (hbytes : zs.length * 8 ≤ 140737488351232) (w : World) (hBv : Bv < w.heap.size) (hc : w.cell? ⟨Bv, 0, none⟩ = some sv) (hI : Ints w.heap.size w sv zs) :
    Calls Tryd.prog 156 #[.func (.func 165) #[] #[.pointer (some ⟨Bv, 0, none⟩)]] w fun e W' => ∃ v, e = .returned v ∧ W'.ownsRow w.heap.size 3 1 v (srt zs).length ((srt zs).map (Value.int .i64)) ∧ (v = .slice none 0 0 ↔ zs = []) ∧ Below w.heap.size w W' := by
  have cC := collect_calls Bv sv zs hlen hbytes w hBv hc hI
  go_enter Tryd.func156, Tryd.ntmps156
  go_wp2_with (first
    | (go_at_call 163; refine cC.mono ?_; rintro e w1 ⟨v, rfl, hrow, hnil, hb⟩)
    | (go_at_call 164; refine (sort_calls hrow (by omega)).mono ?_; rintro e w2 ⟨rfl, hrow2, hg⟩))
  go_ret
  exact ⟨v, rfl, hrow2, hnil, hb.grown hg hb.size (own_base hrow)⟩
theorem ownsRow_cut {w : World} {base e g cap : Nat} {n m : Nat} {xs : List Value} (h : w.ownsRow base e 1 (.slice (some ⟨g, 0, none⟩) n cap) n xs) (hm : m ≤ n) : w.ownsRow base e 1 (.slice (some ⟨g, 0, none⟩) m cap) m (xs.take m) := by
  obtain ⟨h0, h⟩ := h
  refine ⟨by rw [List.length_take]; omega, ?_⟩
  rcases h with ⟨h, _⟩ | ⟨g', cap', cur, hv, h1, h2, h3, h4, h5, h6⟩
  · cases h
  · injection hv with a1 a2 a3
    injection a1 with a1
    injection a1 with a1
    subst a1 a3
    refine .inr ⟨g, cap, cur, rfl, h1, h2, by omega, h4, h5, ?_⟩
    rw [← h6, List.take_take, Nat.min_eq_left (by omega)]
    simp
theorem compact_calls {base e : Nat} {v : Value} {zs : List Int} {w : World} (h : w.ownsRow base e 1 v zs.length (zs.map (Value.int .i64))) (hsz : zs.length ≤ 9223372036854775807) :
    Calls Tryd.prog 155 #[v] w fun e' w' => ∃ v', e' = .returned v' ∧ w'.ownsRow base e 1 v' (Lib.compact zs).length ((Lib.compact zs).map (Value.int .i64)) ∧ w.grownBy w' v.ownBlock := by
  rcases ownsRow_some h with ⟨rfl, rfl⟩ | ⟨g, cap, cur, rfl, hbase, hgb, r1, r2, r3, r4⟩
  · refine (AnyG.slices_Compact_int_empty compactL none 0 w).mono ?_
    rintro e' w' ⟨rfl, rfl⟩
    exact ⟨_, rfl, by simpa [Lib.compact, Lib.compactUpTo] using h, rfl, rfl, rfl, Nat.le_refl _, fun _ _ _ => rfl⟩
  · have hH : Holds encZ w g 0 zs.toArray := holds_of_block_i hgb r4
    refine (AnyG.slices_Compact_int compactL g 0 cap zs w hH hsz r1).mono ?_
    rintro e' w' ⟨rfl, q, rfl⟩
    have hle : (Lib.compact zs).length ≤ zs.length := by
      unfold Lib.compact Lib.compactUpTo
      have := List.length_filter_le (Lib.keeps zs.toArray) (List.range zs.length)
      simpa using this
    have hl : (Lib.compact zs ++ List.replicate (zs.length - (Lib.compact zs).length) 0).length = zs.length := by simp; omega
    have hrow := ownsRow_sorted_i (n := q) (os := #[]) hl hbase hgb r1 r2 r3
    have hg := grownBy_sorted_i (w := w) (g := g) (n := q) (os := #[]) (Lib.compact zs ++ List.replicate (zs.length - (Lib.compact zs).length) (0 : Int)).toArray
    have e0 : ∀ W : World, grow W #[] = W := fun W => by simp [grow]
    rw [e0] at hrow hg
    refine ⟨_, rfl, ?_, hg⟩
    have := ownsRow_cut hrow hle
    rwa [List.map_append, List.take_append_of_le_length (by simp), List.take_of_length_le (by simp)] at this
theorem R_int {e : Nat} {w : World} {base : Nat} {v : Value} {zs : List Int} (h : w.ownsRow base e 1 v zs.length (zs.map (Value.int .i64))) : Kd.R (Kd.int .i64) e w base (fun _ => True) v zs := by
  refine ⟨fun _ _ => trivial, zs.map (Value.int .i64), h, by simp [Kd.int, Kd.scalar], fun j p hj => ?_⟩
  show ((zs.map (Value.int .i64)).drop (j * 1)).take 1 = [Value.int .i64 p]
  have hl := (List.getElem?_eq_some_iff.1 hj).1
  rw [Nat.mul_one, List.drop_eq_getElem_cons (by simpa using hl)]
  have := (List.getElem?_eq_some_iff.1 hj).2
  simp [this]
theorem ints_of {w : World} {A : Option Addr} {c : Nat} {zs : List Int} (h : Kd.C (Kd.int .i64) w A zs.length zs) : Ints w.heap.size w (.slice A zs.length c) zs := by
  rcases Nat.eq_zero_or_pos zs.length with h0 | h0
  · have : zs = [] := List.eq_nil_of_length_eq_zero h0
    subst this
    exact .inl ⟨A, c, rfl, rfl⟩
  · obtain ⟨ad, rfl, hc⟩ := h.2.2 h0
    have cell : ∀ j (hj : j < zs.length), w.cell? (ad.add j) = some (.int .i64 zs[j]) := by
      intro j hj
      obtain ⟨cs, hl, hr, hcs⟩ := hc j zs[j] (List.getElem?_eq_getElem hj)
      have hr : cs = [Value.int .i64 zs[j]] := hr
      subst hr
      have := hcs 0 (.int .i64 zs[j]) rfl
      simpa [Kd.int, Kd.scalar] using this
    obtain ⟨b, off, sp⟩ := ad
    have c0 := cell 0 h0
    have hsp : sp = none := by
      cases sp with
      | none => rfl
      | some s =>
        simp only [World.cell?, Addr.add] at c0
        split at c0 <;> simp at c0
    subst hsp
    refine .inr ⟨b, off, c, rfl, World.block_lt_of_cell? w _ c0, fun j hj => ?_⟩
    have := cell j hj
    by_cases h1 : j = 0
    · subst h1
      simpa [Addr.add, hj] using this
    · simpa [Addr.add, hj, h1] using this
set_option maxHeartbeats 1000000 in
theorem different_calls (A0 : Option Addr) (c0 : Nat) (zs : List Int) (w : World) (hz : zs.length < 17592186043904) (h : Kd.C (Kd.int .i64) w A0 zs.length zs) :
    Calls Tryd.prog 141 #[.slice A0 zs.length c0] w fun e w' => ∃ v0_ : Value, e = .returned (v0_) ∧ Kd.R (Kd.int .i64) 3 w' w.heap.size (fun _ => True) v0_ (Lib.compact (srt zs)) ∧ Below w.heap.size w w' := by
  have hI := ints_of (c := c0) h
  have hB0 : Below w.heap.size w (w.alloc (.cells #[.slice A0 zs.length c0] 24)) := (Below.refl _ w).alloc (Nat.le_refl _) _
  have hs : w.heap.size + 1 = (w.alloc (.cells #[.slice A0 zs.length c0] 24)).heap.size := by simp
  have cS := sorted_calls w.heap.size (.slice A0 zs.length c0) zs (by unfold maxLen; omega) (by omega) (w.alloc (.cells #[.slice A0 zs.length c0] 24)) (by simp) (Boxed.new w 24 (.slice A0 zs.length c0)).cell (by
    have := hI.below hB0
    rcases this with h | ⟨b, off, cap, e, hb, hc⟩
    · exact .inl h
    · exact .inr ⟨b, off, cap, e, by omega, hc⟩)
  have hl : (srt zs).length = zs.length := by simp [srt]
  go_enter Tryd.func141, Tryd.ntmps141
  go_wp2_with (first
    | (go_at_call 157; refine (values_calls _ _ _ _).mono ?_; rintro e w1 ⟨rfl, rfl⟩)
    | (go_at_call 156; refine cS.mono ?_; rintro e w2 ⟨v, rfl, hrow, hnil, hb⟩)
    | (go_at_call 155; refine (compact_calls hrow (by omega)).mono ?_; rintro e w3 ⟨v2, rfl, hrow2, hg⟩))
  go_ret
  have hb' := hB0.trans (hb.mono (by omega : w.heap.size ≤ _))
  exact ⟨v2, rfl, R_int (own_weaken hrow2 (by omega)), hb'.grown hg hb'.size (fun k hk => Nat.le_trans (by omega) (own_base hrow k hk))⟩
end Go.Proofs.YtfjpilcmjabikaaDoor.HD
namespace Go.Proofs.YtfjpilcmjabikaaDoor.P
open Go.RowKit Go.Proofs.YtfjpilcmjabikaaDoorW.PrintWords Go.Proofs.YtfjpilcmjabikaaDoorW.PrintLast Go.Proofs.YtfjpilcmjabikaaDoorW.PrintMore
open Bool renaming true → T, false → F
open List renaming setIfInBounds_toArray → L_, set_cons_zero → M_, set_cons_succ → N_, map_toArray → P_, map_cons → Q_, map_nil → R_, length_drop → S_, length_take → U_
open Aside0 renaming mk → A_
attribute [local go_sem] max2_int min2_int max_two min_two max_three min_three max_four min_four
set_option linter.unusedVariables false
set_option linter.unusedSimpArgs false
attribute [local go_sem] fldOrder_0 fldOrder_1
def impl_different.f (l0 : List Int) : Option (List Int) := if l0.length < 17592186043904 then some (Lib.compact (HD.srt l0)) else none
theorem impl_different.calls (A0 : Option Addr) (c0 : Nat) (l0 : List Int) (r : List Int) (w : World) (hr0 : Kd.C (Kd.int .i64) w A0 l0.length l0) (hc0 : l0.length ≤ c0) (h : impl_different.f l0 = some r) :
 Calls Tryd.prog 141 #[.slice A0 l0.length c0] w fun e w'=>∃ v0_ : Value,e = .returned (v0_) ∧ Kd.R (Kd.int .i64) 3 w' w.heap.size (fun _=>True) v0_ r ∧ Below w.heap.size w w':=by
 clear hc0;unfold impl_different.f at h
 split at h
 ·rename_i hz
  injection h with h;subst h;exact HD.different_calls A0 c0 l0 w hz hr0
 ·cases h
mutual
def impl_Order_levels.l0 : Nat → List Int → List Int → List Int → Int → Int → Option (List Int)
 | 0,_,_,_,_,_=>none
 | k + 1,x3,x5,x17,x18,x19=>if x19 < x18 then (if 0 ≤ x19 then (if x19 < (x17.length : Int) then (impl_Order_levels.l1 k x3 x5 (rd x17 x19) 0 x17 x18 x19 x5 (x5.length : Int) 0) else (none)) else (none)) else (some x3)
def impl_Order_levels.l1 : Nat → List Int → List Int → Int → Int → List Int → Int → Int → List Int → Int → Int → Option (List Int)
 | 0,_,_,_,_,_,_,_,_,_,_=>none
 | k + 1,x3,x5,x7,x8,x17,x18,x19,x23,x24,x25=>if x25 < x24 then (if 0 ≤ x25 then (if x25 < (x23.length : Int) then (if (rd x23 x25) = x7 then (impl_Order_levels.l1 k x3 x5 x7 x8 x17 x18 x19 x23 x24 (wrap64 (x25 + 1))) else (if (Go.bits .andNot .i64 (rd x23 x25) x7) = 0 then (impl_Order_levels.l1 k x3 x5 x7 (wrap64 (x8 + 1)) x17 x18 x19 x23 x24 (wrap64 (x25 + 1))) else (impl_Order_levels.l1 k x3 x5 x7 x8 x17 x18 x19 x23 x24 (wrap64 (x25 + 1))))) else (none)) else (none)) else (if x3.length < 17592186044416 then (impl_Order_levels.l0 k (x3 ++ [x8]) x5 x17 x18 (wrap64 (x19 + 1))) else (none))
end
def impl_Order_levels.f (k : Nat) (a0_0 : Int) (l0_1 : List Int) : Option (List Int) := (impl_Order_mirror.f k a0_0 l0_1).bind fun bt1244 => ((impl_different.f bt1244.2).bind fun t1248 => (impl_Order_levels.l0 k (([] : List Int)) t1248 bt1244.2 (bt1244.2.length : Int) 0))
set_option maxHeartbeats 8000000 in
set_option maxRecDepth 100000 in
theorem impl_Order_levels.calls (k : Nat) (a0_0 : Int) (A0_1 : Option Addr) (c0_1 : Nat) (l0_1 : List Int) (r : List Int) (w : World) (hr0_1 : Kd.C (Kd.int .i64) w A0_1 l0_1.length l0_1) (hc0_1 : l0_1.length ≤ c0_1) (h : impl_Order_levels.f k a0_0 l0_1 = some r) :
 Calls Tryd.prog 108 #[.agg #[.int .i64 a0_0,.slice A0_1 l0_1.length c0_1]] w fun e w'=>∃ v0_ : Value,e = .returned (v0_) ∧ Kd.R (Kd.int .i64) 3 w' w.heap.size (fun _=>True) v0_ r ∧ Below w.heap.size w w':=by
 have hu26:=Tryd.underlying26;have HR0_1:=A_ hr0_1;have HC0_1:=A_ hc0_1;clear hr0_1 hc0_1;have HB:=A_ (Below.refl w.heap.size w);have H : ((impl_Order_mirror.f k a0_0 l0_1).bind fun bt1244=>((impl_different.f bt1244.2).bind fun t1248=>(impl_Order_levels.l0 k (([] : List Int)) t1248 bt1244.2 (bt1244.2.length : Int) 0))) = some r:=h;clear h;obtain ⟨y1241,hy1241⟩ : ∃ y_ : List Int,y_ = (([] : List Int)):=⟨_,rfl⟩;replace H : ((impl_Order_mirror.f k a0_0 l0_1).bind fun bt1244=>((impl_different.f bt1244.2).bind fun t1248=>(impl_Order_levels.l0 k y1241 t1248 bt1244.2 (bt1244.2.length : Int) 0))) = some r:=by first|(rw [hy1241];with_reducible exact H)|(have H2_:=(Option.bind_some _ _).symm.trans H;rw [hy1241];with_reducible exact H2_)|(have H2_:=(Option.bind_some _ _).symm.trans H;with_reducible exact H2_)|with_reducible exact H|(rw [hy1241];exact H)|exact H
 have Ny1241:=A_ hy1241;clear hy1241;replace H:=Option.bind_eq_some_iff.mp H;obtain ⟨⟨t1244,t1245⟩,A20,H⟩:=H;replace H : ((impl_different.f t1245).bind fun t1248=>(impl_Order_levels.l0 k y1241 t1248 t1245 (t1245.length : Int) 0)) = some r:=H;have A2:=A_ A20;clear A20;replace H:=Option.bind_eq_some_iff.mp H;obtain ⟨t1248,A30,H⟩:=H;replace H : (impl_Order_levels.l0 k y1241 t1248 t1245 (t1245.length : Int) 0) = some r:=H;have A3:=A_ A30;clear A30;have H':=A_ H;clear H;go_enter Tryd.func108,Tryd.ntmps108
 go_wp2_with (first|((with_reducible refine gate_dst (N:=1) rfl ?_);refine box_event ?hg (N:=1) ?hd (cs:=#[.int .i64 a0_0,.slice A0_1 l0_1.length c0_1]) (t:=26) ?hr ?_;(case hd=>rfl);(case hg=>rfl);(case hr=>first|(go_simp;done)|(go_simp;rfl));intro gb1240 hg w4 hbox hb;have BK1240:=A_ (hbox);have GW1240:=A_ ((by rw [hg];exact (below_size bb_) : w.heap.size ≤ gb1240));have GE1240:=A_ ((by rw [hg];exact (below_size bb_) : w.heap.size ≤ gb1240));replace HB:=A_ (below_step bb_ hb);clear hb hbox hg)|((with_reducible refine gate_dst (N:=11) rfl ?_);refine Kd.R_lit (Kd.int .i64) _ 3 ?hg (N:=11) ?hd (xs:=([] : List Int)) (inner:=[]) (ok:=fun _=>True) (okp:=fun _=>True) ?hr ?hp (fun _ hk=>hk) trivial (Below.refl _ _) (Nat.le_refl _) (by simp) ?_;(case hd=>rfl);(case hg=>rfl);(case hr=>first|(go_simp;done)|(go_simp;rfl));(case hp=>exact (Reps.none _ _));intro v1242 w5 ho6 hb hg_ hnew_;clear hg_ hnew_;(first|rw [← Ny1241.out] at ho6|(simp only [Int.reduceToNat] at ho6;rw [← Ny1241.out] at ho6));have HO1243:=A_ (Kd.R_lower ho6 (below_size bb_));replace BK1240:=bz BK1240 hb;replace HB:=A_ (below_step bb_ hb);clear hb ho6;have hcz7_0 : w5.cell? ⟨gb1240,0,none⟩ = some (.int .i64 a0_0):=blk_cell BK1240.out 0;have hcz7_1 : w5.cell? ⟨gb1240,1,none⟩ = some (.slice A0_1 l0_1.length c0_1):=blk_cell BK1240.out 1;have hfz7_0:=blk_frozen BK1240.out 0;have hfz7_1:=blk_frozen BK1240.out 1)|((with_reducible refine gate_callee (f:=68) rfl ?_);refine goesL_ (some 13) rfl rfl Tryd.func68 (by kernel_rfl) rfl #[.agg #[.int .i64 a0_0,.slice A0_1 l0_1.length c0_1]] rfl au_ ?_;(with_reducible refine (impl_Order_mirror.calls k a0_0 _ _ l0_1 t1244 t1245 _ ?side1 ?side2 A2.out).mono ?_);(case side1=>exact cl_ (Kd.C_below HR0_1.out HB.out));(case side2=>exact HC0_1.out);rintro e w8 ⟨v1246,rfl,ho0,hb⟩;refine ⟨_,rfl,?_⟩;have HO1247:=A_ (Kd.R_lower (Kd.R_new' ho0 (Kd.R_lt (rl_ HO1243))) (below_size bb_));replace HO1243:=A_ (Kd.R_elder' (rl_ HO1243) (Kd.R_base ho0) hb);replace BK1240:=bz BK1240 hb;replace HB:=A_ (below_step bb_ hb);(try clear hb);(try clear hb2);(try clear hk);(try clear hi);(try clear ho0);obtain ⟨Ao9,co9,eo9⟩:=Kd.R_slice HO1247.out;subst eo9)|((with_reducible refine gate_callee (f:=141) rfl ?_);refine goesL_ (some 16) rfl rfl Tryd.func141 (by kernel_rfl) rfl #[.slice Ao9 t1245.length co9] rfl au_ ?_;(with_reducible refine (impl_different.calls _ _ t1245 t1248 _ ?side1 ?side2 A3.out).mono ?_);(case side1=>exact cl_ (Kd.R_reads' HO1247.out).2.2);(case side2=>exact (Kd.R_reads' HO1247.out).2.1);rintro e w10 ⟨v1249,rfl,ho0,hb⟩;refine ⟨_,rfl,?_⟩;have HO1250:=A_ (Kd.R_lower (Kd.R_new' (Kd.R_new' ho0 (Kd.R_lt (rl_ HO1243))) (Kd.R_lt (rl_ HO1247))) (below_size bb_));replace HO1243:=A_ (Kd.R_elder' (rl_ HO1243) (Kd.R_base ho0) hb);replace HO1247:=A_ (Kd.R_elder' (rl_ HO1247) (Kd.R_base ho0) hb);replace BK1240:=bz BK1240 hb;replace HB:=A_ (below_step bb_ hb);(try clear hb);(try clear hb2);(try clear hk);(try clear hi);(try clear ho0)))
 go_loopg [3,19] k (fun kq v3 v19 w'=>∃ (x3_1 : List Int) (x19_1 : Int),v19 = .int .i64 x19_1 ∧ Aside0 (impl_Order_levels.l0 kq x3_1 t1248 t1245 (t1245.length : Int) x19_1 = some r) ∧ Aside0 (kq ≤ k) ∧ Aside0 (Kd.R (Kd.int .i64) 3 w' w.heap.size (fun k_=>some k_ ≠ (v1249 : Value).ownBlock ∧ some k_ ≠ ((.slice Ao9 t1245.length co9) : Value).ownBlock) v3 x3_1) ∧ Aside0 (Kd.R (Kd.int .i64) 3 w' w.heap.size (fun k_=>some k_ ≠ (v3 : Value).ownBlock ∧ some k_ ≠ ((.slice Ao9 t1245.length co9) : Value).ownBlock) v1249 t1248) ∧ Aside0 (Kd.R (Kd.int .i64) 3 w' w.heap.size (fun k_=>some k_ ≠ (v3 : Value).ownBlock ∧ some k_ ≠ (v1249 : Value).ownBlock) (.slice Ao9 t1245.length co9) t1245) ∧ Aside0 (w'.heap[gb1240]? = some (.cells #[.int .i64 a0_0,(.slice A0_1 l0_1.length c0_1)] 26 (0,0))) ∧ Aside0 (Below w.heap.size w w'))
 case atStart=>exact ⟨(y1241),(0),(by first|rfl|(simp;done)|(simp [*];done)),H',⟨Nat.le_refl _⟩,⟨by (with_reducible repeat (first|apply Kd.R_alloc|apply Kd.R_drewN|apply Kd.R_drew));exact Kd.R_mono HO1243.out (fun _ hk=>⟨hk.2,hk.1.2⟩)⟩,⟨by (with_reducible repeat (first|apply Kd.R_alloc|apply Kd.R_drewN|apply Kd.R_drew));exact Kd.R_mono HO1250.out (fun _ hk=>⟨hk.1.2,hk.2⟩)⟩,⟨by (with_reducible repeat (first|apply Kd.R_alloc|apply Kd.R_drewN|apply Kd.R_drew));exact Kd.R_mono HO1247.out (fun _ hk=>⟨hk.1.2,hk.2⟩)⟩,⟨bl_ BK1240⟩,⟨bb_⟩⟩
 case round =>
  clear H';try clear c1
  try clear p2
  try clear c6
  try clear c10
  try clear hcz7_0
  try clear hcz7_1
  try clear hfz7_0
  try clear hfz7_1
  obtain ⟨x3_1,x19_1,rfl,HA,HK1,HO_3,HO_5,HO_17,BK1240,HB⟩:=hrel;cases gk with
  | zero => exact absurd HA.out (by simp [impl_Order_levels.l0])
  | succ k1 =>
   have H:=HA.out;clear HA;simp only [impl_Order_levels.l0] at H
   by_cases c11 : x19_1 < (t1245.length : Int)
   ·rw [if_pos c11] at H;have c11b0 : decide (x19_1 < (t1245.length : Int)) = true:=decide_eq_true c11;clear c11;by_cases c12 : 0 ≤ x19_1
    ·rw [if_pos c12] at H;have c12b0 : decide (0 ≤ x19_1) = true:=decide_eq_true c12;clear c12;by_cases c13 : x19_1 < (t1245.length : Int)
     ·rw [if_pos c13] at H;have c13b0 : decide (x19_1 < (t1245.length : Int)) = true:=decide_eq_true c13;clear c13;have H':=A_ H;clear H;have p1251 : 0 ≤ (x19_1 : Int):=of_decide_eq_true (by first|(with_reducible assumption)|assumption);have q1251 : x19_1 < (t1245.length : Int):=of_decide_eq_true (by first|(with_reducible assumption)|assumption);obtain ⟨ad1251,e1251,hx1251_0⟩:=Kd.at_int (Kd.R_reads' HO_17.out).2.2 x19_1 p1251 q1251;cases e1251
      replace p1251:=eq_true p1251;replace q1251:=eq_true q1251;obtain ⟨Ao14,co14,eo14⟩:=Kd.R_slice HO_5.out;subst eo14;go_wp2
      go_loopg [8,25] k1 (fun kq v8 v25 w'=>∃ (x8_2 : Int) (x25_2 : Int),v8 = .int .i64 x8_2 ∧ v25 = .int .i64 x25_2 ∧ Aside0 (impl_Order_levels.l1 kq x3_1 t1248 (rd t1245 x19_1) x8_2 t1245 (t1245.length : Int) x19_1 t1248 (t1248.length : Int) x25_2 = some r) ∧ Aside0 (kq ≤ k1) ∧ Aside0 (Kd.R (Kd.int .i64) 3 w' w.heap.size (fun k_=>some k_ ≠ ((.slice Ao14 t1248.length co14) : Value).ownBlock ∧ some k_ ≠ ((.slice (some ad1251) t1245.length co9) : Value).ownBlock ∧ some k_ ≠ ((.slice Ao14 t1248.length co14) : Value).ownBlock) u3 x3_1) ∧ Aside0 (Kd.R (Kd.int .i64) 3 w' w.heap.size (fun k_=>some k_ ≠ (u3 : Value).ownBlock ∧ some k_ ≠ ((.slice (some ad1251) t1245.length co9) : Value).ownBlock) (.slice Ao14 t1248.length co14) t1248) ∧ Aside0 (Kd.R (Kd.int .i64) 3 w' w.heap.size (fun k_=>some k_ ≠ (u3 : Value).ownBlock ∧ some k_ ≠ ((.slice Ao14 t1248.length co14) : Value).ownBlock ∧ some k_ ≠ ((.slice Ao14 t1248.length co14) : Value).ownBlock) (.slice (some ad1251) t1245.length co9) t1245) ∧ Aside0 (Kd.R (Kd.int .i64) 3 w' w.heap.size (fun k_=>some k_ ≠ (u3 : Value).ownBlock ∧ some k_ ≠ ((.slice (some ad1251) t1245.length co9) : Value).ownBlock) (.slice Ao14 t1248.length co14) t1248) ∧ Aside0 (w'.heap[gb1240]? = some (.cells #[.int .i64 a0_0,(.slice A0_1 l0_1.length c0_1)] 26 (0,0))) ∧ Aside0 (Below w.heap.size w w'))
      case atStart=>exact ⟨(0),(0),(by first|rfl|(simp;done)|(simp [*];done)),(by first|rfl|(simp;done)|(simp [*];done)),H',⟨Nat.le_refl _⟩,⟨by (with_reducible repeat (first|apply Kd.R_alloc|apply Kd.R_drewN|apply Kd.R_drew));exact Kd.R_mono HO_3.out (fun _ hk=>⟨hk.1,⟨hk.2,hk.1⟩⟩)⟩,⟨by (with_reducible repeat (first|apply Kd.R_alloc|apply Kd.R_drewN|apply Kd.R_drew));exact HO_5.out⟩,⟨by (with_reducible repeat (first|apply Kd.R_alloc|apply Kd.R_drewN|apply Kd.R_drew));exact Kd.R_mono HO_17.out (fun _ hk=>⟨hk.1,⟨hk.2,hk.2⟩⟩)⟩,⟨by (with_reducible repeat (first|apply Kd.R_alloc|apply Kd.R_drewN|apply Kd.R_drew));exact HO_5.out⟩,⟨bl_ BK1240⟩,⟨bb_⟩⟩
      case round =>
       clear H';try clear c1
       try clear p1
       try clear q1
       try clear hx1
       try clear p2
       try clear c6
       try clear c10
       try clear c11
       try clear c11b0
       try clear c12
       try clear c12b0
       try clear p12
       try clear q12
       try clear hx12
       try clear c13
       try clear c13b0
       try clear c14
       try clear hcz7_0
       try clear hcz7_1
       try clear hfz7_0
       try clear hfz7_1
       try clear hx1251_0
       try clear p1251
       try clear p2
       try clear q1251
       obtain ⟨x8_2,x25_2,rfl,rfl,HA,HK2,HO_3,HO_5,HO_17,HO_23,BK1240,HB⟩:=hrel;cases gk with
       | zero=>exact absurd HA.out (by simp [impl_Order_levels.l1])
       | succ k2 =>
        have H:=HA.out;clear HA;simp only [impl_Order_levels.l1] at H
        by_cases c15 : x25_2 < (t1248.length : Int)
        ·rw [if_pos c15] at H;have c15b0 : decide (x25_2 < (t1248.length : Int)) = true:=decide_eq_true c15;clear c15;by_cases c16 : 0 ≤ x25_2
         ·rw [if_pos c16] at H;have c16b0 : decide (0 ≤ x25_2) = true:=decide_eq_true c16;clear c16;by_cases c17 : x25_2 < (t1248.length : Int)
          ·rw [if_pos c17] at H;have c17b0 : decide (x25_2 < (t1248.length : Int)) = true:=decide_eq_true c17;clear c17;by_cases c18 : (rd t1248 x25_2) = (rd t1245 x19_1)
           ·rw [if_pos c18] at H;have c18b0 : ((rd t1248 x25_2) == (rd t1245 x19_1)) = true:=beq_iff_eq.mpr c18;have c18b1 : ((rd t1248 x25_2) != (rd t1245 x19_1)) = false:=bne_eq_false_iff_eq.mpr c18;clear c18;have H':=A_ H;clear H;have p1252 : 0 ≤ (x25_2 : Int):=of_decide_eq_true (by first|(with_reducible assumption)|assumption);have q1252 : x25_2 < (t1248.length : Int):=of_decide_eq_true (by first|(with_reducible assumption)|assumption);obtain ⟨ad1252,e1252,hx1252_0⟩:=Kd.at_int (Kd.R_reads' HO_23.out).2.2 x25_2 p1252 q1252;cases e1252
            replace p1252:=eq_true p1252;replace q1252:=eq_true q1252;go_wp2
            go_roundg k2
            case measure=>have:=HK1.out;have:=HK2.out;omega
            case rel=>exact ⟨(x8_2),(wrap64 (x25_2 + 1)),(by first|rfl|(simp;done)|(simp [*];done)),(by first|rfl|(simp;done)|(simp [*];done)),H',⟨by have:=HK1.out;have:=HK2.out;omega⟩,⟨by (with_reducible repeat (first|apply Kd.R_alloc|apply Kd.R_drewN|apply Kd.R_drew));exact HO_3.out⟩,⟨by (with_reducible repeat (first|apply Kd.R_alloc|apply Kd.R_drewN|apply Kd.R_drew));exact HO_5.out⟩,⟨by (with_reducible repeat (first|apply Kd.R_alloc|apply Kd.R_drewN|apply Kd.R_drew));exact HO_17.out⟩,⟨by (with_reducible repeat (first|apply Kd.R_alloc|apply Kd.R_drewN|apply Kd.R_drew));exact HO_23.out⟩,⟨bl_ BK1240⟩,⟨bb_⟩⟩
           ·rw [if_neg c18] at H;have c18b0 : ((rd t1248 x25_2) == (rd t1245 x19_1)) = false:=beq_eq_false_iff_ne.mpr c18;have c18b1 : ((rd t1248 x25_2) != (rd t1245 x19_1)) = true:=bne_iff_ne.mpr c18;by_cases c19 : (Go.bits .andNot .i64 (rd t1248 x25_2) (rd t1245 x19_1)) = 0
            ·rw [if_pos c19] at H;have c19b0 : ((Go.bits .andNot .i64 (rd t1248 x25_2) (rd t1245 x19_1)) == 0) = true:=beq_iff_eq.mpr c19;have c19b1 : ((Go.bits .andNot .i64 (rd t1248 x25_2) (rd t1245 x19_1)) != 0) = false:=bne_eq_false_iff_eq.mpr c19;clear c19;have H':=A_ H;clear H;have p1252 : 0 ≤ (x25_2 : Int):=of_decide_eq_true (by first|(with_reducible assumption)|assumption);have q1252 : x25_2 < (t1248.length : Int):=of_decide_eq_true (by first|(with_reducible assumption)|assumption);obtain ⟨ad1252,e1252,hx1252_0⟩:=Kd.at_int (Kd.R_reads' HO_23.out).2.2 x25_2 p1252 q1252;cases e1252
             replace p1252:=eq_true p1252;replace q1252:=eq_true q1252;go_wp2
             go_roundg k2
             case measure=>have:=HK1.out;have:=HK2.out;omega
             case rel=>exact ⟨(wrap64 (x8_2 + 1)),(wrap64 (x25_2 + 1)),(by first|rfl|(simp;done)|(simp [*];done)),(by first|rfl|(simp;done)|(simp [*];done)),H',⟨by have:=HK1.out;have:=HK2.out;omega⟩,⟨by (with_reducible repeat (first|apply Kd.R_alloc|apply Kd.R_drewN|apply Kd.R_drew));exact HO_3.out⟩,⟨by (with_reducible repeat (first|apply Kd.R_alloc|apply Kd.R_drewN|apply Kd.R_drew));exact HO_5.out⟩,⟨by (with_reducible repeat (first|apply Kd.R_alloc|apply Kd.R_drewN|apply Kd.R_drew));exact HO_17.out⟩,⟨by (with_reducible repeat (first|apply Kd.R_alloc|apply Kd.R_drewN|apply Kd.R_drew));exact HO_23.out⟩,⟨bl_ BK1240⟩,⟨bb_⟩⟩
            ·rw [if_neg c19] at H;have c19b0 : ((Go.bits .andNot .i64 (rd t1248 x25_2) (rd t1245 x19_1)) == 0) = false:=beq_eq_false_iff_ne.mpr c19;have c19b1 : ((Go.bits .andNot .i64 (rd t1248 x25_2) (rd t1245 x19_1)) != 0) = true:=bne_iff_ne.mpr c19;have H':=A_ H;clear H;have p1252 : 0 ≤ (x25_2 : Int):=of_decide_eq_true (by first|(with_reducible assumption)|assumption);have q1252 : x25_2 < (t1248.length : Int):=of_decide_eq_true (by first|(with_reducible assumption)|assumption);obtain ⟨ad1252,e1252,hx1252_0⟩:=Kd.at_int (Kd.R_reads' HO_23.out).2.2 x25_2 p1252 q1252;cases e1252
             replace p1252:=eq_true p1252;replace q1252:=eq_true q1252;go_wp2
             go_roundg k2
             case measure=>have:=HK1.out;have:=HK2.out;omega
             case rel=>exact ⟨(x8_2),(wrap64 (x25_2 + 1)),(by first|rfl|(simp;done)|(simp [*];done)),(by first|rfl|(simp;done)|(simp [*];done)),H',⟨by have:=HK1.out;have:=HK2.out;omega⟩,⟨by (with_reducible repeat (first|apply Kd.R_alloc|apply Kd.R_drewN|apply Kd.R_drew));exact HO_3.out⟩,⟨by (with_reducible repeat (first|apply Kd.R_alloc|apply Kd.R_drewN|apply Kd.R_drew));exact HO_5.out⟩,⟨by (with_reducible repeat (first|apply Kd.R_alloc|apply Kd.R_drewN|apply Kd.R_drew));exact HO_17.out⟩,⟨by (with_reducible repeat (first|apply Kd.R_alloc|apply Kd.R_drewN|apply Kd.R_drew));exact HO_23.out⟩,⟨bl_ BK1240⟩,⟨bb_⟩⟩
          ·rw [if_neg c17] at H;exact absurd H (by simp)
         ·rw [if_neg c16] at H;exact absurd H (by simp)
        ·rw [if_neg c15] at H;have c15b0 : decide (x25_2 < (t1248.length : Int)) = false:=decide_eq_false c15;clear c15;by_cases c20 : x3_1.length < 17592186044416
         ·rw [if_pos c20] at H;have LMc20:=A_ c20;clear c20;obtain ⟨y1253,hy1253⟩ : ∃ y_ : List Int,y_ = (x3_1 ++ [x8_2]):=⟨_,rfl⟩;replace H : (impl_Order_levels.l0 k2 y1253 t1248 t1245 (t1245.length : Int) (wrap64 (x19_1 + 1))) = some r:=by first|(rw [hy1253];with_reducible exact H)|(have H2_:=(Option.bind_some _ _).symm.trans H;rw [hy1253];with_reducible exact H2_)|(have H2_:=(Option.bind_some _ _).symm.trans H;with_reducible exact H2_)|with_reducible exact H|(rw [hy1253];exact H)|exact H
          have Ny1253:=A_ hy1253;clear hy1253;have H':=A_ H;clear H;go_wp2_with (first|((with_reducible refine gate_builtin (b:=.append) (xs:=#[.tmp 41,.tmp 43]) rfl ?_);at_builtin;refine Kd.R_append (Kd.int .i64) (w0:=w) w.heap.size rfl (.tmp 41) (.tmp 43) 24 3 (.int .i64 0) 8 rfl Tryd.underlying24 info3 rfl (by decide) (by omega) u3 x3_1 x8_2 [.int .i64 x8_2] (fun k_=>some k_ ≠ (.slice Ao14 t1248.length co14 : Value).ownBlock ∧ some k_ ≠ (.slice (some ad1251) t1245.length co9 : Value).ownBlock ∧ some k_ ≠ (.slice Ao14 t1248.length co14 : Value).ownBlock) (fun _=>False) rfl rfl ?aP (fun _ hk=>hk.elim) ?aF ?aO ?aB ?aS ?aL ?_;(case aP=>exact rfl);(case aB=>exact bb_);(case aF=>exact (fun k_ hk=>⟨Kd.fresh' (Kd.R_lt (rl_ HO_5)) k_ hk,Kd.fresh' (Kd.R_lt (rl_ HO_17)) k_ hk,Kd.fresh' (Kd.R_lt (rl_ HO_23)) k_ hk⟩));(case aO=>exact (rl_ HO_3));(case aS=>exact (below_size bb_));(case aL=>have:=LMc20.out;omega);intro v1254 w21 ho hb hg hat;rw [← Ny1253.out] at ho;replace HO_5:=A_ (Kd.R_after (ok:=(fun k_=>some k_ ≠ (.slice (some ad1251) t1245.length co9 : Value).ownBlock)) (by (with_reducible repeat (first|apply Kd.R_alloc|apply Kd.R_drewN|apply Kd.R_drew));exact Kd.R_mono HO_5.out (fun _ hk=>⟨hk.2,hk.1⟩)) hg hat);replace HO_17:=A_ (Kd.R_after (ok:=(fun k_=>some k_ ≠ (.slice Ao14 t1248.length co14 : Value).ownBlock ∧ some k_ ≠ (.slice Ao14 t1248.length co14 : Value).ownBlock)) (by (with_reducible repeat (first|apply Kd.R_alloc|apply Kd.R_drewN|apply Kd.R_drew));exact Kd.R_mono HO_17.out (fun _ hk=>⟨⟨hk.2.1,hk.2.2⟩,hk.1⟩)) hg hat);replace HO_23:=A_ (Kd.R_after (ok:=(fun k_=>some k_ ≠ (.slice (some ad1251) t1245.length co9 : Value).ownBlock)) (by (with_reducible repeat (first|apply Kd.R_alloc|apply Kd.R_drewN|apply Kd.R_drew));exact Kd.R_mono HO_23.out (fun _ hk=>⟨hk.2,hk.1⟩)) hg hat);replace BK1240:=A_ (blk_grown (g:=gb1240) (o:=.cells #[.int .i64 a0_0,.slice A0_1 l0_1.length c0_1] 26 (0,0)) (bl_ BK1240) hg (Kd.R_ne HO_3.out BK1240.out (by decide)));replace HB:=A_ (hb);have HO1255:=A_ (ho);clear HO_3;clear ho hb hg hat))
          go_roundg k2
          case measure=>have:=HK1.out;have:=HK2.out;omega
          case rel=>exact ⟨(y1253),(wrap64 (x19_1 + 1)),(by first|rfl|(simp;done)|(simp [*];done)),H',⟨by have:=HK1.out;have:=HK2.out;omega⟩,⟨by (with_reducible repeat (first|apply Kd.R_alloc|apply Kd.R_drewN|apply Kd.R_drew));exact Kd.R_mono HO1255.out (fun _ hk=>⟨hk.1,hk.2.1⟩)⟩,⟨by (with_reducible repeat (first|apply Kd.R_alloc|apply Kd.R_drewN|apply Kd.R_drew));exact Kd.R_mono HO_5.out (fun _ hk=>⟨hk.2,hk.1⟩)⟩,⟨by (with_reducible repeat (first|apply Kd.R_alloc|apply Kd.R_drewN|apply Kd.R_drew));exact Kd.R_mono HO_17.out (fun _ hk=>⟨hk.2,hk.1.1⟩)⟩,⟨bl_ BK1240⟩,⟨bb_⟩⟩
         ·rw [if_neg c20] at H;exact absurd H (by simp)
     ·rw [if_neg c13] at H;exact absurd H (by simp)
    ·rw [if_neg c12] at H;exact absurd H (by simp)
   ·rw [if_neg c11] at H;have c11b0 : decide (x19_1 < (t1245.length : Int)) = false:=decide_eq_false c11;clear c11;obtain rfl:=Option.some.inj H;go_wp2
    go_ret
    exact ⟨_,by first|rfl|(simp [errW_none,errW_some] <;> rfl)|(simp [*,errW_none,errW_some] <;> rfl),by (with_reducible repeat (first|apply Kd.R_alloc|apply Kd.R_drewN|apply Kd.R_drew));exact Kd.R_mono HO_3.out (fun _ hk=>trivial),bb_⟩
def impl_LowerLevels.f (k : Nat) (a0_0 : Int) (l0_1 : List Int) : Option (List Int × Bool) := (impl_isInterval.f k a0_0 l0_1).bind fun t1257 => (if t1257 = true then ((impl_Order_levels.f k a0_0 l0_1).bind fun t1258 => (some (t1258, true))) else (some (([] : List Int), false)))
set_option maxHeartbeats 8000000 in
set_option maxRecDepth 100000 in
theorem impl_LowerLevels.calls (k : Nat) (a0_0 : Int) (A0_1 : Option Addr) (c0_1 : Nat) (l0_1 : List Int) (r1 : List Int) (r2 : Bool) (w : World) (hr0_1 : Kd.C (Kd.int .i64) w A0_1 l0_1.length l0_1) (hc0_1 : l0_1.length ≤ c0_1) (hT : TabOK w) (h : impl_LowerLevels.f k a0_0 l0_1 = some (r1,r2)) :
 Calls Tryd.prog 54 #[.agg #[.int .i64 a0_0,.slice A0_1 l0_1.length c0_1]] w fun e w'=>∃ v0_ : Value,e = .returned (.tuple #[v0_,.bool r2]) ∧ Kd.R (Kd.int .i64) 3 w' w.heap.size (fun _=>True) v0_ r1 ∧ Below w.heap.size w w':=by
 have hu26:=Tryd.underlying26;have HT:=A_ hT;clear hT;have HR0_1:=A_ hr0_1;have HC0_1:=A_ hc0_1;clear hr0_1 hc0_1;have HB:=A_ (Below.refl w.heap.size w);have H : ((impl_isInterval.f k a0_0 l0_1).bind fun t1257=>(if t1257 = true then ((impl_Order_levels.f k a0_0 l0_1).bind fun t1258=>(some (t1258,true))) else (some (([] : List Int),false)))) = some (r1,r2):=h;clear h;replace H:=Option.bind_eq_some_iff.mp H;obtain ⟨t1257,A20,H⟩:=H;replace H : (if t1257 = true then ((impl_Order_levels.f k a0_0 l0_1).bind fun t1258=>(some (t1258,true))) else (some (([] : List Int),false))) = some (r1,r2):=H;have A2:=A_ A20;clear A20;by_cases c3 : t1257 = true
 ·subst c3;have H1 : ((impl_Order_levels.f k a0_0 l0_1).bind fun t1258=>(some (t1258,true))) = some (r1,r2):=by rw [if_pos rfl] at H;exact H
  clear H;have H:=H1;clear H1;replace H:=Option.bind_eq_some_iff.mp H;obtain ⟨t1258,A40,H⟩:=H;replace H : (some (t1258,true)) = some (r1,r2):=H;have A4:=A_ A40;clear A40;simp only [Option.some.injEq,Prod.mk.injEq] at H
  obtain ⟨rfl,rfl⟩:=H;go_enter Tryd.func54,Tryd.ntmps54
  go_wp2_with (first|((with_reducible refine gate_dst (N:=1) rfl ?_);refine box_event ?hg (N:=1) ?hd (cs:=#[.int .i64 a0_0,.slice A0_1 l0_1.length c0_1]) (t:=26) ?hr ?_;(case hd=>rfl);(case hg=>rfl);(case hr=>first|(go_simp;done)|(go_simp;rfl));intro gb1256 hg w5 hbox hb;have BK1256:=A_ (hbox);have GW1256:=A_ ((by rw [hg];exact (below_size bb_) : w.heap.size ≤ gb1256));have GE1256:=A_ ((by rw [hg];exact (below_size bb_) : w.heap.size ≤ gb1256));replace HB:=A_ (below_step bb_ hb);clear hb hbox hg;have hcz6_0 : w5.cell? ⟨gb1256,0,none⟩ = some (.int .i64 a0_0):=blk_cell BK1256.out 0;have hcz6_1 : w5.cell? ⟨gb1256,1,none⟩ = some (.slice A0_1 l0_1.length c0_1):=blk_cell BK1256.out 1;have hfz6_0:=blk_frozen BK1256.out 0;have hfz6_1:=blk_frozen BK1256.out 1)|((with_reducible refine gate_callee (f:=107) rfl ?_);refine goesL_ (some 5) rfl rfl Tryd.func107 (by kernel_rfl) rfl #[.agg #[.int .i64 a0_0,.slice A0_1 l0_1.length c0_1]] rfl au_ ?_;(with_reducible refine (impl_isInterval.calls k a0_0 _ _ l0_1 true _ ?side1 ?side2 ?side3 A2.out).mono ?_);(case side1=>exact cl_ (Kd.C_below HR0_1.out HB.out));(case side2=>exact HC0_1.out);(case side3=>first|exact HT.out|exact HT.out.below bb_|(repeat (first|exact HT.out|apply TabOK.drewN|apply TabOK.drew|apply TabOK.alloc)));rintro e w7 ⟨rfl,hb⟩;refine ⟨_,rfl,?_⟩;replace BK1256:=bz BK1256 hb;replace HB:=A_ (below_step bb_ hb);(try clear hb);(try clear hb2);(try clear hk);(try clear hi);have hcz8_0 : w7.cell? ⟨gb1256,0,none⟩ = some (.int .i64 a0_0):=blk_cell BK1256.out 0;have hcz8_1 : w7.cell? ⟨gb1256,1,none⟩ = some (.slice A0_1 l0_1.length c0_1):=blk_cell BK1256.out 1;have hfz8_0:=blk_frozen BK1256.out 0;have hfz8_1:=blk_frozen BK1256.out 1)|((with_reducible refine gate_callee (f:=108) rfl ?_);refine goesL_ (some 8) rfl rfl Tryd.func108 (by kernel_rfl) rfl #[.agg #[.int .i64 a0_0,.slice A0_1 l0_1.length c0_1]] rfl au_ ?_;(with_reducible refine (impl_Order_levels.calls k a0_0 _ _ l0_1 t1258 _ ?side1 ?side2 A4.out).mono ?_);(case side1=>exact cl_ (Kd.C_below HR0_1.out HB.out));(case side2=>exact HC0_1.out);rintro e w9 ⟨v1259,rfl,ho0,hb⟩;refine ⟨_,rfl,?_⟩;have HO1260:=A_ (Kd.R_lower ho0 (below_size bb_));replace BK1256:=bz BK1256 hb;replace HB:=A_ (below_step bb_ hb);(try clear hb);(try clear hb2);(try clear hk);(try clear hi);(try clear ho0)))
  go_ret2
  exact ⟨_,by first|rfl|(simp [errW_none,errW_some] <;> rfl)|(simp [*,errW_none,errW_some] <;> rfl),by (with_reducible repeat (first|apply Kd.R_alloc|apply Kd.R_drewN|apply Kd.R_drew));exact HO1260.out,bb_⟩
 ·replace c3:=Bool.eq_false_iff.mpr c3;subst c3;have H1 : (some (([] : List Int),false)) = some (r1,r2):=by rw [if_neg (show ¬ (false = true) by decide)] at H;exact H
  clear H;have H:=H1;clear H1;simp only [Option.some.injEq,Prod.mk.injEq] at H
  obtain ⟨rfl,rfl⟩:=H;go_enter Tryd.func54,Tryd.ntmps54
  go_wp2_with (first|((with_reducible refine gate_dst (N:=1) rfl ?_);refine box_event ?hg (N:=1) ?hd (cs:=#[.int .i64 a0_0,.slice A0_1 l0_1.length c0_1]) (t:=26) ?hr ?_;(case hd=>rfl);(case hg=>rfl);(case hr=>first|(go_simp;done)|(go_simp;rfl));intro gb1256 hg w10 hbox hb;have BK1256:=A_ (hbox);have GW1256:=A_ ((by rw [hg];exact (below_size bb_) : w.heap.size ≤ gb1256));have GE1256:=A_ ((by rw [hg];exact (below_size bb_) : w.heap.size ≤ gb1256));replace HB:=A_ (below_step bb_ hb);clear hb hbox hg;have hcz11_0 : w10.cell? ⟨gb1256,0,none⟩ = some (.int .i64 a0_0):=blk_cell BK1256.out 0;have hcz11_1 : w10.cell? ⟨gb1256,1,none⟩ = some (.slice A0_1 l0_1.length c0_1):=blk_cell BK1256.out 1;have hfz11_0:=blk_frozen BK1256.out 0;have hfz11_1:=blk_frozen BK1256.out 1)|((with_reducible refine gate_callee (f:=107) rfl ?_);refine goesL_ (some 5) rfl rfl Tryd.func107 (by kernel_rfl) rfl #[.agg #[.int .i64 a0_0,.slice A0_1 l0_1.length c0_1]] rfl au_ ?_;(with_reducible refine (impl_isInterval.calls k a0_0 _ _ l0_1 false _ ?side1 ?side2 ?side3 A2.out).mono ?_);(case side1=>exact cl_ (Kd.C_below HR0_1.out HB.out));(case side2=>exact HC0_1.out);(case side3=>first|exact HT.out|exact HT.out.below bb_|(repeat (first|exact HT.out|apply TabOK.drewN|apply TabOK.drew|apply TabOK.alloc)));rintro e w12 ⟨rfl,hb⟩;refine ⟨_,rfl,?_⟩;replace BK1256:=bz BK1256 hb;replace HB:=A_ (below_step bb_ hb);(try clear hb);(try clear hb2);(try clear hk);(try clear hi)))
  go_ret2
  exact ⟨_,by first|rfl|(simp [errW_none,errW_some] <;> rfl)|(simp [*,errW_none,errW_some] <;> rfl),by first|exact Kd.R_nil _ _ _ _ _|exact Kd.N_nil _ _ _ _ _|exact Kd.V_nil _ _ _ _ _|exact Kd.Q_nil _ _ _ _ _|exact Kd.S_nil _ _ _ _ _,bb_⟩
mutual
def impl_Order_ends.l0 : Nat → List (S102) → List Int → List Int → Int → Int → Int → List Int → Option ((List (S102)))
 | 0,_,_,_,_,_,_,_=>none
 | k + 1,x3,x4,x13,x14,x15,x1262000,x1262001=>if x15 < x14 then (if 0 ≤ x15 then (if x15 < (x13.length : Int) then (impl_Order_ends.l1 k x3 x4 x15 (rd x13 x15) (rd x13 x15) x13 x14 x15 x4 (x4.length : Int) 0 x1262000 x1262001) else (none)) else (none)) else (some x3)
def impl_Order_ends.l1 : Nat → List (S102) → List Int → Int → Int → Int → List Int → Int → Int → List Int → Int → Int → Int → List Int → Option ((List (S102)))
 | 0,_,_,_,_,_,_,_,_,_,_,_,_,_=>none
 | k + 1,x3,x4,x5,x6,x7,x13,x14,x15,x21,x22,x23,x1262000,x1262001=>if x23 < x22 then (if 0 ≤ x23 then (if x23 < (x21.length : Int) then ((impl_Order_better.f x1262000 x1262001 x5 x23).bind fun t1270=>(if t1270 = true then (impl_Order_ends.l1 k x3 x4 x5 x6 x7 x13 x14 x15 x21 x22 (wrap64 (x23 + 1)) x1262000 x1262001) else (impl_Order_ends.l1 k x3 x4 x5 x6 (mx x7 (rd x21 x23)) x13 x14 x15 x21 x22 (wrap64 (x23 + 1)) x1262000 x1262001))) else (none)) else (none)) else (if x3.length < 8796093022208 then (impl_Order_ends.l0 k (x3 ++ [(⟨x6,x7⟩ : S102)]) x4 x13 x14 (wrap64 (x15 + 1)) x1262000 x1262001) else (none))
end
def impl_Order_ends.f (k : Nat) (a0_0 : Int) (l0_1 : List Int) : Option ((List (S102))) := (impl_Order_levels.f k a0_0 l0_1).bind fun t1265 => (impl_Order_ends.l0 k (([] : List (S102))) t1265 t1265 (t1265.length : Int) 0 a0_0 l0_1)
set_option maxHeartbeats 8000000 in
set_option maxRecDepth 100000 in
theorem impl_Order_ends.calls (k : Nat) (a0_0 : Int) (A0_1 : Option Addr) (c0_1 : Nat) (l0_1 : List Int) (r : List (S102)) (w : World) (hr0_1 : Kd.C (Kd.int .i64) w A0_1 l0_1.length l0_1) (hc0_1 : l0_1.length ≤ c0_1) (h : impl_Order_ends.f k a0_0 l0_1 = some r) :
 Calls Tryd.prog 109 #[.agg #[.int .i64 a0_0,.slice A0_1 l0_1.length c0_1]] w fun e w'=>∃ v0_ : Value,e = .returned (v0_) ∧ Kd.R k102 102 w' w.heap.size (fun _=>True) v0_ r ∧ Below w.heap.size w w':=by
 have hu26:=Tryd.underlying26;have hu102:=Tryd.underlying102;have HR0_1:=A_ hr0_1;have HC0_1:=A_ hc0_1;clear hr0_1 hc0_1;have HB:=A_ (Below.refl w.heap.size w);have H : ((impl_Order_levels.f k a0_0 l0_1).bind fun t1265=>(impl_Order_ends.l0 k (([] : List (S102))) t1265 t1265 (t1265.length : Int) 0 a0_0 l0_1)) = some r:=h;clear h;obtain ⟨y1262,hy1262⟩ : ∃ y_ : List (S102),y_ = (([] : List (S102))):=⟨_,rfl⟩;replace H : ((impl_Order_levels.f k a0_0 l0_1).bind fun t1265=>(impl_Order_ends.l0 k y1262 t1265 t1265 (t1265.length : Int) 0 a0_0 l0_1)) = some r:=by first|(rw [hy1262];with_reducible exact H)|(have H2_:=(Option.bind_some _ _).symm.trans H;rw [hy1262];with_reducible exact H2_)|(have H2_:=(Option.bind_some _ _).symm.trans H;with_reducible exact H2_)|with_reducible exact H|(rw [hy1262];exact H)|exact H
 have Ny1262:=A_ hy1262;clear hy1262;replace H:=Option.bind_eq_some_iff.mp H;obtain ⟨t1265,A20,H⟩:=H;replace H : (impl_Order_ends.l0 k y1262 t1265 t1265 (t1265.length : Int) 0 a0_0 l0_1) = some r:=H;have A2:=A_ A20;clear A20;have H':=A_ H;clear H;go_enter Tryd.func109,Tryd.ntmps109
 go_wp2_with (first|((with_reducible refine gate_dst (N:=1) rfl ?_);refine box_event ?hg (N:=1) ?hd (cs:=#[.int .i64 a0_0,.slice A0_1 l0_1.length c0_1]) (t:=26) ?hr ?_;(case hd=>rfl);(case hg=>rfl);(case hr=>first|(go_simp;done)|(go_simp;rfl));intro gb1261 hg w3 hbox hb;have BK1261:=A_ (hbox);have GW1261:=A_ ((by rw [hg];exact (below_size bb_) : w.heap.size ≤ gb1261));have GE1261:=A_ ((by rw [hg];exact (below_size bb_) : w.heap.size ≤ gb1261));replace HB:=A_ (below_step bb_ hb);clear hb hbox hg)|((with_reducible refine gate_dst (N:=10) rfl ?_);refine Kd.R_lit k102 _ 102 ?hg (N:=10) ?hd (xs:=([] : List (S102))) (inner:=[]) (ok:=fun _=>True) (okp:=fun _=>True) ?hr ?hp (fun _ hk=>hk) trivial (Below.refl _ _) (Nat.le_refl _) (by simp) ?_;(case hd=>rfl);(case hg=>rfl);(case hr=>first|(go_simp;done)|(go_simp;rfl));(case hp=>exact (Reps.none _ _));intro v1263 w4 ho5 hb hg_ hnew_;clear hg_ hnew_;(first|rw [← Ny1262.out] at ho5|(simp only [Int.reduceToNat] at ho5;rw [← Ny1262.out] at ho5));have HO1264:=A_ (Kd.R_lower ho5 (below_size bb_));replace BK1261:=bz BK1261 hb;replace HB:=A_ (below_step bb_ hb);clear hb ho5;have hcz6_0 : w4.cell? ⟨gb1261,0,none⟩ = some (.int .i64 a0_0):=blk_cell BK1261.out 0;have hcz6_1 : w4.cell? ⟨gb1261,1,none⟩ = some (.slice A0_1 l0_1.length c0_1):=blk_cell BK1261.out 1;have hfz6_0:=blk_frozen BK1261.out 0;have hfz6_1:=blk_frozen BK1261.out 1)|((with_reducible refine gate_callee (f:=108) rfl ?_);refine goesL_ (some 12) rfl rfl Tryd.func108 (by kernel_rfl) rfl #[.agg #[.int .i64 a0_0,.slice A0_1 l0_1.length c0_1]] rfl au_ ?_;(with_reducible refine (impl_Order_levels.calls k a0_0 _ _ l0_1 t1265 _ ?side1 ?side2 A2.out).mono ?_);(case side1=>exact cl_ (Kd.C_below HR0_1.out HB.out));(case side2=>exact HC0_1.out);rintro e w7 ⟨v1266,rfl,ho0,hb⟩;refine ⟨_,rfl,?_⟩;replace HO1264:=rb_ HO1264 hb;have HO1267:=A_ (Kd.R_lower ho0 (below_size bb_));replace BK1261:=bz BK1261 hb;replace HB:=A_ (below_step bb_ hb);(try clear hb);(try clear hb2);(try clear hk);(try clear hi);(try clear ho0);obtain ⟨Ao8,co8,eo8⟩:=Kd.R_slice HO1267.out;subst eo8))
 go_loopg [3,15] k (fun kq v3 v15 w'=>∃ (x3_1 : List (S102)) (x15_1 : Int),v15 = .int .i64 x15_1 ∧ Aside0 (impl_Order_ends.l0 kq x3_1 t1265 t1265 (t1265.length : Int) x15_1 a0_0 l0_1 = some r) ∧ Aside0 (kq ≤ k) ∧ Aside0 (Kd.R k102 102 w' w.heap.size (fun _=>True) v3 x3_1) ∧ Aside0 (Kd.R (Kd.int .i64) 3 w' w.heap.size (fun _=>True) (.slice Ao8 t1265.length co8) t1265) ∧ Aside0 (Kd.R (Kd.int .i64) 3 w' w.heap.size (fun _=>True) (.slice Ao8 t1265.length co8) t1265) ∧ Aside0 (w'.heap[gb1261]? = some (.cells #[.int .i64 a0_0,(.slice A0_1 l0_1.length c0_1)] 26 (0,0))) ∧ Aside0 (Below w.heap.size w w'))
 case atStart=>exact ⟨(y1262),(0),(by first|rfl|(simp;done)|(simp [*];done)),H',⟨Nat.le_refl _⟩,⟨by (with_reducible repeat (first|apply Kd.R_alloc|apply Kd.R_drewN|apply Kd.R_drew));exact HO1264.out⟩,⟨by (with_reducible repeat (first|apply Kd.R_alloc|apply Kd.R_drewN|apply Kd.R_drew));exact HO1267.out⟩,⟨by (with_reducible repeat (first|apply Kd.R_alloc|apply Kd.R_drewN|apply Kd.R_drew));exact HO1267.out⟩,⟨bl_ BK1261⟩,⟨bb_⟩⟩
 case round =>
  clear H';try clear c1
  try clear p2
  try clear hcz6_0
  try clear hcz6_1
  try clear hfz6_0
  try clear hfz6_1
  obtain ⟨x3_1,x15_1,rfl,HA,HK1,HO_3,HO_4,HO_13,BK1261,HB⟩:=hrel;cases gk with
  | zero => exact absurd HA.out (by simp [impl_Order_ends.l0])
  | succ k1 =>
   have H:=HA.out;clear HA;simp only [impl_Order_ends.l0] at H
   by_cases c9 : x15_1 < (t1265.length : Int)
   ·rw [if_pos c9] at H;have c9b0 : decide (x15_1 < (t1265.length : Int)) = true:=decide_eq_true c9;clear c9;by_cases c10 : 0 ≤ x15_1
    ·rw [if_pos c10] at H;have c10b0 : decide (0 ≤ x15_1) = true:=decide_eq_true c10;clear c10;by_cases c11 : x15_1 < (t1265.length : Int)
     ·rw [if_pos c11] at H;have c11b0 : decide (x15_1 < (t1265.length : Int)) = true:=decide_eq_true c11;clear c11;have H':=A_ H;clear H;have p1268 : 0 ≤ (x15_1 : Int):=of_decide_eq_true (by first|(with_reducible assumption)|assumption);have q1268 : x15_1 < (t1265.length : Int):=of_decide_eq_true (by first|(with_reducible assumption)|assumption);obtain ⟨ad1268,e1268,hx1268_0⟩:=Kd.at_int (Kd.R_reads' HO_13.out).2.2 x15_1 p1268 q1268;cases e1268
      replace p1268:=eq_true p1268;replace q1268:=eq_true q1268;go_wp2
      go_loopg [7,23] k1 (fun kq v7 v23 w'=>∃ (x7_2 : Int) (x23_2 : Int),v7 = .int .i64 x7_2 ∧ v23 = .int .i64 x23_2 ∧ Aside0 (impl_Order_ends.l1 kq x3_1 t1265 x15_1 (rd t1265 x15_1) x7_2 t1265 (t1265.length : Int) x15_1 t1265 (t1265.length : Int) x23_2 a0_0 l0_1 = some r) ∧ Aside0 (kq ≤ k1) ∧ Aside0 (Kd.R k102 102 w' w.heap.size (fun _=>True) u3 x3_1) ∧ Aside0 (Kd.R (Kd.int .i64) 3 w' w.heap.size (fun _=>True) (.slice (some ad1268) t1265.length co8) t1265) ∧ Aside0 (Kd.R (Kd.int .i64) 3 w' w.heap.size (fun _=>True) (.slice (some ad1268) t1265.length co8) t1265) ∧ Aside0 (Kd.R (Kd.int .i64) 3 w' w.heap.size (fun _=>True) (.slice (some ad1268) t1265.length co8) t1265) ∧ Aside0 (w'.heap[gb1261]? = some (.cells #[.int .i64 a0_0,(.slice A0_1 l0_1.length c0_1)] 26 (0,0))) ∧ Aside0 (Below w.heap.size w w'))
      case atStart=>exact ⟨(rd t1265 x15_1),(0),(by first|rfl|(simp;done)|(simp [*];done)),(by first|rfl|(simp;done)|(simp [*];done)),H',⟨Nat.le_refl _⟩,⟨by (with_reducible repeat (first|apply Kd.R_alloc|apply Kd.R_drewN|apply Kd.R_drew));exact HO_3.out⟩,⟨by (with_reducible repeat (first|apply Kd.R_alloc|apply Kd.R_drewN|apply Kd.R_drew));exact HO_4.out⟩,⟨by (with_reducible repeat (first|apply Kd.R_alloc|apply Kd.R_drewN|apply Kd.R_drew));exact HO_13.out⟩,⟨by (with_reducible repeat (first|apply Kd.R_alloc|apply Kd.R_drewN|apply Kd.R_drew));exact HO_4.out⟩,⟨bl_ BK1261⟩,⟨bb_⟩⟩
      case round =>
       clear H';try clear c1
       try clear p1
       try clear q1
       try clear hx1
       try clear p2
       try clear c9
       try clear c9b0
       try clear c10
       try clear c10b0
       try clear c11
       try clear c11b0
       try clear hcz6_0
       try clear hcz6_1
       try clear hfz6_0
       try clear hfz6_1
       try clear hx1268_0
       try clear p1268
       try clear p2
       try clear q1268
       obtain ⟨x7_2,x23_2,rfl,rfl,HA,HK2,HO_3,HO_4,HO_13,HO_21,BK1261,HB⟩:=hrel;cases gk with
       | zero=>exact absurd HA.out (by simp [impl_Order_ends.l1])
       | succ k2 =>
        have H:=HA.out;clear HA;simp only [impl_Order_ends.l1] at H
        by_cases c12 : x23_2 < (t1265.length : Int)
        ·rw [if_pos c12] at H;have c12b0 : decide (x23_2 < (t1265.length : Int)) = true:=decide_eq_true c12;clear c12;by_cases c13 : 0 ≤ x23_2
         ·rw [if_pos c13] at H;have c13b0 : decide (0 ≤ x23_2) = true:=decide_eq_true c13;clear c13;by_cases c14 : x23_2 < (t1265.length : Int)
          ·rw [if_pos c14] at H;have c14b0 : decide (x23_2 < (t1265.length : Int)) = true:=decide_eq_true c14;clear c14;replace H:=Option.bind_eq_some_iff.mp H;obtain ⟨t1270,A150,H⟩:=H;replace H : (if t1270 = true then (impl_Order_ends.l1 k2 x3_1 t1265 x15_1 (rd t1265 x15_1) x7_2 t1265 (t1265.length : Int) x15_1 t1265 (t1265.length : Int) (wrap64 (x23_2 + 1)) a0_0 l0_1) else (impl_Order_ends.l1 k2 x3_1 t1265 x15_1 (rd t1265 x15_1) (mx x7_2 (rd t1265 x23_2)) t1265 (t1265.length : Int) x15_1 t1265 (t1265.length : Int) (wrap64 (x23_2 + 1)) a0_0 l0_1)) = some r:=H;have A15:=A_ A150;clear A150;by_cases c16 : t1270 = true
           ·subst c16;have H1 : (impl_Order_ends.l1 k2 x3_1 t1265 x15_1 (rd t1265 x15_1) x7_2 t1265 (t1265.length : Int) x15_1 t1265 (t1265.length : Int) (wrap64 (x23_2 + 1)) a0_0 l0_1) = some r:=by rw [if_pos rfl] at H;exact H
            clear H;have H:=H1;clear H1;have H':=A_ H;clear H;have p1269 : 0 ≤ (x23_2 : Int):=of_decide_eq_true (by first|(with_reducible assumption)|assumption);have q1269 : x23_2 < (t1265.length : Int):=of_decide_eq_true (by first|(with_reducible assumption)|assumption);obtain ⟨ad1269,e1269,hx1269_0⟩:=Kd.at_int (Kd.R_reads' HO_21.out).2.2 x23_2 p1269 q1269;obtain rfl : ad1268 = ad1269:=(by injection e1269);replace p1269:=eq_true p1269;replace q1269:=eq_true q1269;have hcz17_0 : wr.cell? ⟨gb1261,0,none⟩ = some (.int .i64 a0_0):=blk_cell BK1261.out 0;have hcz17_1 : wr.cell? ⟨gb1261,1,none⟩ = some (.slice A0_1 l0_1.length c0_1):=blk_cell BK1261.out 1;have hfz17_0:=blk_frozen BK1261.out 0;have hfz17_1:=blk_frozen BK1261.out 1;go_wp2_with (first|((with_reducible refine gate_callee (f:=69) rfl ?_);refine goesL_ (some 31) rfl rfl Tryd.func69 (by kernel_rfl) rfl #[.agg #[.int .i64 a0_0,.slice A0_1 l0_1.length c0_1],.int .i64 x15_1,.int .i64 x23_2] rfl au_ ?_;(with_reducible refine (impl_Order_better.calls a0_0 _ _ l0_1 x15_1 x23_2 true _ ?side1 ?side2 A15.out).mono ?_);(case side1=>exact cl_ (Kd.C_below HR0_1.out HB.out));(case side2=>exact HC0_1.out);rintro e w18 ⟨rfl,hb⟩;refine ⟨_,rfl,?_⟩;replace HO_3:=rb_ HO_3 hb;replace HO_4:=rb_ HO_4 hb;replace HO_13:=rb_ HO_13 hb;replace HO_21:=rb_ HO_21 hb;replace BK1261:=bz BK1261 hb;replace HB:=A_ (below_step bb_ hb);(try clear hb);(try clear hb2);(try clear hk);(try clear hi)))
            go_roundg k2
            case measure=>have:=HK1.out;have:=HK2.out;omega
            case rel=>exact ⟨(x7_2),(wrap64 (x23_2 + 1)),(by first|rfl|(simp;done)|(simp [*];done)),(by first|rfl|(simp;done)|(simp [*];done)),H',⟨by have:=HK1.out;have:=HK2.out;omega⟩,⟨by (with_reducible repeat (first|apply Kd.R_alloc|apply Kd.R_drewN|apply Kd.R_drew));exact HO_3.out⟩,⟨by (with_reducible repeat (first|apply Kd.R_alloc|apply Kd.R_drewN|apply Kd.R_drew));exact HO_4.out⟩,⟨by (with_reducible repeat (first|apply Kd.R_alloc|apply Kd.R_drewN|apply Kd.R_drew));exact HO_13.out⟩,⟨by (with_reducible repeat (first|apply Kd.R_alloc|apply Kd.R_drewN|apply Kd.R_drew));exact HO_21.out⟩,⟨bl_ BK1261⟩,⟨bb_⟩⟩
           ·replace c16:=Bool.eq_false_iff.mpr c16;subst c16;have H1 : (impl_Order_ends.l1 k2 x3_1 t1265 x15_1 (rd t1265 x15_1) (mx x7_2 (rd t1265 x23_2)) t1265 (t1265.length : Int) x15_1 t1265 (t1265.length : Int) (wrap64 (x23_2 + 1)) a0_0 l0_1) = some r:=by rw [if_neg (show ¬ (false = true) by decide)] at H;exact H
            clear H;have H:=H1;clear H1;obtain ⟨ji19,hji19⟩ : ∃ j_ : Int,(mx x7_2 (rd t1265 x23_2)) = j_:=⟨_,rfl⟩;replace H : (impl_Order_ends.l1 k2 x3_1 t1265 x15_1 (rd t1265 x15_1) ji19 t1265 (t1265.length : Int) x15_1 t1265 (t1265.length : Int) (wrap64 (x23_2 + 1)) a0_0 l0_1) = some r:=by first|(rw [hji19] at H;exact H)|(simp only [hji19] at H ⊢;exact H)
            (try rw [hji19] at A15);have hji19_ : (if x7_2 < (rd t1265 x23_2) then (rd t1265 x23_2) else x7_2) = ji19:=hji19;have H':=A_ H;clear H;have p1269 : 0 ≤ (x23_2 : Int):=of_decide_eq_true (by first|(with_reducible assumption)|assumption);have q1269 : x23_2 < (t1265.length : Int):=of_decide_eq_true (by first|(with_reducible assumption)|assumption);obtain ⟨ad1269,e1269,hx1269_0⟩:=Kd.at_int (Kd.R_reads' HO_21.out).2.2 x23_2 p1269 q1269;obtain rfl : ad1268 = ad1269:=(by injection e1269);replace p1269:=eq_true p1269;replace q1269:=eq_true q1269;have hcz20_0 : wr.cell? ⟨gb1261,0,none⟩ = some (.int .i64 a0_0):=blk_cell BK1261.out 0;have hcz20_1 : wr.cell? ⟨gb1261,1,none⟩ = some (.slice A0_1 l0_1.length c0_1):=blk_cell BK1261.out 1;have hfz20_0:=blk_frozen BK1261.out 0;have hfz20_1:=blk_frozen BK1261.out 1;go_wp2_with (first|((with_reducible refine gate_callee (f:=69) rfl ?_);refine goesL_ (some 31) rfl rfl Tryd.func69 (by kernel_rfl) rfl #[.agg #[.int .i64 a0_0,.slice A0_1 l0_1.length c0_1],.int .i64 x15_1,.int .i64 x23_2] rfl au_ ?_;(with_reducible refine (impl_Order_better.calls a0_0 _ _ l0_1 x15_1 x23_2 false _ ?side1 ?side2 A15.out).mono ?_);(case side1=>exact cl_ (Kd.C_below HR0_1.out HB.out));(case side2=>exact HC0_1.out);rintro e w21 ⟨rfl,hb⟩;refine ⟨_,rfl,?_⟩;replace HO_3:=rb_ HO_3 hb;replace HO_4:=rb_ HO_4 hb;replace HO_13:=rb_ HO_13 hb;replace HO_21:=rb_ HO_21 hb;replace BK1261:=bz BK1261 hb;replace HB:=A_ (below_step bb_ hb);(try clear hb);(try clear hb2);(try clear hk);(try clear hi)))
            go_roundg k2
            case measure=>have:=HK1.out;have:=HK2.out;omega
            case rel=>exact ⟨(ji19),(wrap64 (x23_2 + 1)),(by first|rfl|(simp;done)|(simp only [← hji19] <;> (first|rfl|simp))|(simp [*];done)),(by first|rfl|(simp;done)|(simp [*];done)),H',⟨by have:=HK1.out;have:=HK2.out;omega⟩,⟨by (with_reducible repeat (first|apply Kd.R_alloc|apply Kd.R_drewN|apply Kd.R_drew));exact HO_3.out⟩,⟨by (with_reducible repeat (first|apply Kd.R_alloc|apply Kd.R_drewN|apply Kd.R_drew));exact HO_4.out⟩,⟨by (with_reducible repeat (first|apply Kd.R_alloc|apply Kd.R_drewN|apply Kd.R_drew));exact HO_13.out⟩,⟨by (with_reducible repeat (first|apply Kd.R_alloc|apply Kd.R_drewN|apply Kd.R_drew));exact HO_21.out⟩,⟨bl_ BK1261⟩,⟨bb_⟩⟩
          ·rw [if_neg c14] at H;exact absurd H (by simp)
         ·rw [if_neg c13] at H;exact absurd H (by simp)
        ·rw [if_neg c12] at H;have c12b0 : decide (x23_2 < (t1265.length : Int)) = false:=decide_eq_false c12;clear c12;by_cases c22 : x3_1.length < 8796093022208
         ·rw [if_pos c22] at H;have LMc22:=A_ c22;clear c22;obtain ⟨y1271,hy1271⟩ : ∃ y_ : List (S102),y_ = (x3_1 ++ [(⟨(rd t1265 x15_1),x7_2⟩ : S102)]):=⟨_,rfl⟩;replace H : (impl_Order_ends.l0 k2 y1271 t1265 t1265 (t1265.length : Int) (wrap64 (x15_1 + 1)) a0_0 l0_1) = some r:=by first|(rw [hy1271];with_reducible exact H)|(have H2_:=(Option.bind_some _ _).symm.trans H;rw [hy1271];with_reducible exact H2_)|(have H2_:=(Option.bind_some _ _).symm.trans H;with_reducible exact H2_)|with_reducible exact H|(rw [hy1271];exact H)|exact H
          have Ny1271:=A_ hy1271;clear hy1271;have H':=A_ H;clear H;go_wp2_with (first|((with_reducible refine gate_builtin (b:=.append) (xs:=#[.tmp 37,.tmp 41]) rfl ?_);at_builtin;refine Kd.R_append k102 (w0:=w) w.heap.size rfl (.tmp 37) (.tmp 41) 56 102 (.agg #[(.int .i64 0),(.int .i64 0)]) 16 rfl Tryd.underlying56 info102 rfl (by decide) (by omega) u3 x3_1 (⟨(rd t1265 x15_1),x7_2⟩ : S102) [.int .i64 (rd t1265 x15_1),.int .i64 x7_2] (fun _=>True) (fun _=>False) rfl rfl ?aP (fun _ hk=>hk.elim) ?aF ?aO ?aB ?aS ?aL ?_;(case aP=>exact k102_mkM _ _ _ (⟨(rd t1265 x15_1),x7_2⟩ : S102));(case aB=>exact bb_);(case aF=>exact (fun _ _=>trivial));(case aO=>exact (rl_ HO_3));(case aS=>exact (below_size bb_));(case aL=>have:=LMc22.out;omega);intro v1272 w23 ho hb hg hat;rw [← Ny1271.out] at ho;replace HO_4:=A_ (Kd.R_over' (rl_ HO_4) (Kd.R_typed (rl_ HO_3)) (by decide) hg);replace HO_13:=A_ (Kd.R_over' (rl_ HO_13) (Kd.R_typed (rl_ HO_3)) (by decide) hg);replace HO_21:=A_ (Kd.R_over' (rl_ HO_21) (Kd.R_typed (rl_ HO_3)) (by decide) hg);replace BK1261:=A_ (blk_grown (g:=gb1261) (o:=.cells #[.int .i64 a0_0,.slice A0_1 l0_1.length c0_1] 26 (0,0)) (bl_ BK1261) hg (Kd.R_ne HO_3.out BK1261.out (by decide)));replace HB:=A_ (hb);have HO1273:=A_ (ho);clear HO_3;clear ho hb hg hat))
          go_roundg k2
          case measure=>have:=HK1.out;have:=HK2.out;omega
          case rel=>exact ⟨(y1271),(wrap64 (x15_1 + 1)),(by first|rfl|(simp;done)|(simp [*];done)),H',⟨by have:=HK1.out;have:=HK2.out;omega⟩,⟨by (with_reducible repeat (first|apply Kd.R_alloc|apply Kd.R_drewN|apply Kd.R_drew));exact HO1273.out⟩,⟨by (with_reducible repeat (first|apply Kd.R_alloc|apply Kd.R_drewN|apply Kd.R_drew));exact HO_4.out⟩,⟨by (with_reducible repeat (first|apply Kd.R_alloc|apply Kd.R_drewN|apply Kd.R_drew));exact HO_13.out⟩,⟨bl_ BK1261⟩,⟨bb_⟩⟩
         ·rw [if_neg c22] at H;exact absurd H (by simp)
     ·rw [if_neg c11] at H;exact absurd H (by simp)
    ·rw [if_neg c10] at H;exact absurd H (by simp)
   ·rw [if_neg c9] at H;have c9b0 : decide (x15_1 < (t1265.length : Int)) = false:=decide_eq_false c9;clear c9;obtain rfl:=Option.some.inj H;go_wp2
    go_ret
    exact ⟨_,by first|rfl|(simp [errW_none,errW_some] <;> rfl)|(simp [*,errW_none,errW_some] <;> rfl),by (with_reducible repeat (first|apply Kd.R_alloc|apply Kd.R_drewN|apply Kd.R_drew));exact HO_3.out,bb_⟩
def impl_EndsOf.f (k : Nat) (a0_0 : Int) (l0_1 : List Int) : Option ((List (S102)) × Bool) := (impl_isInterval.f k a0_0 l0_1).bind fun t1275 => (if t1275 = true then ((impl_Order_ends.f k a0_0 l0_1).bind fun t1276 => (some (t1276, true))) else (some (([] : List (S102)), false)))
set_option maxHeartbeats 8000000 in
set_option maxRecDepth 100000 in
theorem impl_EndsOf.calls (k : Nat) (a0_0 : Int) (A0_1 : Option Addr) (c0_1 : Nat) (l0_1 : List Int) (r1 : List (S102)) (r2 : Bool) (w : World) (hr0_1 : Kd.C (Kd.int .i64) w A0_1 l0_1.length l0_1) (hc0_1 : l0_1.length ≤ c0_1) (hT : TabOK w) (h : impl_EndsOf.f k a0_0 l0_1 = some (r1,r2)) :
 Calls Tryd.prog 55 #[.agg #[.int .i64 a0_0,.slice A0_1 l0_1.length c0_1]] w fun e w'=>∃ v0_ : Value,e = .returned (.tuple #[v0_,.bool r2]) ∧ Kd.R k102 102 w' w.heap.size (fun _=>True) v0_ r1 ∧ Below w.heap.size w w':=by
 have hu26:=Tryd.underlying26;have HT:=A_ hT;clear hT;have HR0_1:=A_ hr0_1;have HC0_1:=A_ hc0_1;clear hr0_1 hc0_1;have HB:=A_ (Below.refl w.heap.size w);have H : ((impl_isInterval.f k a0_0 l0_1).bind fun t1275=>(if t1275 = true then ((impl_Order_ends.f k a0_0 l0_1).bind fun t1276=>(some (t1276,true))) else (some (([] : List (S102)),false)))) = some (r1,r2):=h;clear h;replace H:=Option.bind_eq_some_iff.mp H;obtain ⟨t1275,A20,H⟩:=H;replace H : (if t1275 = true then ((impl_Order_ends.f k a0_0 l0_1).bind fun t1276=>(some (t1276,true))) else (some (([] : List (S102)),false))) = some (r1,r2):=H;have A2:=A_ A20;clear A20;by_cases c3 : t1275 = true
 ·subst c3;have H1 : ((impl_Order_ends.f k a0_0 l0_1).bind fun t1276=>(some (t1276,true))) = some (r1,r2):=by rw [if_pos rfl] at H;exact H
  clear H;have H:=H1;clear H1;replace H:=Option.bind_eq_some_iff.mp H;obtain ⟨t1276,A40,H⟩:=H;replace H : (some (t1276,true)) = some (r1,r2):=H;have A4:=A_ A40;clear A40;simp only [Option.some.injEq,Prod.mk.injEq] at H
  obtain ⟨rfl,rfl⟩:=H;go_enter Tryd.func55,Tryd.ntmps55
  go_wp2_with (first|((with_reducible refine gate_dst (N:=1) rfl ?_);refine box_event ?hg (N:=1) ?hd (cs:=#[.int .i64 a0_0,.slice A0_1 l0_1.length c0_1]) (t:=26) ?hr ?_;(case hd=>rfl);(case hg=>rfl);(case hr=>first|(go_simp;done)|(go_simp;rfl));intro gb1274 hg w5 hbox hb;have BK1274:=A_ (hbox);have GW1274:=A_ ((by rw [hg];exact (below_size bb_) : w.heap.size ≤ gb1274));have GE1274:=A_ ((by rw [hg];exact (below_size bb_) : w.heap.size ≤ gb1274));replace HB:=A_ (below_step bb_ hb);clear hb hbox hg;have hcz6_0 : w5.cell? ⟨gb1274,0,none⟩ = some (.int .i64 a0_0):=blk_cell BK1274.out 0;have hcz6_1 : w5.cell? ⟨gb1274,1,none⟩ = some (.slice A0_1 l0_1.length c0_1):=blk_cell BK1274.out 1;have hfz6_0:=blk_frozen BK1274.out 0;have hfz6_1:=blk_frozen BK1274.out 1)|((with_reducible refine gate_callee (f:=107) rfl ?_);refine goesL_ (some 5) rfl rfl Tryd.func107 (by kernel_rfl) rfl #[.agg #[.int .i64 a0_0,.slice A0_1 l0_1.length c0_1]] rfl au_ ?_;(with_reducible refine (impl_isInterval.calls k a0_0 _ _ l0_1 true _ ?side1 ?side2 ?side3 A2.out).mono ?_);(case side1=>exact cl_ (Kd.C_below HR0_1.out HB.out));(case side2=>exact HC0_1.out);(case side3=>first|exact HT.out|exact HT.out.below bb_|(repeat (first|exact HT.out|apply TabOK.drewN|apply TabOK.drew|apply TabOK.alloc)));rintro e w7 ⟨rfl,hb⟩;refine ⟨_,rfl,?_⟩;replace BK1274:=bz BK1274 hb;replace HB:=A_ (below_step bb_ hb);(try clear hb);(try clear hb2);(try clear hk);(try clear hi);have hcz8_0 : w7.cell? ⟨gb1274,0,none⟩ = some (.int .i64 a0_0):=blk_cell BK1274.out 0;have hcz8_1 : w7.cell? ⟨gb1274,1,none⟩ = some (.slice A0_1 l0_1.length c0_1):=blk_cell BK1274.out 1;have hfz8_0:=blk_frozen BK1274.out 0;have hfz8_1:=blk_frozen BK1274.out 1)|((with_reducible refine gate_callee (f:=109) rfl ?_);refine goesL_ (some 8) rfl rfl Tryd.func109 (by kernel_rfl) rfl #[.agg #[.int .i64 a0_0,.slice A0_1 l0_1.length c0_1]] rfl au_ ?_;(with_reducible refine (impl_Order_ends.calls k a0_0 _ _ l0_1 t1276 _ ?side1 ?side2 A4.out).mono ?_);(case side1=>exact cl_ (Kd.C_below HR0_1.out HB.out));(case side2=>exact HC0_1.out);rintro e w9 ⟨v1277,rfl,ho0,hb⟩;refine ⟨_,rfl,?_⟩;have HO1278:=A_ (Kd.R_lower ho0 (below_size bb_));replace BK1274:=bz BK1274 hb;replace HB:=A_ (below_step bb_ hb);(try clear hb);(try clear hb2);(try clear hk);(try clear hi);(try clear ho0)))
  go_ret2
  exact ⟨_,by first|rfl|(simp [errW_none,errW_some] <;> rfl)|(simp [*,errW_none,errW_some] <;> rfl),by (with_reducible repeat (first|apply Kd.R_alloc|apply Kd.R_drewN|apply Kd.R_drew));exact HO1278.out,bb_⟩
 ·replace c3:=Bool.eq_false_iff.mpr c3;subst c3;have H1 : (some (([] : List (S102)),false)) = some (r1,r2):=by rw [if_neg (show ¬ (false = true) by decide)] at H;exact H
  clear H;have H:=H1;clear H1;simp only [Option.some.injEq,Prod.mk.injEq] at H
  obtain ⟨rfl,rfl⟩:=H;go_enter Tryd.func55,Tryd.ntmps55
  go_wp2_with (first|((with_reducible refine gate_dst (N:=1) rfl ?_);refine box_event ?hg (N:=1) ?hd (cs:=#[.int .i64 a0_0,.slice A0_1 l0_1.length c0_1]) (t:=26) ?hr ?_;(case hd=>rfl);(case hg=>rfl);(case hr=>first|(go_simp;done)|(go_simp;rfl));intro gb1274 hg w10 hbox hb;have BK1274:=A_ (hbox);have GW1274:=A_ ((by rw [hg];exact (below_size bb_) : w.heap.size ≤ gb1274));have GE1274:=A_ ((by rw [hg];exact (below_size bb_) : w.heap.size ≤ gb1274));replace HB:=A_ (below_step bb_ hb);clear hb hbox hg;have hcz11_0 : w10.cell? ⟨gb1274,0,none⟩ = some (.int .i64 a0_0):=blk_cell BK1274.out 0;have hcz11_1 : w10.cell? ⟨gb1274,1,none⟩ = some (.slice A0_1 l0_1.length c0_1):=blk_cell BK1274.out 1;have hfz11_0:=blk_frozen BK1274.out 0;have hfz11_1:=blk_frozen BK1274.out 1)|((with_reducible refine gate_callee (f:=107) rfl ?_);refine goesL_ (some 5) rfl rfl Tryd.func107 (by kernel_rfl) rfl #[.agg #[.int .i64 a0_0,.slice A0_1 l0_1.length c0_1]] rfl au_ ?_;(with_reducible refine (impl_isInterval.calls k a0_0 _ _ l0_1 false _ ?side1 ?side2 ?side3 A2.out).mono ?_);(case side1=>exact cl_ (Kd.C_below HR0_1.out HB.out));(case side2=>exact HC0_1.out);(case side3=>first|exact HT.out|exact HT.out.below bb_|(repeat (first|exact HT.out|apply TabOK.drewN|apply TabOK.drew|apply TabOK.alloc)));rintro e w12 ⟨rfl,hb⟩;refine ⟨_,rfl,?_⟩;replace BK1274:=bz BK1274 hb;replace HB:=A_ (below_step bb_ hb);(try clear hb);(try clear hb2);(try clear hk);(try clear hi)))
  go_ret2
  exact ⟨_,by first|rfl|(simp [errW_none,errW_some] <;> rfl)|(simp [*,errW_none,errW_some] <;> rfl),by first|exact Kd.R_nil _ _ _ _ _|exact Kd.N_nil _ _ _ _ _|exact Kd.V_nil _ _ _ _ _|exact Kd.Q_nil _ _ _ _ _|exact Kd.S_nil _ _ _ _ _,bb_⟩
def impl_Order_magnitude.f (k : Nat) (a0_0 : Int) (l0_1 : List Int) : Option (Int) := (impl_Order_levels.f k a0_0 l0_1).bind fun t1280 => ((impl_different.f t1280).bind fun t1283 => (some (t1283.length : Int)))
set_option maxHeartbeats 8000000 in
set_option maxRecDepth 100000 in
theorem impl_Order_magnitude.calls (k : Nat) (a0_0 : Int) (A0_1 : Option Addr) (c0_1 : Nat) (l0_1 : List Int) (r : Int) (w : World) (hr0_1 : Kd.C (Kd.int .i64) w A0_1 l0_1.length l0_1) (hc0_1 : l0_1.length ≤ c0_1) (h : impl_Order_magnitude.f k a0_0 l0_1 = some r) :
 Calls Tryd.prog 110 #[.agg #[.int .i64 a0_0,.slice A0_1 l0_1.length c0_1]] w fun e w'=>e = .returned (.int .i64 r) ∧ Below w.heap.size w w':=by
 have hu26:=Tryd.underlying26;have HR0_1:=A_ hr0_1;have HC0_1:=A_ hc0_1;clear hr0_1 hc0_1;have HB:=A_ (Below.refl w.heap.size w);have H : ((impl_Order_levels.f k a0_0 l0_1).bind fun t1280=>((impl_different.f t1280).bind fun t1283=>(some (t1283.length : Int)))) = some r:=h;clear h;replace H:=Option.bind_eq_some_iff.mp H;obtain ⟨t1280,A20,H⟩:=H;replace H : ((impl_different.f t1280).bind fun t1283=>(some (t1283.length : Int))) = some r:=H;have A2:=A_ A20;clear A20;replace H:=Option.bind_eq_some_iff.mp H;obtain ⟨t1283,A30,H⟩:=H;replace H : (some (t1283.length : Int)) = some r:=H;have A3:=A_ A30;clear A30;obtain rfl:=Option.some.inj H;go_enter Tryd.func110,Tryd.ntmps110
 go_wp2_with (first|((with_reducible refine gate_dst (N:=1) rfl ?_);refine box_event ?hg (N:=1) ?hd (cs:=#[.int .i64 a0_0,.slice A0_1 l0_1.length c0_1]) (t:=26) ?hr ?_;(case hd=>rfl);(case hg=>rfl);(case hr=>first|(go_simp;done)|(go_simp;rfl));intro gb1279 hg w4 hbox hb;have BK1279:=A_ (hbox);have GW1279:=A_ ((by rw [hg];exact (below_size bb_) : w.heap.size ≤ gb1279));have GE1279:=A_ ((by rw [hg];exact (below_size bb_) : w.heap.size ≤ gb1279));replace HB:=A_ (below_step bb_ hb);clear hb hbox hg;have hcz5_0 : w4.cell? ⟨gb1279,0,none⟩ = some (.int .i64 a0_0):=blk_cell BK1279.out 0;have hcz5_1 : w4.cell? ⟨gb1279,1,none⟩ = some (.slice A0_1 l0_1.length c0_1):=blk_cell BK1279.out 1;have hfz5_0:=blk_frozen BK1279.out 0;have hfz5_1:=blk_frozen BK1279.out 1)|((with_reducible refine gate_callee (f:=108) rfl ?_);refine goesL_ (some 4) rfl rfl Tryd.func108 (by kernel_rfl) rfl #[.agg #[.int .i64 a0_0,.slice A0_1 l0_1.length c0_1]] rfl au_ ?_;(with_reducible refine (impl_Order_levels.calls k a0_0 _ _ l0_1 t1280 _ ?side1 ?side2 A2.out).mono ?_);(case side1=>exact cl_ (Kd.C_below HR0_1.out HB.out));(case side2=>exact HC0_1.out);rintro e w6 ⟨v1281,rfl,ho0,hb⟩;refine ⟨_,rfl,?_⟩;have HO1282:=A_ (Kd.R_lower ho0 (below_size bb_));replace BK1279:=bz BK1279 hb;replace HB:=A_ (below_step bb_ hb);(try clear hb);(try clear hb2);(try clear hk);(try clear hi);(try clear ho0);obtain ⟨Ao7,co7,eo7⟩:=Kd.R_slice HO1282.out;subst eo7)|((with_reducible refine gate_callee (f:=141) rfl ?_);refine goesL_ (some 5) rfl rfl Tryd.func141 (by kernel_rfl) rfl #[.slice Ao7 t1280.length co7] rfl au_ ?_;(with_reducible refine (impl_different.calls _ _ t1280 t1283 _ ?side1 ?side2 A3.out).mono ?_);(case side1=>exact cl_ (Kd.R_reads' HO1282.out).2.2);(case side2=>exact (Kd.R_reads' HO1282.out).2.1);rintro e w8 ⟨v1284,rfl,ho0,hb⟩;refine ⟨_,rfl,?_⟩;have HO1285:=A_ (Kd.R_lower (Kd.R_new' ho0 (Kd.R_lt (rl_ HO1282))) (below_size bb_));replace HO1282:=A_ (Kd.R_elder' (rl_ HO1282) (Kd.R_base ho0) hb);replace BK1279:=bz BK1279 hb;replace HB:=A_ (below_step bb_ hb);(try clear hb);(try clear hb2);(try clear hk);(try clear hi);(try clear ho0);obtain ⟨Ao9,co9,eo9⟩:=Kd.R_slice HO1285.out;subst eo9))
 go_ret
 exact ⟨by first|rfl|(simp [errW_none,errW_some] <;> rfl)|(simp [*,errW_none,errW_some] <;> rfl),bb_⟩
def impl_MagnitudeOf.f (k : Nat) (a0_0 : Int) (l0_1 : List Int) : Option (Int × Bool) := (impl_isInterval.f k a0_0 l0_1).bind fun t1287 => (if t1287 = true then ((impl_Order_magnitude.f k a0_0 l0_1).bind fun t1288 => (some (t1288, true))) else (some (0, false)))
set_option maxHeartbeats 8000000 in
set_option maxRecDepth 100000 in
theorem impl_MagnitudeOf.calls (k : Nat) (a0_0 : Int) (A0_1 : Option Addr) (c0_1 : Nat) (l0_1 : List Int) (r1 : Int) (r2 : Bool) (w : World) (hr0_1 : Kd.C (Kd.int .i64) w A0_1 l0_1.length l0_1) (hc0_1 : l0_1.length ≤ c0_1) (hT : TabOK w) (h : impl_MagnitudeOf.f k a0_0 l0_1 = some (r1,r2)) :
 Calls Tryd.prog 56 #[.agg #[.int .i64 a0_0,.slice A0_1 l0_1.length c0_1]] w fun e w'=>e = .returned (.tuple #[.int .i64 r1,.bool r2]) ∧ Below w.heap.size w w':=by
 have hu26:=Tryd.underlying26;have HT:=A_ hT;clear hT;have HR0_1:=A_ hr0_1;have HC0_1:=A_ hc0_1;clear hr0_1 hc0_1;have HB:=A_ (Below.refl w.heap.size w);have H : ((impl_isInterval.f k a0_0 l0_1).bind fun t1287=>(if t1287 = true then ((impl_Order_magnitude.f k a0_0 l0_1).bind fun t1288=>(some (t1288,true))) else (some (0,false)))) = some (r1,r2):=h;clear h;replace H:=Option.bind_eq_some_iff.mp H;obtain ⟨t1287,A20,H⟩:=H;replace H : (if t1287 = true then ((impl_Order_magnitude.f k a0_0 l0_1).bind fun t1288=>(some (t1288,true))) else (some (0,false))) = some (r1,r2):=H;have A2:=A_ A20;clear A20;by_cases c3 : t1287 = true
 ·subst c3;have H1 : ((impl_Order_magnitude.f k a0_0 l0_1).bind fun t1288=>(some (t1288,true))) = some (r1,r2):=by rw [if_pos rfl] at H;exact H
  clear H;have H:=H1;clear H1;replace H:=Option.bind_eq_some_iff.mp H;obtain ⟨t1288,A40,H⟩:=H;replace H : (some (t1288,true)) = some (r1,r2):=H;have A4:=A_ A40;clear A40;simp only [Option.some.injEq,Prod.mk.injEq] at H
  obtain ⟨rfl,rfl⟩:=H;go_enter Tryd.func56,Tryd.ntmps56
  go_wp2_with (first|((with_reducible refine gate_dst (N:=1) rfl ?_);refine box_event ?hg (N:=1) ?hd (cs:=#[.int .i64 a0_0,.slice A0_1 l0_1.length c0_1]) (t:=26) ?hr ?_;(case hd=>rfl);(case hg=>rfl);(case hr=>first|(go_simp;done)|(go_simp;rfl));intro gb1286 hg w5 hbox hb;have BK1286:=A_ (hbox);have GW1286:=A_ ((by rw [hg];exact (below_size bb_) : w.heap.size ≤ gb1286));have GE1286:=A_ ((by rw [hg];exact (below_size bb_) : w.heap.size ≤ gb1286));replace HB:=A_ (below_step bb_ hb);clear hb hbox hg;have hcz6_0 : w5.cell? ⟨gb1286,0,none⟩ = some (.int .i64 a0_0):=blk_cell BK1286.out 0;have hcz6_1 : w5.cell? ⟨gb1286,1,none⟩ = some (.slice A0_1 l0_1.length c0_1):=blk_cell BK1286.out 1;have hfz6_0:=blk_frozen BK1286.out 0;have hfz6_1:=blk_frozen BK1286.out 1)|((with_reducible refine gate_callee (f:=107) rfl ?_);refine goesL_ (some 5) rfl rfl Tryd.func107 (by kernel_rfl) rfl #[.agg #[.int .i64 a0_0,.slice A0_1 l0_1.length c0_1]] rfl au_ ?_;(with_reducible refine (impl_isInterval.calls k a0_0 _ _ l0_1 true _ ?side1 ?side2 ?side3 A2.out).mono ?_);(case side1=>exact cl_ (Kd.C_below HR0_1.out HB.out));(case side2=>exact HC0_1.out);(case side3=>first|exact HT.out|exact HT.out.below bb_|(repeat (first|exact HT.out|apply TabOK.drewN|apply TabOK.drew|apply TabOK.alloc)));rintro e w7 ⟨rfl,hb⟩;refine ⟨_,rfl,?_⟩;replace BK1286:=bz BK1286 hb;replace HB:=A_ (below_step bb_ hb);(try clear hb);(try clear hb2);(try clear hk);(try clear hi);have hcz8_0 : w7.cell? ⟨gb1286,0,none⟩ = some (.int .i64 a0_0):=blk_cell BK1286.out 0;have hcz8_1 : w7.cell? ⟨gb1286,1,none⟩ = some (.slice A0_1 l0_1.length c0_1):=blk_cell BK1286.out 1;have hfz8_0:=blk_frozen BK1286.out 0;have hfz8_1:=blk_frozen BK1286.out 1)|((with_reducible refine gate_callee (f:=110) rfl ?_);refine goesL_ (some 8) rfl rfl Tryd.func110 (by kernel_rfl) rfl #[.agg #[.int .i64 a0_0,.slice A0_1 l0_1.length c0_1]] rfl au_ ?_;(with_reducible refine (impl_Order_magnitude.calls k a0_0 _ _ l0_1 t1288 _ ?side1 ?side2 A4.out).mono ?_);(case side1=>exact cl_ (Kd.C_below HR0_1.out HB.out));(case side2=>exact HC0_1.out);rintro e w9 ⟨rfl,hb⟩;refine ⟨_,rfl,?_⟩;replace BK1286:=bz BK1286 hb;replace HB:=A_ (below_step bb_ hb);(try clear hb);(try clear hb2);(try clear hk);(try clear hi)))
  go_ret2
  exact ⟨by first|rfl|(simp [errW_none,errW_some] <;> rfl)|(simp [*,errW_none,errW_some] <;> rfl),bb_⟩
 ·replace c3:=Bool.eq_false_iff.mpr c3;subst c3;have H1 : (some (0,false)) = some (r1,r2):=by rw [if_neg (show ¬ (false = true) by decide)] at H;exact H
  clear H;have H:=H1;clear H1;simp only [Option.some.injEq,Prod.mk.injEq] at H
  obtain ⟨rfl,rfl⟩:=H;go_enter Tryd.func56,Tryd.ntmps56
  go_wp2_with (first|((with_reducible refine gate_dst (N:=1) rfl ?_);refine box_event ?hg (N:=1) ?hd (cs:=#[.int .i64 a0_0,.slice A0_1 l0_1.length c0_1]) (t:=26) ?hr ?_;(case hd=>rfl);(case hg=>rfl);(case hr=>first|(go_simp;done)|(go_simp;rfl));intro gb1286 hg w10 hbox hb;have BK1286:=A_ (hbox);have GW1286:=A_ ((by rw [hg];exact (below_size bb_) : w.heap.size ≤ gb1286));have GE1286:=A_ ((by rw [hg];exact (below_size bb_) : w.heap.size ≤ gb1286));replace HB:=A_ (below_step bb_ hb);clear hb hbox hg;have hcz11_0 : w10.cell? ⟨gb1286,0,none⟩ = some (.int .i64 a0_0):=blk_cell BK1286.out 0;have hcz11_1 : w10.cell? ⟨gb1286,1,none⟩ = some (.slice A0_1 l0_1.length c0_1):=blk_cell BK1286.out 1;have hfz11_0:=blk_frozen BK1286.out 0;have hfz11_1:=blk_frozen BK1286.out 1)|((with_reducible refine gate_callee (f:=107) rfl ?_);refine goesL_ (some 5) rfl rfl Tryd.func107 (by kernel_rfl) rfl #[.agg #[.int .i64 a0_0,.slice A0_1 l0_1.length c0_1]] rfl au_ ?_;(with_reducible refine (impl_isInterval.calls k a0_0 _ _ l0_1 false _ ?side1 ?side2 ?side3 A2.out).mono ?_);(case side1=>exact cl_ (Kd.C_below HR0_1.out HB.out));(case side2=>exact HC0_1.out);(case side3=>first|exact HT.out|exact HT.out.below bb_|(repeat (first|exact HT.out|apply TabOK.drewN|apply TabOK.drew|apply TabOK.alloc)));rintro e w12 ⟨rfl,hb⟩;refine ⟨_,rfl,?_⟩;replace BK1286:=bz BK1286 hb;replace HB:=A_ (below_step bb_ hb);(try clear hb);(try clear hb2);(try clear hk);(try clear hi)))
  go_ret2
  exact ⟨by first|rfl|(simp [errW_none,errW_some] <;> rfl)|(simp [*,errW_none,errW_some] <;> rfl),bb_⟩
mutual
def impl_Order_setsAlong.l0 : Nat → List Int → List (S102) → Int → Int → Option (List Int)
 | 0,_,_,_,_=>none
 | k + 1,x3,x4,x13,x14=>if x14 < x13 then (impl_Order_setsAlong.l1 k x3 x4 x14 0 x13 x14 x4 (x4.length : Int) 0) else (some x3)
def impl_Order_setsAlong.l1 : Nat → List Int → List (S102) → Int → Int → Int → Int → List (S102) → Int → Int → Option (List Int)
 | 0,_,_,_,_,_,_,_,_,_=>none
 | k + 1,x3,x4,x5,x6,x13,x14,x17,x18,x19=>if x19 < x18 then (if 0 ≤ x19 then (if x19 < (x17.length : Int) then ((impl_within.f x5 ((rd_T102 x17 x19).f0) ((rd_T102 x17 x19).f1)).bind fun t1299=>(if t1299 = true then (impl_Order_setsAlong.l1 k x3 x4 x5 (Go.bits .or .i64 x6 (shl .i64 1 x19)) x13 x14 x17 x18 (wrap64 (x19 + 1))) else (impl_Order_setsAlong.l1 k x3 x4 x5 x6 x13 x14 x17 x18 (wrap64 (x19 + 1))))) else (none)) else (none)) else (if x3.length < 17592186044416 then (impl_Order_setsAlong.l0 k (x3 ++ [x6]) x4 x13 (wrap64 (x14 + 1))) else (none))
end
def impl_Order_setsAlong.f (k : Nat) (a0_0 : Int) (l0_1 : List Int) : Option (List Int) := (impl_Order_ends.f k a0_0 l0_1).bind fun t1293 => ((impl_Order_magnitude.f k a0_0 l0_1).bind fun t1296 => (impl_Order_setsAlong.l0 k (([] : List Int)) t1293 t1296 0))
set_option maxHeartbeats 8000000 in
set_option maxRecDepth 100000 in
theorem impl_Order_setsAlong.calls (k : Nat) (a0_0 : Int) (A0_1 : Option Addr) (c0_1 : Nat) (l0_1 : List Int) (r : List Int) (w : World) (hr0_1 : Kd.C (Kd.int .i64) w A0_1 l0_1.length l0_1) (hc0_1 : l0_1.length ≤ c0_1) (h : impl_Order_setsAlong.f k a0_0 l0_1 = some r) :
 Calls Tryd.prog 111 #[.agg #[.int .i64 a0_0,.slice A0_1 l0_1.length c0_1]] w fun e w'=>∃ v0_ : Value,e = .returned (v0_) ∧ Kd.R (Kd.int .i64) 3 w' w.heap.size (fun _=>True) v0_ r ∧ Below w.heap.size w w':=by
 have hu26:=Tryd.underlying26;have hu102:=Tryd.underlying102;have HR0_1:=A_ hr0_1;have HC0_1:=A_ hc0_1;clear hr0_1 hc0_1;have HB:=A_ (Below.refl w.heap.size w);have H : ((impl_Order_ends.f k a0_0 l0_1).bind fun t1293=>((impl_Order_magnitude.f k a0_0 l0_1).bind fun t1296=>(impl_Order_setsAlong.l0 k (([] : List Int)) t1293 t1296 0))) = some r:=h;clear h;obtain ⟨y1290,hy1290⟩ : ∃ y_ : List Int,y_ = (([] : List Int)):=⟨_,rfl⟩;replace H : ((impl_Order_ends.f k a0_0 l0_1).bind fun t1293=>((impl_Order_magnitude.f k a0_0 l0_1).bind fun t1296=>(impl_Order_setsAlong.l0 k y1290 t1293 t1296 0))) = some r:=by first|(rw [hy1290];with_reducible exact H)|(have H2_:=(Option.bind_some _ _).symm.trans H;rw [hy1290];with_reducible exact H2_)|(have H2_:=(Option.bind_some _ _).symm.trans H;with_reducible exact H2_)|with_reducible exact H|(rw [hy1290];exact H)|exact H
 have Ny1290:=A_ hy1290;clear hy1290;replace H:=Option.bind_eq_some_iff.mp H;obtain ⟨t1293,A20,H⟩:=H;replace H : ((impl_Order_magnitude.f k a0_0 l0_1).bind fun t1296=>(impl_Order_setsAlong.l0 k y1290 t1293 t1296 0)) = some r:=H;have A2:=A_ A20;clear A20;replace H:=Option.bind_eq_some_iff.mp H;obtain ⟨t1296,A30,H⟩:=H;replace H : (impl_Order_setsAlong.l0 k y1290 t1293 t1296 0) = some r:=H;have A3:=A_ A30;clear A30;have H':=A_ H;clear H;go_enter Tryd.func111,Tryd.ntmps111
 go_wp2_with (first|((with_reducible refine gate_dst (N:=1) rfl ?_);refine box_event ?hg (N:=1) ?hd (cs:=#[.int .i64 a0_0,.slice A0_1 l0_1.length c0_1]) (t:=26) ?hr ?_;(case hd=>rfl);(case hg=>rfl);(case hr=>first|(go_simp;done)|(go_simp;rfl));intro gb1289 hg w4 hbox hb;have BK1289:=A_ (hbox);have GW1289:=A_ ((by rw [hg];exact (below_size bb_) : w.heap.size ≤ gb1289));have GE1289:=A_ ((by rw [hg];exact (below_size bb_) : w.heap.size ≤ gb1289));replace HB:=A_ (below_step bb_ hb);clear hb hbox hg)|((with_reducible refine gate_dst (N:=9) rfl ?_);refine Kd.R_lit (Kd.int .i64) _ 3 ?hg (N:=9) ?hd (xs:=([] : List Int)) (inner:=[]) (ok:=fun _=>True) (okp:=fun _=>True) ?hr ?hp (fun _ hk=>hk) trivial (Below.refl _ _) (Nat.le_refl _) (by simp) ?_;(case hd=>rfl);(case hg=>rfl);(case hr=>first|(go_simp;done)|(go_simp;rfl));(case hp=>exact (Reps.none _ _));intro v1291 w5 ho6 hb hg_ hnew_;clear hg_ hnew_;(first|rw [← Ny1290.out] at ho6|(simp only [Int.reduceToNat] at ho6;rw [← Ny1290.out] at ho6));have HO1292:=A_ (Kd.R_lower ho6 (below_size bb_));replace BK1289:=bz BK1289 hb;replace HB:=A_ (below_step bb_ hb);clear hb ho6;have hcz7_0 : w5.cell? ⟨gb1289,0,none⟩ = some (.int .i64 a0_0):=blk_cell BK1289.out 0;have hcz7_1 : w5.cell? ⟨gb1289,1,none⟩ = some (.slice A0_1 l0_1.length c0_1):=blk_cell BK1289.out 1;have hfz7_0:=blk_frozen BK1289.out 0;have hfz7_1:=blk_frozen BK1289.out 1)|((with_reducible refine gate_callee (f:=109) rfl ?_);refine goesL_ (some 11) rfl rfl Tryd.func109 (by kernel_rfl) rfl #[.agg #[.int .i64 a0_0,.slice A0_1 l0_1.length c0_1]] rfl au_ ?_;(with_reducible refine (impl_Order_ends.calls k a0_0 _ _ l0_1 t1293 _ ?side1 ?side2 A2.out).mono ?_);(case side1=>exact cl_ (Kd.C_below HR0_1.out HB.out));(case side2=>exact HC0_1.out);rintro e w8 ⟨v1294,rfl,ho0,hb⟩;refine ⟨_,rfl,?_⟩;replace HO1292:=rb_ HO1292 hb;have HO1295:=A_ (Kd.R_lower ho0 (below_size bb_));replace BK1289:=bz BK1289 hb;replace HB:=A_ (below_step bb_ hb);(try clear hb);(try clear hb2);(try clear hk);(try clear hi);(try clear ho0);have hcz9_0 : w8.cell? ⟨gb1289,0,none⟩ = some (.int .i64 a0_0):=blk_cell BK1289.out 0;have hcz9_1 : w8.cell? ⟨gb1289,1,none⟩ = some (.slice A0_1 l0_1.length c0_1):=blk_cell BK1289.out 1;have hfz9_0:=blk_frozen BK1289.out 0;have hfz9_1:=blk_frozen BK1289.out 1)|((with_reducible refine gate_callee (f:=110) rfl ?_);refine goesL_ (some 13) rfl rfl Tryd.func110 (by kernel_rfl) rfl #[.agg #[.int .i64 a0_0,.slice A0_1 l0_1.length c0_1]] rfl au_ ?_;(with_reducible refine (impl_Order_magnitude.calls k a0_0 _ _ l0_1 t1296 _ ?side1 ?side2 A3.out).mono ?_);(case side1=>exact cl_ (Kd.C_below HR0_1.out HB.out));(case side2=>exact HC0_1.out);rintro e w10 ⟨rfl,hb⟩;refine ⟨_,rfl,?_⟩;replace HO1292:=rb_ HO1292 hb;replace HO1295:=rb_ HO1295 hb;replace BK1289:=bz BK1289 hb;replace HB:=A_ (below_step bb_ hb);(try clear hb);(try clear hb2);(try clear hk);(try clear hi)))
 go_loopg [3,14] k (fun kq v3 v14 w'=>∃ (x3_1 : List Int) (x14_1 : Int),v14 = .int .i64 x14_1 ∧ Aside0 (impl_Order_setsAlong.l0 kq x3_1 t1293 t1296 x14_1 = some r) ∧ Aside0 (kq ≤ k) ∧ Aside0 (Kd.R (Kd.int .i64) 3 w' w.heap.size (fun _=>True) v3 x3_1) ∧ Aside0 (Kd.R k102 102 w' w.heap.size (fun _=>True) v1294 t1293) ∧ Aside0 (w'.heap[gb1289]? = some (.cells #[.int .i64 a0_0,(.slice A0_1 l0_1.length c0_1)] 26 (0,0))) ∧ Aside0 (Below w.heap.size w w'))
 case atStart=>exact ⟨(y1290),(0),(by first|rfl|(simp;done)|(simp [*];done)),H',⟨Nat.le_refl _⟩,⟨by (with_reducible repeat (first|apply Kd.R_alloc|apply Kd.R_drewN|apply Kd.R_drew));exact HO1292.out⟩,⟨by (with_reducible repeat (first|apply Kd.R_alloc|apply Kd.R_drewN|apply Kd.R_drew));exact HO1295.out⟩,⟨bl_ BK1289⟩,⟨bb_⟩⟩
 case round =>
  clear H';try clear c1
  try clear p2
  try clear c10
  try clear hcz7_0
  try clear hcz7_1
  try clear hcz9_0
  try clear hcz9_1
  try clear hfz7_0
  try clear hfz7_1
  try clear hfz9_0
  try clear hfz9_1
  obtain ⟨x3_1,x14_1,rfl,HA,HK1,HO_3,HO_4,BK1289,HB⟩:=hrel;cases gk with
  | zero => exact absurd HA.out (by simp [impl_Order_setsAlong.l0])
  | succ k1 =>
   have H:=HA.out;clear HA;simp only [impl_Order_setsAlong.l0] at H
   by_cases c11 : x14_1 < t1296
   ·rw [if_pos c11] at H;have c11b0 : decide (x14_1 < t1296) = true:=decide_eq_true c11;clear c11;have H':=A_ H;clear H;obtain ⟨Ao12,co12,eo12⟩:=Kd.R_slice HO_4.out;subst eo12;go_wp2
    go_loopg [6,19] k1 (fun kq v6 v19 w'=>∃ (x6_2 : Int) (x19_2 : Int),v6 = .int .i64 x6_2 ∧ v19 = .int .i64 x19_2 ∧ Aside0 (impl_Order_setsAlong.l1 kq x3_1 t1293 x14_1 x6_2 t1296 x14_1 t1293 (t1293.length : Int) x19_2 = some r) ∧ Aside0 (kq ≤ k1) ∧ Aside0 (Kd.R (Kd.int .i64) 3 w' w.heap.size (fun _=>True) u3 x3_1) ∧ Aside0 (Kd.R k102 102 w' w.heap.size (fun _=>True) (.slice Ao12 t1293.length co12) t1293) ∧ Aside0 (Kd.R k102 102 w' w.heap.size (fun _=>True) (.slice Ao12 t1293.length co12) t1293) ∧ Aside0 (w'.heap[gb1289]? = some (.cells #[.int .i64 a0_0,(.slice A0_1 l0_1.length c0_1)] 26 (0,0))) ∧ Aside0 (Below w.heap.size w w'))
    case atStart=>exact ⟨(0),(0),(by first|rfl|(simp;done)|(simp [*];done)),(by first|rfl|(simp;done)|(simp [*];done)),H',⟨Nat.le_refl _⟩,⟨by (with_reducible repeat (first|apply Kd.R_alloc|apply Kd.R_drewN|apply Kd.R_drew));exact HO_3.out⟩,⟨by (with_reducible repeat (first|apply Kd.R_alloc|apply Kd.R_drewN|apply Kd.R_drew));exact HO_4.out⟩,⟨by (with_reducible repeat (first|apply Kd.R_alloc|apply Kd.R_drewN|apply Kd.R_drew));exact HO_4.out⟩,⟨bl_ BK1289⟩,⟨bb_⟩⟩
    case round =>
     clear H';try clear c1
     try clear p2
     try clear c10
     try clear c11
     try clear c11b0
     try clear hcz7_0
     try clear hcz7_1
     try clear hcz9_0
     try clear hcz9_1
     try clear hfz7_0
     try clear hfz7_1
     try clear hfz9_0
     try clear hfz9_1
     try clear p2
     obtain ⟨x6_2,x19_2,rfl,rfl,HA,HK2,HO_3,HO_4,HO_17,BK1289,HB⟩:=hrel;cases gk with
     | zero=>exact absurd HA.out (by simp [impl_Order_setsAlong.l1])
     | succ k2 =>
      have H:=HA.out;clear HA;simp only [impl_Order_setsAlong.l1] at H
      by_cases c13 : x19_2 < (t1293.length : Int)
      ·rw [if_pos c13] at H;have c13b0 : decide (x19_2 < (t1293.length : Int)) = true:=decide_eq_true c13;clear c13;by_cases c14 : 0 ≤ x19_2
       ·rw [if_pos c14] at H;have c14b0 : decide (0 ≤ x19_2) = true:=decide_eq_true c14;clear c14;by_cases c15 : x19_2 < (t1293.length : Int)
        ·rw [if_pos c15] at H;have c15b0 : decide (x19_2 < (t1293.length : Int)) = true:=decide_eq_true c15;clear c15;replace H:=Option.bind_eq_some_iff.mp H;obtain ⟨t1299,A160,H⟩:=H;replace H : (if t1299 = true then (impl_Order_setsAlong.l1 k2 x3_1 t1293 x14_1 (Go.bits .or .i64 x6_2 (shl .i64 1 x19_2)) t1296 x14_1 t1293 (t1293.length : Int) (wrap64 (x19_2 + 1))) else (impl_Order_setsAlong.l1 k2 x3_1 t1293 x14_1 x6_2 t1296 x14_1 t1293 (t1293.length : Int) (wrap64 (x19_2 + 1)))) = some r:=H;have A16:=A_ A160;clear A160;by_cases c17 : t1299 = true
         ·subst c17;have H1 : (impl_Order_setsAlong.l1 k2 x3_1 t1293 x14_1 (Go.bits .or .i64 x6_2 (shl .i64 1 x19_2)) t1296 x14_1 t1293 (t1293.length : Int) (wrap64 (x19_2 + 1))) = some r:=by rw [if_pos rfl] at H;exact H
          clear H;have H:=H1;clear H1;have c18b0:=eq_true (of_decide_eq_true (by first|(with_reducible assumption)|assumption) : 0 ≤ x19_2);obtain ⟨ji19,hji19⟩ : ∃ j_ : Int,(shl .i64 1 x19_2) = j_:=⟨_,rfl⟩;replace H : (impl_Order_setsAlong.l1 k2 x3_1 t1293 x14_1 (Go.bits .or .i64 x6_2 (ji19)) t1296 x14_1 t1293 (t1293.length : Int) (wrap64 (x19_2 + 1))) = some r:=by first|(rw [hji19] at H;exact H)|(simp only [hji19] at H ⊢;exact H)
          (try rw [hji19] at A16);have hji19_ : (IntKind.i64.wrap (1 * 2 ^ min x19_2.toNat 64)) = ji19:=hji19;have hji19z : x19_2 ≤ 64 → (IntKind.i64.wrap (1 * 2 ^ x19_2.toNat)) = ji19:=shl_small hji19;have hji19u : (IntKind.i64.wrap (2 ^ min x19_2.toNat 64)) = ji19:=by have h_:=hji19_;rw [Int.one_mul] at h_;exact h_
          have hji19v : x19_2 ≤ 64 → (IntKind.i64.wrap (2 ^ x19_2.toNat)) = ji19:=fun hle_=>by have h_:=hji19z hle_;rw [Int.one_mul] at h_;exact h_
          have hji19y : (wrap64 (1 * 2 ^ min x19_2.toNat 64)) = ji19:=(i64_w _).symm.trans hji19_;have hji19x : x19_2 ≤ 64 → (wrap64 (1 * 2 ^ x19_2.toNat)) = ji19:=fun h_=>(i64_w _).symm.trans (hji19z h_)
          have H':=A_ H;clear H;have p1297 : 0 ≤ (x19_2 : Int):=of_decide_eq_true (by first|(with_reducible assumption)|assumption);have q1297 : x19_2 < (t1293.length : Int):=of_decide_eq_true (by first|(with_reducible assumption)|assumption);obtain ⟨ad1297,e1297,hx1297_0,hx1297_1⟩:=at_T102 (Kd.R_reads' HO_17.out).2.2 x19_2 p1297 q1297;cases e1297
          replace p1297:=eq_true p1297;replace q1297:=eq_true q1297;go_wp2_with (first|((with_reducible refine gate_dst (N:=8) rfl ?_);refine box_event ?hg (N:=8) ?hd (cs:=#[.int .i64 0,.int .i64 0]) (t:=102) ?hr ?_;(case hd=>rfl);(case hg=>rfl);(case hr=>first|(go_simp;done)|(go_simp;rfl));intro gb1298 hg w20 hbox hb;replace HO_3:=rb_ HO_3 hb;replace HO_4:=A_ (Kd.R_below (Kd.R_elderB (rl_ HO_4) gb1298 (Nat.le_of_eq hg.symm)) hb);replace HO_17:=A_ (Kd.R_below (Kd.R_elderB (rl_ HO_17) gb1298 (Nat.le_of_eq hg.symm)) hb);have BK1298:=A_ (hbox);have GW1298:=A_ ((by rw [hg];exact (below_size bb_) : w.heap.size ≤ gb1298));have GE1298:=A_ ((by rw [hg];exact (below_size bb_) : w.heap.size ≤ gb1298));replace HB:=A_ (below_step bb_ hb);have NB1289_1298:=A_ ((by rw [hg];exact Nat.ne_of_lt (blk_lt (bl_ BK1289)) : gb1289 ≠ gb1298));have NB1298_1289:=A_ ((by rw [hg];exact Nat.ne_of_gt (blk_lt (bl_ BK1289)) : gb1298 ≠ gb1289));replace BK1289:=bz BK1289 hb;clear hb hbox hg;have hnb21:=NB1298_1289.out;have hnc21:=NB1289_1298.out;have hcz22_0 : w20.cell? ⟨gb1298,0,none⟩ = some (.int .i64 0):=blk_cell BK1298.out 0;have hcz22_1 : w20.cell? ⟨gb1298,1,none⟩ = some (.int .i64 0):=blk_cell BK1298.out 1;have hfz22_0:=blk_frozen BK1298.out 0;have hfz22_1:=blk_frozen BK1298.out 1)|((with_reducible refine gate_callee (f:=114) rfl ?_);refine goesL_ (some 29) rfl rfl Tryd.func114 (by kernel_rfl) rfl #[.int .i64 x14_1,.int .i64 ((rd_T102 t1293 x19_2).f0),.int .i64 ((rd_T102 t1293 x19_2).f1)] rfl au_ ?_;(with_reducible refine (impl_within.calls x14_1 ((rd_T102 t1293 x19_2).f0) ((rd_T102 t1293 x19_2).f1) true _ A16.out).mono ?_);rintro e w' ⟨rfl,⟨nd,rfl⟩⟩;refine ⟨_,rfl,?_⟩))
          go_roundg k2
          case measure=>have:=HK1.out;have:=HK2.out;omega
          case rel=>exact ⟨(Go.bits .or .i64 x6_2 (ji19)),(wrap64 (x19_2 + 1)),(by first|rfl|(simp;done)|(simp only [← hji19] <;> (first|rfl|simp))|(simp [*];done)),(by first|rfl|(simp;done)|(simp [*];done)),H',⟨by have:=HK1.out;have:=HK2.out;omega⟩,⟨by (with_reducible repeat (first|apply Kd.R_alloc|apply Kd.R_drewN|apply Kd.R_drew));exact Kd.R_mono (Kd.R_far (p:=⟨gb1298,1,none⟩) (Kd.R_far (p:=⟨gb1298,0,none⟩) (Kd.R_types HO_3.out BK1298.out (by decide)) (fun _ hk=>hk.2) (.int .i64 ((rd_T102 t1293 x19_2).f0))) (fun _ hk=>hk.2) (.int .i64 ((rd_T102 t1293 x19_2).f1))) (fun _ hk=>trivial)⟩,⟨by (with_reducible repeat (first|apply Kd.R_alloc|apply Kd.R_drewN|apply Kd.R_drew));exact Kd.R_mono (Kd.R_far (p:=⟨gb1298,1,none⟩) (Kd.R_far (p:=⟨gb1298,0,none⟩) (Kd.R_mono HO_4.out (fun k_ hk=>(⟨hk,hk.2⟩ : _ ∧ k_ ≠ gb1298))) (fun _ hk=>hk.2) (.int .i64 ((rd_T102 t1293 x19_2).f0))) (fun _ hk=>hk.2) (.int .i64 ((rd_T102 t1293 x19_2).f1))) (fun _ hk=>trivial)⟩,⟨by (with_reducible repeat (first|apply Kd.R_alloc|apply Kd.R_drewN|apply Kd.R_drew));exact Kd.R_mono (Kd.R_far (p:=⟨gb1298,1,none⟩) (Kd.R_far (p:=⟨gb1298,0,none⟩) (Kd.R_mono HO_17.out (fun k_ hk=>(⟨hk,hk.2⟩ : _ ∧ k_ ≠ gb1298))) (fun _ hk=>hk.2) (.int .i64 ((rd_T102 t1293 x19_2).f0))) (fun _ hk=>hk.2) (.int .i64 ((rd_T102 t1293 x19_2).f1))) (fun _ hk=>trivial)⟩,⟨by (with_reducible repeat (first|refine blk_drewN ?_ _|refine blk_drew ?_|refine blk_alloc ?_ _));refine blk_far ?_ NB1289_1298.out _;(with_reducible repeat (first|refine blk_drewN ?_ _|refine blk_drew ?_|refine blk_alloc ?_ _));refine blk_far ?_ NB1289_1298.out _;(with_reducible repeat (first|refine blk_drewN ?_ _|refine blk_drew ?_|refine blk_alloc ?_ _));exact BK1289.out⟩,⟨bb_⟩⟩
         ·replace c17:=Bool.eq_false_iff.mpr c17;subst c17;have H1 : (impl_Order_setsAlong.l1 k2 x3_1 t1293 x14_1 x6_2 t1296 x14_1 t1293 (t1293.length : Int) (wrap64 (x19_2 + 1))) = some r:=by rw [if_neg (show ¬ (false = true) by decide)] at H;exact H
          clear H;have H:=H1;clear H1;have H':=A_ H;clear H;have p1297 : 0 ≤ (x19_2 : Int):=of_decide_eq_true (by first|(with_reducible assumption)|assumption);have q1297 : x19_2 < (t1293.length : Int):=of_decide_eq_true (by first|(with_reducible assumption)|assumption);obtain ⟨ad1297,e1297,hx1297_0,hx1297_1⟩:=at_T102 (Kd.R_reads' HO_17.out).2.2 x19_2 p1297 q1297;cases e1297
          replace p1297:=eq_true p1297;replace q1297:=eq_true q1297;go_wp2_with (first|((with_reducible refine gate_dst (N:=8) rfl ?_);refine box_event ?hg (N:=8) ?hd (cs:=#[.int .i64 0,.int .i64 0]) (t:=102) ?hr ?_;(case hd=>rfl);(case hg=>rfl);(case hr=>first|(go_simp;done)|(go_simp;rfl));intro gb1298 hg w23 hbox hb;replace HO_3:=rb_ HO_3 hb;replace HO_4:=A_ (Kd.R_below (Kd.R_elderB (rl_ HO_4) gb1298 (Nat.le_of_eq hg.symm)) hb);replace HO_17:=A_ (Kd.R_below (Kd.R_elderB (rl_ HO_17) gb1298 (Nat.le_of_eq hg.symm)) hb);have BK1298:=A_ (hbox);have GW1298:=A_ ((by rw [hg];exact (below_size bb_) : w.heap.size ≤ gb1298));have GE1298:=A_ ((by rw [hg];exact (below_size bb_) : w.heap.size ≤ gb1298));replace HB:=A_ (below_step bb_ hb);have NB1289_1298:=A_ ((by rw [hg];exact Nat.ne_of_lt (blk_lt (bl_ BK1289)) : gb1289 ≠ gb1298));have NB1298_1289:=A_ ((by rw [hg];exact Nat.ne_of_gt (blk_lt (bl_ BK1289)) : gb1298 ≠ gb1289));replace BK1289:=bz BK1289 hb;clear hb hbox hg;have hnb24:=NB1298_1289.out;have hnc24:=NB1289_1298.out;have hcz25_0 : w23.cell? ⟨gb1298,0,none⟩ = some (.int .i64 0):=blk_cell BK1298.out 0;have hcz25_1 : w23.cell? ⟨gb1298,1,none⟩ = some (.int .i64 0):=blk_cell BK1298.out 1;have hfz25_0:=blk_frozen BK1298.out 0;have hfz25_1:=blk_frozen BK1298.out 1)|((with_reducible refine gate_callee (f:=114) rfl ?_);refine goesL_ (some 29) rfl rfl Tryd.func114 (by kernel_rfl) rfl #[.int .i64 x14_1,.int .i64 ((rd_T102 t1293 x19_2).f0),.int .i64 ((rd_T102 t1293 x19_2).f1)] rfl au_ ?_;(with_reducible refine (impl_within.calls x14_1 ((rd_T102 t1293 x19_2).f0) ((rd_T102 t1293 x19_2).f1) false _ A16.out).mono ?_);rintro e w' ⟨rfl,⟨nd,rfl⟩⟩;refine ⟨_,rfl,?_⟩))
          go_roundg k2
          case measure=>have:=HK1.out;have:=HK2.out;omega
          case rel=>exact ⟨(x6_2),(wrap64 (x19_2 + 1)),(by first|rfl|(simp;done)|(simp [*];done)),(by first|rfl|(simp;done)|(simp [*];done)),H',⟨by have:=HK1.out;have:=HK2.out;omega⟩,⟨by (with_reducible repeat (first|apply Kd.R_alloc|apply Kd.R_drewN|apply Kd.R_drew));exact Kd.R_mono (Kd.R_far (p:=⟨gb1298,1,none⟩) (Kd.R_far (p:=⟨gb1298,0,none⟩) (Kd.R_types HO_3.out BK1298.out (by decide)) (fun _ hk=>hk.2) (.int .i64 ((rd_T102 t1293 x19_2).f0))) (fun _ hk=>hk.2) (.int .i64 ((rd_T102 t1293 x19_2).f1))) (fun _ hk=>trivial)⟩,⟨by (with_reducible repeat (first|apply Kd.R_alloc|apply Kd.R_drewN|apply Kd.R_drew));exact Kd.R_mono (Kd.R_far (p:=⟨gb1298,1,none⟩) (Kd.R_far (p:=⟨gb1298,0,none⟩) (Kd.R_mono HO_4.out (fun k_ hk=>(⟨hk,hk.2⟩ : _ ∧ k_ ≠ gb1298))) (fun _ hk=>hk.2) (.int .i64 ((rd_T102 t1293 x19_2).f0))) (fun _ hk=>hk.2) (.int .i64 ((rd_T102 t1293 x19_2).f1))) (fun _ hk=>trivial)⟩,⟨by (with_reducible repeat (first|apply Kd.R_alloc|apply Kd.R_drewN|apply Kd.R_drew));exact Kd.R_mono (Kd.R_far (p:=⟨gb1298,1,none⟩) (Kd.R_far (p:=⟨gb1298,0,none⟩) (Kd.R_mono HO_17.out (fun k_ hk=>(⟨hk,hk.2⟩ : _ ∧ k_ ≠ gb1298))) (fun _ hk=>hk.2) (.int .i64 ((rd_T102 t1293 x19_2).f0))) (fun _ hk=>hk.2) (.int .i64 ((rd_T102 t1293 x19_2).f1))) (fun _ hk=>trivial)⟩,⟨by (with_reducible repeat (first|refine blk_drewN ?_ _|refine blk_drew ?_|refine blk_alloc ?_ _));refine blk_far ?_ NB1289_1298.out _;(with_reducible repeat (first|refine blk_drewN ?_ _|refine blk_drew ?_|refine blk_alloc ?_ _));refine blk_far ?_ NB1289_1298.out _;(with_reducible repeat (first|refine blk_drewN ?_ _|refine blk_drew ?_|refine blk_alloc ?_ _));exact BK1289.out⟩,⟨bb_⟩⟩
        ·rw [if_neg c15] at H;exact absurd H (by simp)
       ·rw [if_neg c14] at H;exact absurd H (by simp)
      ·rw [if_neg c13] at H;have c13b0 : decide (x19_2 < (t1293.length : Int)) = false:=decide_eq_false c13;clear c13;by_cases c26 : x3_1.length < 17592186044416
       ·rw [if_pos c26] at H;have LMc26:=A_ c26;clear c26;obtain ⟨y1300,hy1300⟩ : ∃ y_ : List Int,y_ = (x3_1 ++ [x6_2]):=⟨_,rfl⟩;replace H : (impl_Order_setsAlong.l0 k2 y1300 t1293 t1296 (wrap64 (x14_1 + 1))) = some r:=by first|(rw [hy1300];with_reducible exact H)|(have H2_:=(Option.bind_some _ _).symm.trans H;rw [hy1300];with_reducible exact H2_)|(have H2_:=(Option.bind_some _ _).symm.trans H;with_reducible exact H2_)|with_reducible exact H|(rw [hy1300];exact H)|exact H
        have Ny1300:=A_ hy1300;clear hy1300;have H':=A_ H;clear H;go_wp2_with (first|((with_reducible refine gate_builtin (b:=.append) (xs:=#[.tmp 35,.tmp 37]) rfl ?_);at_builtin;refine Kd.R_append (Kd.int .i64) (w0:=w) w.heap.size rfl (.tmp 35) (.tmp 37) 24 3 (.int .i64 0) 8 rfl Tryd.underlying24 info3 rfl (by decide) (by omega) u3 x3_1 x6_2 [.int .i64 x6_2] (fun _=>True) (fun _=>False) rfl rfl ?aP (fun _ hk=>hk.elim) ?aF ?aO ?aB ?aS ?aL ?_;(case aP=>exact rfl);(case aB=>exact bb_);(case aF=>exact (fun _ _=>trivial));(case aO=>exact (rl_ HO_3));(case aS=>exact (below_size bb_));(case aL=>have:=LMc26.out;omega);intro v1301 w27 ho hb hg hat;rw [← Ny1300.out] at ho;replace HO_4:=A_ (Kd.R_over' (rl_ HO_4) (Kd.R_typed (rl_ HO_3)) (by decide) hg);replace HO_17:=A_ (Kd.R_over' (rl_ HO_17) (Kd.R_typed (rl_ HO_3)) (by decide) hg);replace BK1289:=A_ (blk_grown (g:=gb1289) (o:=.cells #[.int .i64 a0_0,.slice A0_1 l0_1.length c0_1] 26 (0,0)) (bl_ BK1289) hg (Kd.R_ne HO_3.out BK1289.out (by decide)));replace HB:=A_ (hb);have HO1302:=A_ (ho);clear HO_3;clear ho hb hg hat))
        go_roundg k2
        case measure=>have:=HK1.out;have:=HK2.out;omega
        case rel=>exact ⟨(y1300),(wrap64 (x14_1 + 1)),(by first|rfl|(simp;done)|(simp [*];done)),H',⟨by have:=HK1.out;have:=HK2.out;omega⟩,⟨by (with_reducible repeat (first|apply Kd.R_alloc|apply Kd.R_drewN|apply Kd.R_drew));exact HO1302.out⟩,⟨by (with_reducible repeat (first|apply Kd.R_alloc|apply Kd.R_drewN|apply Kd.R_drew));exact HO_4.out⟩,⟨bl_ BK1289⟩,⟨bb_⟩⟩
       ·rw [if_neg c26] at H;exact absurd H (by simp)
   ·rw [if_neg c11] at H;have c11b0 : decide (x14_1 < t1296) = false:=decide_eq_false c11;clear c11;obtain rfl:=Option.some.inj H;go_wp2
    go_ret
    exact ⟨_,by first|rfl|(simp [errW_none,errW_some] <;> rfl)|(simp [*,errW_none,errW_some] <;> rfl),by (with_reducible repeat (first|apply Kd.R_alloc|apply Kd.R_drewN|apply Kd.R_drew));exact HO_3.out,bb_⟩
def impl_SetsAlong.f (k : Nat) (a0_0 : Int) (l0_1 : List Int) : Option (List Int × Bool) := (impl_isInterval.f k a0_0 l0_1).bind fun t1304 => (if t1304 = true then ((impl_Order_setsAlong.f k a0_0 l0_1).bind fun t1305 => (some (t1305, true))) else (some (([] : List Int), false)))
set_option maxHeartbeats 8000000 in
set_option maxRecDepth 100000 in
theorem impl_SetsAlong.calls (k : Nat) (a0_0 : Int) (A0_1 : Option Addr) (c0_1 : Nat) (l0_1 : List Int) (r1 : List Int) (r2 : Bool) (w : World) (hr0_1 : Kd.C (Kd.int .i64) w A0_1 l0_1.length l0_1) (hc0_1 : l0_1.length ≤ c0_1) (hT : TabOK w) (h : impl_SetsAlong.f k a0_0 l0_1 = some (r1,r2)) :
 Calls Tryd.prog 57 #[.agg #[.int .i64 a0_0,.slice A0_1 l0_1.length c0_1]] w fun e w'=>∃ v0_ : Value,e = .returned (.tuple #[v0_,.bool r2]) ∧ Kd.R (Kd.int .i64) 3 w' w.heap.size (fun _=>True) v0_ r1 ∧ Below w.heap.size w w':=by
 have hu26:=Tryd.underlying26;have HT:=A_ hT;clear hT;have HR0_1:=A_ hr0_1;have HC0_1:=A_ hc0_1;clear hr0_1 hc0_1;have HB:=A_ (Below.refl w.heap.size w);have H : ((impl_isInterval.f k a0_0 l0_1).bind fun t1304=>(if t1304 = true then ((impl_Order_setsAlong.f k a0_0 l0_1).bind fun t1305=>(some (t1305,true))) else (some (([] : List Int),false)))) = some (r1,r2):=h;clear h;replace H:=Option.bind_eq_some_iff.mp H;obtain ⟨t1304,A20,H⟩:=H;replace H : (if t1304 = true then ((impl_Order_setsAlong.f k a0_0 l0_1).bind fun t1305=>(some (t1305,true))) else (some (([] : List Int),false))) = some (r1,r2):=H;have A2:=A_ A20;clear A20;by_cases c3 : t1304 = true
 ·subst c3;have H1 : ((impl_Order_setsAlong.f k a0_0 l0_1).bind fun t1305=>(some (t1305,true))) = some (r1,r2):=by rw [if_pos rfl] at H;exact H
  clear H;have H:=H1;clear H1;replace H:=Option.bind_eq_some_iff.mp H;obtain ⟨t1305,A40,H⟩:=H;replace H : (some (t1305,true)) = some (r1,r2):=H;have A4:=A_ A40;clear A40;simp only [Option.some.injEq,Prod.mk.injEq] at H
  obtain ⟨rfl,rfl⟩:=H;go_enter Tryd.func57,Tryd.ntmps57
  go_wp2_with (first|((with_reducible refine gate_dst (N:=1) rfl ?_);refine box_event ?hg (N:=1) ?hd (cs:=#[.int .i64 a0_0,.slice A0_1 l0_1.length c0_1]) (t:=26) ?hr ?_;(case hd=>rfl);(case hg=>rfl);(case hr=>first|(go_simp;done)|(go_simp;rfl));intro gb1303 hg w5 hbox hb;have BK1303:=A_ (hbox);have GW1303:=A_ ((by rw [hg];exact (below_size bb_) : w.heap.size ≤ gb1303));have GE1303:=A_ ((by rw [hg];exact (below_size bb_) : w.heap.size ≤ gb1303));replace HB:=A_ (below_step bb_ hb);clear hb hbox hg;have hcz6_0 : w5.cell? ⟨gb1303,0,none⟩ = some (.int .i64 a0_0):=blk_cell BK1303.out 0;have hcz6_1 : w5.cell? ⟨gb1303,1,none⟩ = some (.slice A0_1 l0_1.length c0_1):=blk_cell BK1303.out 1;have hfz6_0:=blk_frozen BK1303.out 0;have hfz6_1:=blk_frozen BK1303.out 1)|((with_reducible refine gate_callee (f:=107) rfl ?_);refine goesL_ (some 5) rfl rfl Tryd.func107 (by kernel_rfl) rfl #[.agg #[.int .i64 a0_0,.slice A0_1 l0_1.length c0_1]] rfl au_ ?_;(with_reducible refine (impl_isInterval.calls k a0_0 _ _ l0_1 true _ ?side1 ?side2 ?side3 A2.out).mono ?_);(case side1=>exact cl_ (Kd.C_below HR0_1.out HB.out));(case side2=>exact HC0_1.out);(case side3=>first|exact HT.out|exact HT.out.below bb_|(repeat (first|exact HT.out|apply TabOK.drewN|apply TabOK.drew|apply TabOK.alloc)));rintro e w7 ⟨rfl,hb⟩;refine ⟨_,rfl,?_⟩;replace BK1303:=bz BK1303 hb;replace HB:=A_ (below_step bb_ hb);(try clear hb);(try clear hb2);(try clear hk);(try clear hi);have hcz8_0 : w7.cell? ⟨gb1303,0,none⟩ = some (.int .i64 a0_0):=blk_cell BK1303.out 0;have hcz8_1 : w7.cell? ⟨gb1303,1,none⟩ = some (.slice A0_1 l0_1.length c0_1):=blk_cell BK1303.out 1;have hfz8_0:=blk_frozen BK1303.out 0;have hfz8_1:=blk_frozen BK1303.out 1)|((with_reducible refine gate_callee (f:=111) rfl ?_);refine goesL_ (some 8) rfl rfl Tryd.func111 (by kernel_rfl) rfl #[.agg #[.int .i64 a0_0,.slice A0_1 l0_1.length c0_1]] rfl au_ ?_;(with_reducible refine (impl_Order_setsAlong.calls k a0_0 _ _ l0_1 t1305 _ ?side1 ?side2 A4.out).mono ?_);(case side1=>exact cl_ (Kd.C_below HR0_1.out HB.out));(case side2=>exact HC0_1.out);rintro e w9 ⟨v1306,rfl,ho0,hb⟩;refine ⟨_,rfl,?_⟩;have HO1307:=A_ (Kd.R_lower ho0 (below_size bb_));replace BK1303:=bz BK1303 hb;replace HB:=A_ (below_step bb_ hb);(try clear hb);(try clear hb2);(try clear hk);(try clear hi);(try clear ho0)))
  go_ret2
  exact ⟨_,by first|rfl|(simp [errW_none,errW_some] <;> rfl)|(simp [*,errW_none,errW_some] <;> rfl),by (with_reducible repeat (first|apply Kd.R_alloc|apply Kd.R_drewN|apply Kd.R_drew));exact HO1307.out,bb_⟩
 ·replace c3:=Bool.eq_false_iff.mpr c3;subst c3;have H1 : (some (([] : List Int),false)) = some (r1,r2):=by rw [if_neg (show ¬ (false = true) by decide)] at H;exact H
  clear H;have H:=H1;clear H1;simp only [Option.some.injEq,Prod.mk.injEq] at H
  obtain ⟨rfl,rfl⟩:=H;go_enter Tryd.func57,Tryd.ntmps57
  go_wp2_with (first|((with_reducible refine gate_dst (N:=1) rfl ?_);refine box_event ?hg (N:=1) ?hd (cs:=#[.int .i64 a0_0,.slice A0_1 l0_1.length c0_1]) (t:=26) ?hr ?_;(case hd=>rfl);(case hg=>rfl);(case hr=>first|(go_simp;done)|(go_simp;rfl));intro gb1303 hg w10 hbox hb;have BK1303:=A_ (hbox);have GW1303:=A_ ((by rw [hg];exact (below_size bb_) : w.heap.size ≤ gb1303));have GE1303:=A_ ((by rw [hg];exact (below_size bb_) : w.heap.size ≤ gb1303));replace HB:=A_ (below_step bb_ hb);clear hb hbox hg;have hcz11_0 : w10.cell? ⟨gb1303,0,none⟩ = some (.int .i64 a0_0):=blk_cell BK1303.out 0;have hcz11_1 : w10.cell? ⟨gb1303,1,none⟩ = some (.slice A0_1 l0_1.length c0_1):=blk_cell BK1303.out 1;have hfz11_0:=blk_frozen BK1303.out 0;have hfz11_1:=blk_frozen BK1303.out 1)|((with_reducible refine gate_callee (f:=107) rfl ?_);refine goesL_ (some 5) rfl rfl Tryd.func107 (by kernel_rfl) rfl #[.agg #[.int .i64 a0_0,.slice A0_1 l0_1.length c0_1]] rfl au_ ?_;(with_reducible refine (impl_isInterval.calls k a0_0 _ _ l0_1 false _ ?side1 ?side2 ?side3 A2.out).mono ?_);(case side1=>exact cl_ (Kd.C_below HR0_1.out HB.out));(case side2=>exact HC0_1.out);(case side3=>first|exact HT.out|exact HT.out.below bb_|(repeat (first|exact HT.out|apply TabOK.drewN|apply TabOK.drew|apply TabOK.alloc)));rintro e w12 ⟨rfl,hb⟩;refine ⟨_,rfl,?_⟩;replace BK1303:=bz BK1303 hb;replace HB:=A_ (below_step bb_ hb);(try clear hb);(try clear hb2);(try clear hk);(try clear hi)))
  go_ret2
  exact ⟨_,by first|rfl|(simp [errW_none,errW_some] <;> rfl)|(simp [*,errW_none,errW_some] <;> rfl),by first|exact Kd.R_nil _ _ _ _ _|exact Kd.N_nil _ _ _ _ _|exact Kd.V_nil _ _ _ _ _|exact Kd.Q_nil _ _ _ _ _|exact Kd.S_nil _ _ _ _ _,bb_⟩
end Go.Proofs.YtfjpilcmjabikaaDoor.P

