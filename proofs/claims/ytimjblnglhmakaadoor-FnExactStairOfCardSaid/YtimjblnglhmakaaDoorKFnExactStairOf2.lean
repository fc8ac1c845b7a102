/- A part of the proof that the law FnExactStairOf holds at every input. Written by wip/pack.py: the kit's printed words that are used, the functions' walks as wip/gen.py prints them, and hand proofs. -/
import Derived.Test.YtimjblnglhmakaaDoorKFnExactStairOf1
import Derived.RangeFuncBox
import Derived.RangeFuncLeaves
import Derived.Shelf.Abstract
import Derived.Shelf.AbstractIn
import Derived.WalkKit
import Derived.OwnWalkIn
import Derived.TacticsInMore
import Derived.LoopNIn
import Derived.LoopIn
import Derived.Maps.AppendAt
import Derived.Lib.SlKeysI
import Derived.Shelf.SortM.Plain
import Derived.Shelf.SortM.SortNone
import Derived.Shelf.SlicesG.CompactI
import Derived.Shelf.SlicesG.SearchI
import Derived.Test.YtimjblnglhmakaaDoorProg
namespace Go.Proofs.YtimjblnglhmakaaDoor.P
open Go.RowKit Go.Proofs.YtimjblnglhmakaaDoorW.PrintWords Go.Proofs.YtimjblnglhmakaaDoorW.PrintLast Go.Proofs.YtimjblnglhmakaaDoorW.PrintMore
open Bool renaming true → T, false → F
open List renaming setIfInBounds_toArray → L_, set_cons_zero → M_, set_cons_succ → N_, map_toArray → P_, map_cons → Q_, map_nil → R_, length_drop → S_, length_take → U_
open Aside0 renaming mk → A_
attribute [local go_sem] max2_int min2_int max_two min_two max_three min_three max_four min_four
set_option linter.unusedVariables false
set_option linter.unusedSimpArgs false
attribute [local go_sem] fldOrder_0 fldOrder_1
mutual
def impl_relation.l0 (is : Int → Int → Option Bool) : Nat → Int → Int → Int → Int → List Int → Option (Int × List Int)
 | 0,_,_,_,_,_=>none
 | k + 1,x0,x12,x13,x252000,x252001=>if x13 < x12 then (impl_relation.l1 is k x0 x13 x12 x13 x0 0 x252000 x252001) else (some (x252000,x252001))
def impl_relation.l1 (is : Int → Int → Option Bool) : Nat → Int → Int → Int → Int → Int → Int → Int → List Int → Option (Int × List Int)
 | 0,_,_,_,_,_,_,_,_=>none
 | k + 1,x0,x6,x12,x13,x16,x17,x252000,x252001=>if x17 < x16 then ((is x6 x17).bind fun t252=>(if t252 = true then (if 0 ≤ x6 then (if x6 < (x252001.length : Int) then (if 0 ≤ x17 then (impl_relation.l1 is k x0 x6 x12 x13 x16 (wrap64 (x17 + 1)) x252000 (x252001.set (x6 : Int).toNat (Go.bits .or .i64 (rd x252001 x6) (shl .i64 1 x17)))) else (none)) else (none)) else (none)) else (impl_relation.l1 is k x0 x6 x12 x13 x16 (wrap64 (x17 + 1)) x252000 x252001))) else (impl_relation.l0 is k x0 x12 (wrap64 (x13 + 1)) x252000 x252001)
end
def impl_relation.f (k : Nat) (a0 : Int) (is : Int → Int → Option Bool) : Option (Int × List Int) := if 0 ≤ a0 then (if (a0 : Int).toNat ≤ 35184372088832 then (impl_relation.l0 is k a0 a0 0 a0 (List.replicate (a0 : Int).toNat 0)) else (none)) else (none)
theorem impl_relation.mono_l {is is' : Int → Int → Option Bool} (hi : ∀ x y,LeO (is x y) (is' x y)) : ∀ k,(∀ y0 y1 y2 y3 y4,LeO (impl_relation.l0 is k y0 y1 y2 y3 y4) (impl_relation.l0 is' (k + 1) y0 y1 y2 y3 y4)) ∧ (∀ y0 y1 y2 y3 y4 y5 y6 y7,LeO (impl_relation.l1 is k y0 y1 y2 y3 y4 y5 y6 y7) (impl_relation.l1 is' (k + 1) y0 y1 y2 y3 y4 y5 y6 y7))
 | 0=>⟨fun _ _ _ _ _ r h=>by simp [impl_relation.l0] at h,fun _ _ _ _ _ _ _ _ r h=>by simp [impl_relation.l1] at h⟩
 | k + 1=>by
  obtain ⟨ih0,ih1⟩:=impl_relation.mono_l hi k;refine ⟨?_,?_⟩
  ·intro y0 y1 y2 y3 y4
   unfold impl_relation.l0
   repeat' first
   | (with_reducible exact hi _ _)
   | (with_reducible exact ih0 _ _ _ _ _)
   | (with_reducible exact ih1 _ _ _ _ _ _ _ _)
   | (with_reducible exact LeO.refl _)
   | (with_reducible exact LeO.none _)
   | (with_reducible refine LeO.ite ?_ ?_)
   | (with_reducible refine LeO.bind ?_ (fun _=>?_))
   | exact ih0 _ _ _ _ _
   | exact ih1 _ _ _ _ _ _ _ _
   | exact LeO.none _
   | refine LeO.ite ?_ ?_
   | refine LeO.bind ?_ (fun _=>?_)
  ·intro y0 y1 y2 y3 y4 y5 y6 y7
   unfold impl_relation.l1
   repeat' first
   | (with_reducible exact hi _ _)
   | (with_reducible exact ih0 _ _ _ _ _)
   | (with_reducible exact ih1 _ _ _ _ _ _ _ _)
   | (with_reducible exact LeO.refl _)
   | (with_reducible exact LeO.none _)
   | (with_reducible refine LeO.ite ?_ ?_)
   | (with_reducible refine LeO.bind ?_ (fun _=>?_))
   | exact ih0 _ _ _ _ _
   | exact ih1 _ _ _ _ _ _ _ _
   | exact LeO.none _
   | refine LeO.ite ?_ ?_
   | refine LeO.bind ?_ (fun _=>?_)
theorem impl_relation.mono2 {is is' : Int → Int → Option Bool} (hi : ∀ x y,LeO (is x y) (is' x y)) : ∀ a0 k,LeO (impl_relation.f k a0 is) (impl_relation.f (k + 1) a0 is'):=by
 intro a0 k
 obtain ⟨ih0,ih1⟩:=impl_relation.mono_l hi k;unfold impl_relation.f
 repeat' first
  | (with_reducible exact hi _ _)
  | (with_reducible exact ih0 _ _ _ _ _)
  | (with_reducible exact ih1 _ _ _ _ _ _ _ _)
  | (with_reducible exact LeO.refl _)
  | (with_reducible exact LeO.none _)
  | (with_reducible refine LeO.ite ?_ ?_)
  | (with_reducible refine LeO.bind ?_ (fun _ => ?_))
  | exact ih0 _ _ _ _ _
  | exact ih1 _ _ _ _ _ _ _ _
  | exact LeO.none _
  | refine LeO.ite ?_ ?_
  | refine LeO.bind ?_ (fun _ => ?_)
def impl_relation.T9 : Bool × List (List Nat × List Nat) := (true, [([], []), ([0], [0]), ([], []), ([1, 2], [1, 2]), ([3], [3]), ([], []), ([5], [5]), ([4, 6], [4, 6]), ([1, 2, 0, 1, 2, 3, 4, 5, 6, 7], [1, 2]), ([8, 7, 0, 1, 2, 3, 4, 5, 6, 7], [7, 8])])
def impl_relation.B9 : List Nat := [0, 1, 0, 7, 15, 0, 32, 127, 255, 511]
theorem impl_relation.tab9 : rtab .any (opsOf Tryd.f114 9) = impl_relation.T9:=by kernel_rfl
theorem impl_relation.bits9 : waitsOk impl_relation.T9.2 impl_relation.B9 = true:=by kernel_rfl
set_option maxHeartbeats 8000000 in
set_option maxRecDepth 100000 in
theorem impl_relation.calls (k : Nat) (a0 : Int) (is : Int → Int → Option Bool) (r1 : Int) (r2 : List Int) (w : World) (C : Nat) (lb : Array Value) (eg : ∀ args w,(callFunc C args).run Tryd.prog w = .ok (.enter C args) w)
 (hC : ∀ (W : World) (x y : Int) (r : Bool),Below w.heap.size w W → is x y = some r → Calls Tryd.prog C (#[.int .i64 x,.int .i64 y] ++ lb) W fun e W'=>e = .returned (.bool r) ∧ Below W.heap.size W W') (h : impl_relation.f k a0 is = some (r1,r2)) :
 Calls Tryd.prog 114 #[.int .i64 a0,.func (.func C) #[] lb] w fun e w'=>∃ v1_ : Value,e = .returned (.agg #[.int .i64 r1,v1_]) ∧ Kd.R (Kd.int .i64) 3 w' w.heap.size (fun _=>True) v1_ r2 ∧ Below w.heap.size w w':=by
 have hu26:=Tryd.underlying28;have HB:=A_ (Below.refl w.heap.size w);have HC:=A_ hC;clear hC;have H : (if 0 ≤ a0 then (if (a0 : Int).toNat ≤ 35184372088832 then (impl_relation.l0 is k a0 a0 0 a0 (List.replicate (a0 : Int).toNat 0)) else (none)) else (none)) = some (r1,r2):=h;clear h;by_cases c3 : 0 ≤ a0
 ·rw [if_pos c3] at H;have c3b0:=eq_true c3;have c3b1 : decide (0 ≤ a0) = true:=decide_eq_true c3;clear c3;by_cases c4 : (a0 : Int).toNat ≤ 35184372088832
  ·rw [if_pos c4] at H;have c4b0:=eq_true c4;have c4b1 : decide ((a0 : Int).toNat ≤ 35184372088832) = true:=decide_eq_true c4;clear c4;obtain ⟨y248,hy248⟩ : ∃ y_ : List Int,y_ = (List.replicate (a0 : Int).toNat 0):=⟨_,rfl⟩;replace H : (impl_relation.l0 is k a0 a0 0 a0 y248) = some (r1,r2):=by first|(rw [hy248];with_reducible exact H)|(have H2_:=(Option.bind_some _ _).symm.trans H;rw [hy248];with_reducible exact H2_)|(have H2_:=(Option.bind_some _ _).symm.trans H;with_reducible exact H2_)|with_reducible exact H|(rw [hy248];exact H)|exact H
   have Ny248:=A_ hy248;clear hy248;have H':=A_ H;clear H;go_enter Tryd.func114,Tryd.ntmps114
   go_wp2_with (first|((with_reducible refine gate_dst (N:=4) rfl ?_);refine box_event ?hg (N:=4) ?hd (cs:=#[.int .i64 0,.slice none 0 0]) (t:=28) ?hr ?_;(case hd=>rfl);(case hg=>rfl);(case hr=>first|(go_simp;done)|(go_simp;rfl));intro gb247 hg w5 hbox hb;have BK247:=A_ (hbox);have GW247:=A_ ((by rw [hg];exact (below_size bb_) : w.heap.size ≤ gb247));have GE247:=A_ ((by rw [hg];exact (below_size bb_) : w.heap.size ≤ gb247));replace HB:=A_ (below_step bb_ hb);clear hb hbox hg)|((with_reducible refine gate_dst (N:=10) rfl ?_);refine Kd.R_make (Kd.int .i64) _ 3 rfl (N:=10) rfl 22 _ _ rfl a0 rfl rfl Tryd.underlying22 (.int .i64 0) 8 info3 rfl (by decide) (by omega) 0 (ok:=fun _=>True) (okp:=fun _=>True) rfl (fun _ hk=>hk) trivial (of_decide_eq_true (by first|(with_reducible assumption)|assumption)) (Nat.le_trans (Nat.mul_le_mul_right _ (of_decide_eq_true (by first|(with_reducible assumption)|assumption) : a0.toNat ≤ 35184372088832)) (by omega)) (Below.refl _ _) (Nat.le_refl _) ?_;intro v249 w6 ho7 hb hg_ hnew_;clear hg_ hnew_;(first|rw [← Ny248.out] at ho7|(simp only [Int.reduceToNat] at ho7;rw [← Ny248.out] at ho7));have HO250:=A_ (Kd.R_lower ho7 (below_size bb_));replace BK247:=bz BK247 hb;replace HB:=A_ (below_step bb_ hb);clear hb ho7;obtain ⟨Ao8,co8,eo8⟩:=Kd.R_slice HO250.out;subst eo8)|((with_reducible refine gate_dst (N:=5) rfl ?_);refine box_event ?hg (N:=5) ?hd (cs:=#[.int .i64 0,.slice none 0 0]) (t:=28) ?hr ?_;(case hd=>rfl);(case hg=>rfl);(case hr=>first|(go_simp;done)|(go_simp;rfl));intro gb251 hg w9 hbox hb;replace HO250:=rb_ HO250 hb;have BK251:=A_ (hbox);have GW251:=A_ ((by rw [hg];exact (below_size bb_) : w.heap.size ≤ gb251));have GE251:=A_ ((by rw [hg];exact (below_size bb_) : w.heap.size ≤ gb251));replace HB:=A_ (below_step bb_ hb);have NB247_251:=A_ ((by rw [hg];exact Nat.ne_of_lt (blk_lt (bl_ BK247)) : gb247 ≠ gb251));have NB251_247:=A_ ((by rw [hg];exact Nat.ne_of_gt (blk_lt (bl_ BK247)) : gb251 ≠ gb247));replace BK247:=bz BK247 hb;clear hb hbox hg;have hnb10:=NB251_247.out;have hnc10:=NB247_251.out;have hcz11_0 : w9.cell? ⟨gb251,0,none⟩ = some (.int .i64 0):=blk_cell BK251.out 0;have hcz11_1 : w9.cell? ⟨gb251,1,none⟩ = some (.slice none 0 0):=blk_cell BK251.out 1;have hfz11_0:=blk_frozen BK251.out 0;have hfz11_1:=blk_frozen BK251.out 1))
   go_loopg [13] k (fun kq v13 w'=>∃ (x13_1 : Int) (x252001_1 : List Int) (u252001 : Value),v13 = .int .i64 x13_1 ∧ Aside0 (impl_relation.l0 is kq a0 a0 x13_1 a0 x252001_1 = some (r1,r2)) ∧ Aside0 (kq ≤ k) ∧ Aside0 (Kd.R (Kd.int .i64) 3 w' w.heap.size (fun _=>True) u252001 x252001_1) ∧ Aside0 (w'.heap[gb247]? = some (.cells #[.int .i64 0,(.slice none 0 0)] 28 (0,0))) ∧ Aside0 (w'.heap[gb251]? = some (.cells #[.int .i64 a0,u252001] 28 (0,0))) ∧ Aside0 (Below w.heap.size w w'))
   case atStart=>exact ⟨(0),(y248),(.slice Ao8 y248.length co8),(by first|rfl|(simp;done)|(simp [*];done)),H',⟨Nat.le_refl _⟩,⟨by (with_reducible repeat (first|apply Kd.R_alloc|apply Kd.R_drewN|apply Kd.R_drew));exact Kd.R_mono (Kd.R_far (p:=⟨gb251,1,none⟩) (Kd.R_far (p:=⟨gb251,0,none⟩) (Kd.R_types HO250.out BK251.out (by decide)) (fun _ hk=>hk.2) (.int .i64 a0)) (fun _ hk=>hk.2) (.slice Ao8 y248.length co8)) (fun _ hk=>trivial)⟩,⟨by (with_reducible repeat (first|refine blk_drewN ?_ _|refine blk_drew ?_|refine blk_alloc ?_ _));refine blk_far ?_ NB247_251.out _;(with_reducible repeat (first|refine blk_drewN ?_ _|refine blk_drew ?_|refine blk_alloc ?_ _));refine blk_far ?_ NB247_251.out _;(with_reducible repeat (first|refine blk_drewN ?_ _|refine blk_drew ?_|refine blk_alloc ?_ _));exact BK247.out⟩,⟨by (with_reducible repeat (first|refine blk_drewN ?_ _|refine blk_drew ?_|refine blk_alloc ?_ _));refine blk_put (cs:=#[.int .i64 a0,.slice none 0 0]) ?_ 1 _ rfl;(with_reducible repeat (first|refine blk_drewN ?_ _|refine blk_drew ?_|refine blk_alloc ?_ _));refine blk_put (cs:=#[.int .i64 0,.slice none 0 0]) ?_ 0 _ rfl;(with_reducible repeat (first|refine blk_drewN ?_ _|refine blk_drew ?_|refine blk_alloc ?_ _));exact BK251.out⟩,⟨bb_⟩⟩
   case round =>
    clear H';try clear c1
    try clear p2
    try clear c3
    try clear c3b0
    try clear c3b1
    try clear c4
    try clear c4b0
    try clear c4b1
    try clear c8
    try clear c10
    try clear hcz11_0
    try clear hcz11_1
    try clear hfz11_0
    try clear hfz11_1
    obtain ⟨x13_1,x252001_1,u252001,rfl,HA,HK1,HO_252001,BK247,BK251,HB⟩:=hrel;cases gk with
    | zero=>exact absurd HA.out (by simp [impl_relation.l0])
    | succ k1 =>
     have H:=HA.out;clear HA;simp only [impl_relation.l0] at H
     by_cases c12 : x13_1 < a0
     ·rw [if_pos c12] at H;have c12b0 : decide (x13_1 < a0) = true:=decide_eq_true c12;clear c12;have H':=A_ H;clear H;go_wp2
      go_loopg [17] k1 (fun kq v17 w'=>∃ (x17_2 : Int) (x252001_2 : List Int) (u252001 : Value),v17 = .int .i64 x17_2 ∧ Aside0 (impl_relation.l1 is kq a0 x13_1 a0 x13_1 a0 x17_2 a0 x252001_2 = some (r1,r2)) ∧ Aside0 (kq ≤ k1) ∧ Aside0 (Kd.R (Kd.int .i64) 3 w' w.heap.size (fun _=>True) u252001 x252001_2) ∧ Aside0 (w'.heap[gb247]? = some (.cells #[.int .i64 0,(.slice none 0 0)] 28 (0,0))) ∧ Aside0 (w'.heap[gb251]? = some (.cells #[.int .i64 a0,u252001] 28 (0,0))) ∧ Aside0 (Below w.heap.size w w'))
      case atStart=>exact ⟨(0),(x252001_1),(u252001),(by first|rfl|(simp;done)|(simp [*];done)),H',⟨Nat.le_refl _⟩,⟨by (with_reducible repeat (first|apply Kd.R_alloc|apply Kd.R_drewN|apply Kd.R_drew));exact HO_252001.out⟩,⟨bl_ BK247⟩,⟨bl_ BK251⟩,⟨bb_⟩⟩
      case round =>
       clear H';try clear c1
       try clear p2
       try clear c3
       try clear c3b0
       try clear c3b1
       try clear c4
       try clear c4b0
       try clear c4b1
       try clear c8
       try clear c10
       try clear c12
       try clear c12b0
       try clear hcz11_0
       try clear hcz11_1
       try clear hfz11_0
       try clear hfz11_1
       try clear p2
       obtain ⟨x17_2,x252001_2,u252001,rfl,HA,HK2,HO_252001,BK247,BK251,HB⟩:=hrel;cases gk with
       | zero=>exact absurd HA.out (by simp [impl_relation.l1])
       | succ k2 =>
        have H:=HA.out;clear HA;simp only [impl_relation.l1] at H
        by_cases c13 : x17_2 < a0
        ·rw [if_pos c13] at H;have c13b0 : decide (x17_2 < a0) = true:=decide_eq_true c13;clear c13;replace H:=Option.bind_eq_some_iff.mp H;obtain ⟨t252,A140,H⟩:=H;replace H : (if t252 = true then (if 0 ≤ x13_1 then (if x13_1 < (x252001_2.length : Int) then (if 0 ≤ x17_2 then (impl_relation.l1 is k2 a0 x13_1 a0 x13_1 a0 (wrap64 (x17_2 + 1)) a0 (x252001_2.set (x13_1 : Int).toNat (Go.bits .or .i64 (rd x252001_2 x13_1) (shl .i64 1 x17_2)))) else (none)) else (none)) else (none)) else (impl_relation.l1 is k2 a0 x13_1 a0 x13_1 a0 (wrap64 (x17_2 + 1)) a0 x252001_2)) = some (r1,r2):=H;have A14:=A_ A140;clear A140;by_cases c15 : t252 = true
         ·subst c15;have H1 : (if 0 ≤ x13_1 then (if x13_1 < (x252001_2.length : Int) then (if 0 ≤ x17_2 then (impl_relation.l1 is k2 a0 x13_1 a0 x13_1 a0 (wrap64 (x17_2 + 1)) a0 (x252001_2.set (x13_1 : Int).toNat (Go.bits .or .i64 (rd x252001_2 x13_1) (shl .i64 1 x17_2)))) else (none)) else (none)) else (none)) = some (r1,r2):=by rw [if_pos rfl] at H;exact H
          clear H;have H:=H1;clear H1;by_cases c16 : 0 ≤ x13_1
          ·rw [if_pos c16] at H;have c16b0 : decide (0 ≤ x13_1) = true:=decide_eq_true c16;clear c16;by_cases c17 : x13_1 < (x252001_2.length : Int)
           ·rw [if_pos c17] at H;have c17b0 : decide (x13_1 < (x252001_2.length : Int)) = true:=decide_eq_true c17;clear c17;by_cases c18 : 0 ≤ x17_2
            ·rw [if_pos c18] at H;have c18b0:=eq_true c18;have c18b1 : decide (0 ≤ x17_2) = true:=decide_eq_true c18;clear c18;obtain ⟨ji19,hji19⟩ : ∃ j_ : Int,(shl .i64 1 x17_2) = j_:=⟨_,rfl⟩;replace H : (impl_relation.l1 is k2 a0 x13_1 a0 x13_1 a0 (wrap64 (x17_2 + 1)) a0 (x252001_2.set (x13_1 : Int).toNat (Go.bits .or .i64 (rd x252001_2 x13_1) (ji19)))) = some (r1,r2):=by first|(rw [hji19] at H;exact H)|(simp only [hji19] at H ⊢;exact H)
             (try rw [hji19] at A14);have hji19_ : (IntKind.i64.wrap (1 * 2 ^ min x17_2.toNat 64)) = ji19:=hji19;have hji19z : x17_2 ≤ 64 → (IntKind.i64.wrap (1 * 2 ^ x17_2.toNat)) = ji19:=shl_small hji19;have hji19u : (IntKind.i64.wrap (2 ^ min x17_2.toNat 64)) = ji19:=by have h_:=hji19_;rw [Int.one_mul] at h_;exact h_
             have hji19v : x17_2 ≤ 64 → (IntKind.i64.wrap (2 ^ x17_2.toNat)) = ji19:=fun hle_=>by have h_:=hji19z hle_;rw [Int.one_mul] at h_;exact h_
             have hji19y : (wrap64 (1 * 2 ^ min x17_2.toNat 64)) = ji19:=(i64_w _).symm.trans hji19_;have hji19x : x17_2 ≤ 64 → (wrap64 (1 * 2 ^ x17_2.toNat)) = ji19:=fun h_=>(i64_w _).symm.trans (hji19z h_)
             obtain ⟨y254,hy254⟩ : ∃ y_ : List Int,y_ = (x252001_2.set (x13_1 : Int).toNat (Go.bits .or .i64 (rd x252001_2 x13_1) (ji19))):=⟨_,rfl⟩;replace H : (impl_relation.l1 is k2 a0 x13_1 a0 x13_1 a0 (wrap64 (x17_2 + 1)) a0 y254) = some (r1,r2):=by first|(rw [hy254];with_reducible exact H)|(have H2_:=(Option.bind_some _ _).symm.trans H;rw [hy254];with_reducible exact H2_)|(have H2_:=(Option.bind_some _ _).symm.trans H;with_reducible exact H2_)|with_reducible exact H|(rw [hy254];exact H)|exact H
             have Ny254:=A_ hy254;clear hy254;have H':=A_ H;clear H;try go_wp2_with (first|(go_at_fn C;(refine (HC.out _ x13_1 x17_2 true ?sideB A14.out).mono ?_);(case sideB=>repeat (first|(with_reducible first|exact HB.out|apply below_alloc|apply pw_below_drewN|apply below_drew1|refine below_set ?_ (Aside0.out (by assumption)))|exact HB.out));rintro e w21 ⟨rfl,hb⟩;replace HO_252001:=rb_ HO_252001 hb;replace BK247:=bz BK247 hb;replace BK251:=bz BK251 hb;replace HB:=A_ (below_step bb_ hb);(try clear hb);(try clear hb2);(try clear hk);(try clear hi)))
             replace HO_252001:=A_ (Kd.R_drew HO_252001.out);replace BK247:=A_ (blk_drew BK247.out);replace BK251:=A_ (blk_drew BK251.out);replace HB:=A_ (below_drew1 HB.out);obtain ⟨Ao23,co23,eo23⟩:=Kd.R_slice HO_252001.out;(first|subst eo23|(injection eo23 with f1_ f2_ f3_;have f4_:=f1_.symm;have f5_:=f3_.symm;clear f1_ f2_ f3_;subst f4_;subst f5_))
             have p253 : 0 ≤ (x13_1 : Int):=of_decide_eq_true (by first|(with_reducible assumption)|assumption);have q253 : x13_1 < (x252001_2.length : Int):=of_decide_eq_true (by first|(with_reducible assumption)|assumption);obtain ⟨ad253,e253,hx253_0⟩:=Kd.at_int (Kd.R_reads' HO_252001.out).2.2 x13_1 p253 q253;cases e253
             replace p253:=eq_true p253;replace q253:=eq_true q253;have p20 : 0 ≤ (x13_1 : Int):=of_decide_eq_true (by first|(with_reducible assumption)|assumption);have q20 : (x13_1 : Int) < ((x252001_2.length : Int) : Int):=of_decide_eq_true (by first|(with_reducible assumption)|assumption);obtain ⟨go20,co20,eo20,gb20,gl20,cl20,HG20⟩:=Kd.R_form HO_252001.out (by omega);(first|cases eo20|(injection eo20 with ea_ en_ ec_;(first|subst ea_|(injection ea_ with ea_;subst ea_));subst ec_;clear en_))
             have GB20:=A_ gb20;have GG20:=A_ HG20;clear gb20 gl20 HG20;(first|simp only [add_plain] at hx253_0|skip)
             obtain ⟨hx20_0,hf20_0⟩:=Kd.R_celln 0 HO_252001.out (x13_1 : Int) p20 q20;replace p20:=eq_true p20;replace q20:=eq_true q20;have HP24:=Kd.R_putn HO_252001.out (x13_1 : Int) (Go.bits .or .i64 (rd x252001_2 x13_1) (ji19));rw [← Ny254.out] at HP24;have HQ24:=A_ HP24;clear HP24;refine start_ (n:=10) (S:=fun w'=>w'.cell? ⟨gb251,0,none⟩ = some (.int .i64 a0) ∧ w'.cell? ⟨gb251,1,none⟩ = some (.slice (some ⟨go20,0,none⟩) x252001_2.length co23) ∧ w'.cell? ⟨go20,(x13_1).toNat,none⟩ = some (.int .i64 (rd x252001_2 x13_1))) (ds:=[9]) #[F,F,F,F,F,F,F,F,F,F] (by kernel_rfl) rfl rfl ⟨blk_cell BK251.out 0,blk_cell BK251.out 1,hx253_0⟩ (fun hHeld=>?_);refine with_tabW impl_relation.tab9 impl_relation.bits9 (fun HT_ HW_=>?_)
             generalize w21.drew = w22 at HO_252001 BK247 BK251 HB GG20 HQ24 hf20_0 hx20_0 hx253_0 hHeld ⊢
             refine pure_ (i:=0) (N:=some 24) (v:=?_) (a':=?_) #[T,F,F,F,F,F,F,F,F,F] rfl rfl (any_of HT_.out (by kernel_rfl)) (fun _ _ _ h=>h) (Or.inl ⟨by rfl,?_⟩) ?_ ?_
             rotate_left;·intro w';go_simp;with_reducible rfl
             rotate_left;·simp only [Act.put,L_,M_,N_,i64_w,i32_w];rfl
             refine pure_ (i:=2) (N:=some 26) (v:=?_) (a':=?_) #[T,F,T,F,F,F,F,F,F,F] rfl rfl (any_of HT_.out (by kernel_rfl)) (fun _ _ _ h=>h) (Or.inl ⟨by rfl,?_⟩) ?_ ?_
             rotate_left;·intro w';go_simp;with_reducible rfl
             rotate_left;·simp only [Act.put,L_,M_,N_,i64_w,i32_w];rfl
             refine pure_ (i:=5) (N:=some 29) (v:=?_) (a':=?_) #[T,F,T,F,F,T,F,F,F,F] rfl rfl (any_of HT_.out (by kernel_rfl)) (fun _ _ _ h=>h) (Or.inl ⟨by rfl,?_⟩) ?_ ?_
             rotate_left;·intro w';go_simp;with_reducible rfl
             rotate_left;·simp only [Act.put,L_,M_,N_,i64_w,i32_w];rfl
             refine pure_ (i:=6) (N:=some 30) (v:=?_) (a':=?_) #[T,F,T,F,F,T,T,F,F,F] rfl rfl (any_of HT_.out (by kernel_rfl)) (fun _ _ _ h=>h) (Or.inl ⟨by rfl,?_⟩) ?_ ?_
             rotate_left;·intro w';go_simp;with_reducible rfl
             rotate_left;·simp only [Act.put,L_,M_,N_,i64_w,i32_w];rfl
             refine take_ (i:=1) (N:=some 25) (v:=?_) (a':=?_) #[T,T,T,F,F,T,T,F,F,F] rfl rfl (take_ofW HT_.out HW_.out (by kernel_rfl)) (fun _ _ _ h=>h) (Or.inl ⟨by rfl,?_⟩) hHeld ?_ ?_
             rotate_left
             ·rintro w' ⟨s0,s1,s2⟩
              go_simp
              with_reducible rfl
             rotate_left;·simp only [Act.put,L_,M_,N_,i64_w,i32_w];rfl
             refine pure_ (i:=3) (N:=some 27) (v:=?_) (a':=?_) #[T,T,T,T,F,T,T,F,F,F] rfl rfl (any_of HT_.out (by kernel_rfl)) (fun _ _ _ h=>h) (Or.inl ⟨by rfl,?_⟩) ?_ ?_
             rotate_left;·intro w';go_simp;with_reducible rfl
             rotate_left;·simp only [Act.put,L_,M_,N_,i64_w,i32_w];rfl
             refine take_ (i:=4) (N:=some 28) (v:=?_) (a':=?_) #[T,T,T,T,T,T,T,F,F,F] rfl rfl (take_ofW HT_.out HW_.out (by kernel_rfl)) (fun _ _ _ h=>h) (Or.inl ⟨by rfl,?_⟩) hHeld ?_ ?_
             rotate_left
             ·rintro w' ⟨s0,s1,s2⟩
              go_simp
              with_reducible rfl
             rotate_left;·simp only [Act.put,L_,M_,N_,i64_w,i32_w];rfl
             refine pure_ (i:=7) (N:=some 31) (v:=?_) (a':=?_) #[T,T,T,T,T,T,T,T,F,F] rfl rfl (any_of HT_.out (by kernel_rfl)) (fun _ _ _ h=>h) (Or.inl ⟨by rfl,?_⟩) ?_ ?_
             rotate_left;·intro w';go_simp;with_reducible rfl
             rotate_left;·simp only [Act.put,L_,M_,N_,i64_w,i32_w];rfl
             refine pure_ (i:=8) (N:=some 32) (v:=?_) (a':=?_) #[T,T,T,T,T,T,T,T,T,F] rfl rfl (any_of HT_.out (by kernel_rfl)) (fun _ _ _ h=>h) (Or.inl ⟨by rfl,?_⟩) ?_ ?_
             rotate_left;·intro w';go_simp;with_reducible rfl
             rotate_left;·simp only [Act.put,L_,M_,N_,i64_w,i32_w];rfl
             refine last_ (i:=9) (N:=none) #[T,T,T,T,T,T,T,T,T,T] rfl rfl (one_of HT_.out (by kernel_rfl)) (by decide) (fun K hK=>?_)
             refine skip_ (w1:=?_) (by rfl) rfl ?_ ?_
             rotate_left
             ·go_simp
              rfl
             refine hK.out _ _ ?_
             clear hK K;refine done_ (done_of HT_.out (by kernel_rfl)) ?_
             try go_wp2
             go_roundg k2
             case measure=>have:=HK1.out;have:=HK2.out;omega
             case rel=>exact ⟨(wrap64 (x17_2 + 1)),(y254),(.slice (some ⟨go20,0,none⟩) x252001_2.length co23),(by first|rfl|(simp;done)|(simp [*];done)),H',⟨by have:=HK1.out;have:=HK2.out;omega⟩,⟨by (with_reducible repeat (first|apply Kd.R_alloc|apply Kd.R_drewN|apply Kd.R_drew));exact HQ24.out⟩,⟨by (with_reducible repeat (first|refine blk_drewN ?_ _|refine blk_drew ?_|refine blk_alloc ?_ _));refine blk_far ?_ (by have h_:=Kd.R_ne HO_252001.out BK247.out (by decide);intro e_;exact h_ (by rw [e_];rfl)) _;(with_reducible repeat (first|refine blk_drewN ?_ _|refine blk_drew ?_|refine blk_alloc ?_ _));exact BK247.out⟩,⟨by (with_reducible repeat (first|refine blk_drewN ?_ _|refine blk_drew ?_|refine blk_alloc ?_ _));refine blk_far ?_ (by have h_:=Kd.R_ne HO_252001.out BK251.out (by decide);intro e_;exact h_ (by rw [e_];rfl)) _;(with_reducible repeat (first|refine blk_drewN ?_ _|refine blk_drew ?_|refine blk_alloc ?_ _));exact BK251.out⟩,⟨by repeat (first|(with_reducible first|exact HB.out|apply below_alloc|apply pw_below_drewN|apply below_drew1|refine below_set ?_ GB20.out|refine below_set ?_ (Aside0.out (by assumption)))|exact HB.out)⟩⟩
            ·rw [if_neg c18] at H;exact absurd H (by simp)
           ·rw [if_neg c17] at H;exact absurd H (by simp)
          ·rw [if_neg c16] at H;exact absurd H (by simp)
         ·replace c15:=Bool.eq_false_iff.mpr c15;subst c15;have H1 : (impl_relation.l1 is k2 a0 x13_1 a0 x13_1 a0 (wrap64 (x17_2 + 1)) a0 x252001_2) = some (r1,r2):=by rw [if_neg (show ¬ (false = true) by decide)] at H;exact H
          clear H;have H:=H1;clear H1;have H':=A_ H;clear H;go_wp2_with (first|(go_at_fn C;(refine (HC.out _ x13_1 x17_2 false ?sideB A14.out).mono ?_);(case sideB=>repeat (first|(with_reducible first|exact HB.out|apply below_alloc|apply pw_below_drewN|apply below_drew1|refine below_set ?_ (Aside0.out (by assumption)))|exact HB.out));rintro e w25 ⟨rfl,hb⟩;replace HO_252001:=rb_ HO_252001 hb;replace BK247:=bz BK247 hb;replace BK251:=bz BK251 hb;replace HB:=A_ (below_step bb_ hb);(try clear hb);(try clear hb2);(try clear hk);(try clear hi)))
          go_roundg k2
          case measure=>have:=HK1.out;have:=HK2.out;omega
          case rel=>exact ⟨(wrap64 (x17_2 + 1)),(x252001_2),(u252001),(by first|rfl|(simp;done)|(simp [*];done)),H',⟨by have:=HK1.out;have:=HK2.out;omega⟩,⟨by (with_reducible repeat (first|apply Kd.R_alloc|apply Kd.R_drewN|apply Kd.R_drew));exact HO_252001.out⟩,⟨bl_ BK247⟩,⟨bl_ BK251⟩,⟨bb_⟩⟩
        ·rw [if_neg c13] at H;have c13b0 : decide (x17_2 < a0) = false:=decide_eq_false c13;clear c13;have H':=A_ H;clear H;go_wp2
         go_roundg k2
         case measure=>have:=HK1.out;have:=HK2.out;omega
         case rel=>exact ⟨(wrap64 (x13_1 + 1)),(x252001_2),(u252001),(by first|rfl|(simp;done)|(simp [*];done)),H',⟨by have:=HK1.out;have:=HK2.out;omega⟩,⟨by (with_reducible repeat (first|apply Kd.R_alloc|apply Kd.R_drewN|apply Kd.R_drew));exact HO_252001.out⟩,⟨bl_ BK247⟩,⟨bl_ BK251⟩,⟨bb_⟩⟩
     ·rw [if_neg c12] at H;have c12b0 : decide (x13_1 < a0) = false:=decide_eq_false c12;clear c12;simp only [Option.some.injEq,Prod.mk.injEq] at H
      obtain ⟨rfl,rfl⟩:=H;have hnb26:=NB251_247.out;have hnc26:=NB247_251.out;have hcz27_0 : wr.cell? ⟨gb251,0,none⟩ = some (.int .i64 a0):=blk_cell BK251.out 0;have hcz27_1 : wr.cell? ⟨gb251,1,none⟩ = some (u252001):=blk_cell BK251.out 1;have hfz27_0:=blk_frozen BK251.out 0;have hfz27_1:=blk_frozen BK251.out 1;have hcz28_0 : wr.cell? ⟨gb247,0,none⟩ = some (.int .i64 0):=blk_cell BK247.out 0;have hcz28_1 : wr.cell? ⟨gb247,1,none⟩ = some (.slice none 0 0):=blk_cell BK247.out 1;have hfz28_0:=blk_frozen BK247.out 0;have hfz28_1:=blk_frozen BK247.out 1;obtain ⟨Ao29,co29,eo29⟩:=Kd.R_slice HO_252001.out;subst eo29;go_wp2
      refine bodyPost_ret (results_cell_row rfl _ _ gb247 28 #[.int .i64 a0,.slice Ao29 x252001_1.length co29] (0,0) _ rfl (by (with_reducible repeat (first|refine blk_drewN ?_ _|refine blk_drew ?_|refine blk_alloc ?_ _));refine blk_put (cs:=#[.int .i64 a0,.slice none 0 0]) ?_ 1 _ rfl;(with_reducible repeat (first|refine blk_drewN ?_ _|refine blk_drew ?_|refine blk_alloc ?_ _));refine blk_put (cs:=#[.int .i64 0,.slice none 0 0]) ?_ 0 _ rfl;(with_reducible repeat (first|refine blk_drewN ?_ _|refine blk_drew ?_|refine blk_alloc ?_ _));exact BK247.out) Tryd.underlying28 rfl (by kernel_rfl)) rfl ?_
      exact ⟨_,by first|rfl|(simp [errW_none,errW_some] <;> rfl)|(simp [*,errW_none,errW_some] <;> rfl),by (with_reducible repeat (first|apply Kd.R_alloc|apply Kd.R_drewN|apply Kd.R_drew));exact Kd.R_mono (Kd.R_far (p:=⟨gb247,1,none⟩) (Kd.R_far (p:=⟨gb247,0,none⟩) (Kd.R_types HO_252001.out BK247.out (by decide)) (fun _ hk=>hk.2) (.int .i64 a0)) (fun _ hk=>hk.2) (.slice Ao29 x252001_1.length co29)) (fun _ hk=>trivial),bb_⟩
  ·rw [if_neg c4] at H;exact absurd H (by simp)
 ·rw [if_neg c3] at H;exact absurd H (by simp)
def impl_Order_mirror_1.f (a0 : Int) (a1 : Int) (a2_0 : Int) (l2_1 : List Int) : Option (Bool) := (impl_Order_better.f a2_0 l2_1 a1 a0).bind fun t291 => (some t291)
set_option maxHeartbeats 8000000 in
set_option maxRecDepth 100000 in
theorem impl_Order_mirror_1.calls (a0 : Int) (a1 : Int) (g2_ : Nat) (a2_0 : Int) (A2_1 : Option Addr) (c2_1 : Nat) (l2_1 : List Int) (r : Bool) (w : World) (hb2 : w.heap[g2_]? = some (.cells #[.int .i64 a2_0,.slice A2_1 l2_1.length c2_1] 28 (0,0))) (hr2_1 : Kd.C (Kd.int .i64) w A2_1 l2_1.length l2_1) (hc2_1 : l2_1.length ≤ c2_1) (h : impl_Order_mirror_1.f a0 a1 a2_0 l2_1 = some r) :
 Calls Tryd.prog 195 #[.int .i64 a0,.int .i64 a1,.pointer (some ⟨g2_,0,none⟩)] w fun e w'=>e = .returned (.bool r) ∧ Below w.heap.size w w':=by
 have hu28:=Tryd.underlying28;have HR2_1:=A_ hr2_1;have HC2_1:=A_ hc2_1;clear hr2_1 hc2_1;have BK290:=A_ hb2;clear hb2;have HB:=A_ (Below.refl w.heap.size w);have H : ((impl_Order_better.f a2_0 l2_1 a1 a0).bind fun t291=>(some t291)) = some r:=h;clear h;replace H:=Option.bind_eq_some_iff.mp H;obtain ⟨t291,A40,H⟩:=H;replace H : (some t291) = some r:=H;have A4:=A_ A40;clear A40;obtain rfl:=Option.some.inj H;have hcz5_0 : w.cell? ⟨g2_,0,none⟩ = some (.int .i64 a2_0):=blk_cell BK290.out 0;have hcz5_1 : w.cell? ⟨g2_,1,none⟩ = some (.slice A2_1 l2_1.length c2_1):=blk_cell BK290.out 1;have hfz5_0:=blk_frozen BK290.out 0;have hfz5_1:=blk_frozen BK290.out 1;go_enter Tryd.func195,Tryd.ntmps195
 go_wp2_with (first|((with_reducible refine gate_callee (f:=146) rfl ?_);refine goesL_ (some 9) rfl rfl Tryd.func146 (by kernel_rfl) rfl #[.agg #[.int .i64 a2_0,.slice A2_1 l2_1.length c2_1],.int .i64 a1,.int .i64 a0] rfl au_ ?_;(with_reducible refine (impl_Order_better.calls a2_0 _ _ l2_1 a1 a0 t291 _ ?side1 ?side2 A4.out).mono ?_);(case side1=>repeat (first|exact HR2_1.out|(with_reducible refine Kd.C_alloc ?_ _)|(with_reducible refine Kd.C_drewN ?_ _)|(with_reducible refine Kd.C_drew ?_)));(case side2=>exact HC2_1.out);rintro e w6 ⟨rfl,hb⟩;refine ⟨_,rfl,?_⟩;replace BK290:=bz BK290 hb;replace HB:=A_ (below_step bb_ hb);(try clear hb);(try clear hb2);(try clear hk);(try clear hi)))
 go_ret
 exact ⟨by first|rfl|(simp [errW_none,errW_some] <;> rfl)|(simp [*,errW_none,errW_some] <;> rfl),bb_⟩
def impl_Order_mirror.f (k : Nat) (a0_0 : Int) (l0_1 : List Int) : Option (Int × List Int) := (impl_relation.f k a0_0 (fun x0_ x1_ => impl_Order_mirror_1.f x0_ x1_ a0_0 l0_1)).bind fun bt294 => (some (bt294.1, bt294.2))
set_option maxHeartbeats 8000000 in
set_option maxRecDepth 100000 in
theorem impl_Order_mirror.calls (k : Nat) (a0_0 : Int) (A0_1 : Option Addr) (c0_1 : Nat) (l0_1 : List Int) (r1 : Int) (r2 : List Int) (w : World) (hr0_1 : Kd.C (Kd.int .i64) w A0_1 l0_1.length l0_1) (hc0_1 : l0_1.length ≤ c0_1) (h : impl_Order_mirror.f k a0_0 l0_1 = some (r1,r2)) :
 Calls Tryd.prog 113 #[.agg #[.int .i64 a0_0,.slice A0_1 l0_1.length c0_1]] w fun e w'=>∃ v1_ : Value,e = .returned (.agg #[.int .i64 r1,v1_]) ∧ Kd.R (Kd.int .i64) 3 w' w.heap.size (fun _=>True) v1_ r2 ∧ Below w.heap.size w w':=by
 have hu28:=Tryd.underlying28;have HR0_1:=A_ hr0_1;have HC0_1:=A_ hc0_1;clear hr0_1 hc0_1;have HB:=A_ (Below.refl w.heap.size w);have H : ((impl_relation.f k a0_0 (fun x0_ x1_=>impl_Order_mirror_1.f x0_ x1_ a0_0 l0_1)).bind fun bt294=>(some (bt294.1,bt294.2))) = some (r1,r2):=h;clear h;replace H:=Option.bind_eq_some_iff.mp H;obtain ⟨⟨t294,t295⟩,A20,H⟩:=H;replace H : (some (t294,t295)) = some (r1,r2):=H;have A2:=A_ A20;clear A20;simp only [Option.some.injEq,Prod.mk.injEq] at H
 obtain ⟨rfl,rfl⟩:=H;go_enter Tryd.func113,Tryd.ntmps113
 go_wp2_with (first|((with_reducible refine gate_dst (N:=1) rfl ?_);refine box_event ?hg (N:=1) ?hd (cs:=#[.int .i64 a0_0,.slice A0_1 l0_1.length c0_1]) (t:=28) ?hr ?_;(case hd=>rfl);(case hg=>rfl);(case hr=>first|(go_simp;done)|(go_simp;rfl));intro gb292 hg w3 hbox hb;have BK292:=A_ (hbox);have GW292:=A_ ((by rw [hg];exact (below_size bb_) : w.heap.size ≤ gb292));have GE292:=A_ ((by rw [hg];exact (below_size bb_) : w.heap.size ≤ gb292));replace HB:=A_ (below_step bb_ hb);clear hb hbox hg)|((with_reducible refine gate_dst (N:=2) rfl ?_);refine box_event ?hg (N:=2) ?hd (cs:=#[.int .i64 0,.slice none 0 0]) (t:=28) ?hr ?_;(case hd=>rfl);(case hg=>rfl);(case hr=>first|(go_simp;done)|(go_simp;rfl));intro gb293 hg w4 hbox hb;have BK293:=A_ (hbox);have GW293:=A_ ((by rw [hg];exact (below_size bb_) : w.heap.size ≤ gb293));have GE293:=A_ ((by rw [hg];exact (below_size bb_) : w.heap.size ≤ gb293));replace HB:=A_ (below_step bb_ hb);have NB292_293:=A_ ((by rw [hg];exact Nat.ne_of_lt (blk_lt (bl_ BK292)) : gb292 ≠ gb293));have NB293_292:=A_ ((by rw [hg];exact Nat.ne_of_gt (blk_lt (bl_ BK292)) : gb293 ≠ gb292));replace BK292:=bz BK292 hb;clear hb hbox hg;have hnb5:=NB292_293.out;have hnc5:=NB293_292.out;have hcz6_0 : w4.cell? ⟨gb292,0,none⟩ = some (.int .i64 a0_0):=blk_cell BK292.out 0;have hcz6_1 : w4.cell? ⟨gb292,1,none⟩ = some (.slice A0_1 l0_1.length c0_1):=blk_cell BK292.out 1;have hfz6_0:=blk_frozen BK292.out 0;have hfz6_1:=blk_frozen BK292.out 1)|((with_reducible refine gate_callee (f:=114) rfl ?_);refine goesL_ (some 6) rfl rfl Tryd.func114 (by kernel_rfl) rfl #[.int .i64 a0_0,.func (.func 195) #[] #[.pointer (some ⟨gb292,0,none⟩)]] rfl au_ ?_;(with_reducible refine (impl_relation.calls k a0_0 (fun x0_ x1_=>impl_Order_mirror_1.f x0_ x1_ a0_0 l0_1) t294 t295 _ _ _ ?side1 ?side2 A2.out).mono ?_);(case side1=>exact fun a_ w_=>enters_of Tryd.func195 (by kernel_rfl) rfl a_ w_);(case side2=>(intro W_ x0_ x1_ r_ hB_ h_;refine Calls.mono (impl_Order_mirror_1.calls x0_ x1_ gb292 a0_0 _ _ l0_1 r_ W_ (blk_below (g:=gb292) (o:=.cells #[.int .i64 a0_0,.slice A0_1 l0_1.length c0_1] 28 (0,0)) (bl_ BK292) hB_) (Kd.C_below (by exact cl_ (Kd.C_below HR0_1.out HB.out)) hB_) (by exact HC0_1.out) h_) ?_;rintro e_ w_ ⟨h1_,h2_⟩;exact ⟨h1_,h2_⟩));rintro e w7 ⟨v296,rfl,ho0,hb⟩;refine ⟨_,rfl,?_⟩;have HO297:=A_ (Kd.R_lower ho0 (below_size bb_));replace BK292:=bz BK292 hb;replace BK293:=bz BK293 hb;replace HB:=A_ (below_step bb_ hb);(try clear hb);(try clear hb2);(try clear hk);(try clear hi);(try clear ho0);have hcz8_0 : w7.cell? ⟨gb293,0,none⟩ = some (.int .i64 0):=blk_cell BK293.out 0;have hcz8_1 : w7.cell? ⟨gb293,1,none⟩ = some (.slice none 0 0):=blk_cell BK293.out 1;have hfz8_0:=blk_frozen BK293.out 0;have hfz8_1:=blk_frozen BK293.out 1;obtain ⟨Ao9,co9,eo9⟩:=Kd.R_slice HO297.out;subst eo9))
 refine bodyPost_ret (results_cell_row rfl _ _ gb293 28 #[.int .i64 t294,.slice Ao9 t295.length co9] (0,0) _ rfl (by (with_reducible repeat (first|refine blk_drewN ?_ _|refine blk_drew ?_|refine blk_alloc ?_ _));refine blk_put (cs:=#[.int .i64 t294,.slice none 0 0]) ?_ 1 _ rfl;(with_reducible repeat (first|refine blk_drewN ?_ _|refine blk_drew ?_|refine blk_alloc ?_ _));refine blk_put (cs:=#[.int .i64 0,.slice none 0 0]) ?_ 0 _ rfl;(with_reducible repeat (first|refine blk_drewN ?_ _|refine blk_drew ?_|refine blk_alloc ?_ _));exact BK293.out) Tryd.underlying28 rfl (by kernel_rfl)) rfl ?_
 exact ⟨_,by first|rfl|(simp [errW_none,errW_some] <;> rfl)|(simp [*,errW_none,errW_some] <;> rfl),by (with_reducible repeat (first|apply Kd.R_alloc|apply Kd.R_drewN|apply Kd.R_drew));exact Kd.R_mono (Kd.R_far (p:=⟨gb293,1,none⟩) (Kd.R_far (p:=⟨gb293,0,none⟩) (Kd.R_types HO297.out BK293.out (by decide)) (fun _ hk=>hk.2) (.int .i64 t294)) (fun _ hk=>hk.2) (.slice Ao9 t295.length co9)) (fun _ hk=>trivial),bb_⟩
def impl_Order_all.f (a0_0 : Int) (l0_1 : List Int) : Option (Int) := if 0 ≤ a0_0 then (some (wrap64 ((shl .i64 1 a0_0) - 1))) else (none)
set_option maxHeartbeats 8000000 in
set_option maxRecDepth 100000 in
theorem impl_Order_all.calls (a0_0 : Int) (A0_1 : Option Addr) (c0_1 : Nat) (l0_1 : List Int) (r : Int) (w : World) (hr0_1 : Kd.C (Kd.int .i64) w A0_1 l0_1.length l0_1) (hc0_1 : l0_1.length ≤ c0_1) (h : impl_Order_all.f a0_0 l0_1 = some r) :
 Calls Tryd.prog 160 #[.agg #[.int .i64 a0_0,.slice A0_1 l0_1.length c0_1]] w fun e w'=>e = .returned (.int .i64 r) ∧ Below w.heap.size w w':=by
 have hu28:=Tryd.underlying28;have HR0_1:=A_ hr0_1;have HC0_1:=A_ hc0_1;clear hr0_1 hc0_1;have HB:=A_ (Below.refl w.heap.size w);have H : (if 0 ≤ a0_0 then (some (wrap64 ((shl .i64 1 a0_0) - 1))) else (none)) = some r:=h;clear h;by_cases c2 : 0 ≤ a0_0
 ·rw [if_pos c2] at H;have c2b0:=eq_true c2;have c2b1 : decide (0 ≤ a0_0) = true:=decide_eq_true c2;clear c2;obtain ⟨ji3,hji3⟩ : ∃ j_ : Int,(shl .i64 1 a0_0) = j_:=⟨_,rfl⟩;replace H : (some (wrap64 ((ji3) - 1))) = some r:=by first|(rw [hji3] at H;exact H)|(simp only [hji3] at H ⊢;exact H)
  have hji3_ : (IntKind.i64.wrap (1 * 2 ^ min a0_0.toNat 64)) = ji3:=hji3;have hji3z : a0_0 ≤ 64 → (IntKind.i64.wrap (1 * 2 ^ a0_0.toNat)) = ji3:=shl_small hji3;have hji3u : (IntKind.i64.wrap (2 ^ min a0_0.toNat 64)) = ji3:=by have h_:=hji3_;rw [Int.one_mul] at h_;exact h_
  have hji3v : a0_0 ≤ 64 → (IntKind.i64.wrap (2 ^ a0_0.toNat)) = ji3:=fun hle_=>by have h_:=hji3z hle_;rw [Int.one_mul] at h_;exact h_
  have hji3y : (wrap64 (1 * 2 ^ min a0_0.toNat 64)) = ji3:=(i64_w _).symm.trans hji3_;have hji3x : a0_0 ≤ 64 → (wrap64 (1 * 2 ^ a0_0.toNat)) = ji3:=fun h_=>(i64_w _).symm.trans (hji3z h_)
  obtain rfl:=Option.some.inj H;go_enter Tryd.func160,Tryd.ntmps160
  go_wp2_with (first|((with_reducible refine gate_dst (N:=1) rfl ?_);refine box_event ?hg (N:=1) ?hd (cs:=#[.int .i64 a0_0,.slice A0_1 l0_1.length c0_1]) (t:=28) ?hr ?_;(case hd=>rfl);(case hg=>rfl);(case hr=>first|(go_simp;done)|(go_simp;rfl));intro gb298 hg w4 hbox hb;have BK298:=A_ (hbox);have GW298:=A_ ((by rw [hg];exact (below_size bb_) : w.heap.size ≤ gb298));have GE298:=A_ ((by rw [hg];exact (below_size bb_) : w.heap.size ≤ gb298));replace HB:=A_ (below_step bb_ hb);clear hb hbox hg;have hcz5_0 : w4.cell? ⟨gb298,0,none⟩ = some (.int .i64 a0_0):=blk_cell BK298.out 0;have hcz5_1 : w4.cell? ⟨gb298,1,none⟩ = some (.slice A0_1 l0_1.length c0_1):=blk_cell BK298.out 1;have hfz5_0:=blk_frozen BK298.out 0;have hfz5_1:=blk_frozen BK298.out 1))
  go_ret
  exact ⟨by first|rfl|(simp [errW_none,errW_some] <;> rfl)|(simp only [← hji3];first|rfl|(simp [errW_none,errW_some] <;> rfl))|(simp [*,errW_none,errW_some] <;> rfl),bb_⟩
 ·rw [if_neg c2] at H;exact absurd H (by simp)
def impl_Order_indifferent.l0 : Nat → List Int → Int → Int → Int → List Int → Int → List Int → Option (List Int)
 | 0,_,_,_,_,_,_,_=>none
 | k + 1,x3,x10,x11,x300000,x300001,x308000,x308001=>if x11 < x10 then ((impl_Order_all.f x300000 x300001).bind fun t308=>(if 0 ≤ x11 then (if x11 < (x300001.length : Int) then (if x11 < (x308001.length : Int) then (if x3.length < 17592186044416 then (impl_Order_indifferent.l0 k (x3 ++ [Go.bits .andNot .i64 (Go.bits .andNot .i64 (Go.bits .andNot .i64 t308 (rd x300001 x11)) (rd x308001 x11)) (shl .i64 1 x11)]) x10 (wrap64 (x11 + 1)) x300000 x300001 x308000 x308001) else (none)) else (none)) else (none)) else (none))) else (some x3)
def impl_Order_indifferent.f (k : Nat) (a0_0 : Int) (l0_1 : List Int) : Option (List Int) := (impl_Order_mirror.f k a0_0 l0_1).bind fun bt303 => (impl_Order_indifferent.l0 k (([] : List Int)) a0_0 0 a0_0 l0_1 bt303.1 bt303.2)
def impl_Order_indifferent.T5 : Bool × List (List Nat × List Nat) := (true, [([], []), ([], []), ([1], [1]), ([], []), ([3], [3]), ([], []), ([4, 5], [4, 5]), ([6], [6]), ([2, 7], [2, 7]), ([], []), ([9], [9]), ([], []), ([10, 11], [10, 11]), ([12], [12]), ([8, 13], [8, 13]), ([], []), ([15], [15]), ([14, 16], [14, 16]), ([17], [17]), ([0, 18, 2], [0, 18]), ([19, 19, 0, 1, 2, 3, 4, 5, 6, 7, 8, 9, 10, 11, 12, 13, 14, 15, 16, 17, 18, 19], [0, 19])])
def impl_Order_indifferent.B5 : List Nat := [0, 0, 2, 0, 8, 0, 56, 120, 254, 0, 512, 0, 3584, 7680, 16382, 0, 32768, 131070, 262142, 524287, 1048575]
theorem impl_Order_indifferent.tab5 : rtab .any (opsOf Tryd.f184 5) = impl_Order_indifferent.T5:=by kernel_rfl
theorem impl_Order_indifferent.bits5 : waitsOk impl_Order_indifferent.T5.2 impl_Order_indifferent.B5 = true:=by kernel_rfl
set_option maxHeartbeats 8000000 in
set_option maxRecDepth 100000 in
theorem impl_Order_indifferent.calls (k : Nat) (a0_0 : Int) (A0_1 : Option Addr) (c0_1 : Nat) (l0_1 : List Int) (r : List Int) (w : World) (hr0_1 : Kd.C (Kd.int .i64) w A0_1 l0_1.length l0_1) (hc0_1 : l0_1.length ≤ c0_1) (h : impl_Order_indifferent.f k a0_0 l0_1 = some r) :
 Calls Tryd.prog 184 #[.agg #[.int .i64 a0_0,.slice A0_1 l0_1.length c0_1]] w fun e w'=>∃ v0_ : Value,e = .returned (v0_) ∧ Kd.R (Kd.int .i64) 3 w' w.heap.size (fun _=>True) v0_ r ∧ Below w.heap.size w w':=by
 have hu28:=Tryd.underlying28;have HR0_1:=A_ hr0_1;have HC0_1:=A_ hc0_1;clear hr0_1 hc0_1;have HB:=A_ (Below.refl w.heap.size w);have H : ((impl_Order_mirror.f k a0_0 l0_1).bind fun bt303=>(impl_Order_indifferent.l0 k (([] : List Int)) a0_0 0 a0_0 l0_1 bt303.1 bt303.2)) = some r:=h;clear h;obtain ⟨y300,hy300⟩ : ∃ y_ : List Int,y_ = (([] : List Int)):=⟨_,rfl⟩;replace H : ((impl_Order_mirror.f k a0_0 l0_1).bind fun bt303=>(impl_Order_indifferent.l0 k y300 a0_0 0 a0_0 l0_1 bt303.1 bt303.2)) = some r:=by first|(rw [hy300];with_reducible exact H)|(have H2_:=(Option.bind_some _ _).symm.trans H;rw [hy300];with_reducible exact H2_)|(have H2_:=(Option.bind_some _ _).symm.trans H;with_reducible exact H2_)|with_reducible exact H|(rw [hy300];exact H)|exact H
 have Ny300:=A_ hy300;clear hy300;replace H:=Option.bind_eq_some_iff.mp H;obtain ⟨⟨t303,t304⟩,A20,H⟩:=H;replace H : (impl_Order_indifferent.l0 k y300 a0_0 0 a0_0 l0_1 t303 t304) = some r:=H;have A2:=A_ A20;clear A20;have H':=A_ H;clear H;go_enter Tryd.func184,Tryd.ntmps184
 go_wp2_with (first|((with_reducible refine gate_dst (N:=1) rfl ?_);refine box_event ?hg (N:=1) ?hd (cs:=#[.int .i64 a0_0,.slice A0_1 l0_1.length c0_1]) (t:=28) ?hr ?_;(case hd=>rfl);(case hg=>rfl);(case hr=>first|(go_simp;done)|(go_simp;rfl));intro gb299 hg w3 hbox hb;have BK299:=A_ (hbox);have GW299:=A_ ((by rw [hg];exact (below_size bb_) : w.heap.size ≤ gb299));have GE299:=A_ ((by rw [hg];exact (below_size bb_) : w.heap.size ≤ gb299));replace HB:=A_ (below_step bb_ hb);clear hb hbox hg)|((with_reducible refine gate_dst (N:=6) rfl ?_);refine Kd.R_lit (Kd.int .i64) _ 3 ?hg (N:=6) ?hd (xs:=([] : List Int)) (inner:=[]) (ok:=fun _=>True) (okp:=fun _=>True) ?hr ?hp (fun _ hk=>hk) trivial (Below.refl _ _) (Nat.le_refl _) (by simp) ?_;(case hd=>rfl);(case hg=>rfl);(case hr=>first|(go_simp;done)|(go_simp;rfl));(case hp=>exact (Reps.none _ _));intro v301 w4 ho5 hb hg_ hnew_;clear hg_ hnew_;(first|rw [← Ny300.out] at ho5|(simp only [Int.reduceToNat] at ho5;rw [← Ny300.out] at ho5));have HO302:=A_ (Kd.R_lower ho5 (below_size bb_));replace BK299:=bz BK299 hb;replace HB:=A_ (below_step bb_ hb);clear hb ho5;have hcz6_0 : w4.cell? ⟨gb299,0,none⟩ = some (.int .i64 a0_0):=blk_cell BK299.out 0;have hcz6_1 : w4.cell? ⟨gb299,1,none⟩ = some (.slice A0_1 l0_1.length c0_1):=blk_cell BK299.out 1;have hfz6_0:=blk_frozen BK299.out 0;have hfz6_1:=blk_frozen BK299.out 1)|((with_reducible refine gate_callee (f:=113) rfl ?_);refine goesL_ (some 8) rfl rfl Tryd.func113 (by kernel_rfl) rfl #[.agg #[.int .i64 a0_0,.slice A0_1 l0_1.length c0_1]] rfl au_ ?_;(with_reducible refine (impl_Order_mirror.calls k a0_0 _ _ l0_1 t303 t304 _ ?side1 ?side2 A2.out).mono ?_);(case side1=>exact cl_ (Kd.C_below HR0_1.out HB.out));(case side2=>exact HC0_1.out);rintro e w7 ⟨v305,rfl,ho0,hb⟩;refine ⟨_,rfl,?_⟩;have HO306:=A_ (Kd.R_lower (Kd.R_new' ho0 (Kd.R_lt (rl_ HO302))) (below_size bb_));replace HO302:=A_ (Kd.R_elder' (rl_ HO302) (Kd.R_base ho0) hb);replace BK299:=bz BK299 hb;replace HB:=A_ (below_step bb_ hb);(try clear hb);(try clear hb2);(try clear hk);(try clear hi);(try clear ho0))|((with_reducible refine gate_dst (N:=4) rfl ?_);refine box_event ?hg (N:=4) ?hd (cs:=#[.int .i64 0,.slice none 0 0]) (t:=28) ?hr ?_;(case hd=>rfl);(case hg=>rfl);(case hr=>first|(go_simp;done)|(go_simp;rfl));intro gb307 hg w8 hbox hb;replace HO302:=rb_ HO302 hb;replace HO306:=rb_ HO306 hb;have BK307:=A_ (hbox);have GW307:=A_ ((by rw [hg];exact (below_size bb_) : w.heap.size ≤ gb307));have GE307:=A_ ((by rw [hg];exact (below_size bb_) : w.heap.size ≤ gb307));replace HB:=A_ (below_step bb_ hb);have NB299_307:=A_ ((by rw [hg];exact Nat.ne_of_lt (blk_lt (bl_ BK299)) : gb299 ≠ gb307));have NB307_299:=A_ ((by rw [hg];exact Nat.ne_of_gt (blk_lt (bl_ BK299)) : gb307 ≠ gb299));replace BK299:=bz BK299 hb;clear hb hbox hg;have hnb9:=NB307_299.out;have hnc9:=NB299_307.out;have hcz10_0 : w8.cell? ⟨gb307,0,none⟩ = some (.int .i64 0):=blk_cell BK307.out 0;have hcz10_1 : w8.cell? ⟨gb307,1,none⟩ = some (.slice none 0 0):=blk_cell BK307.out 1;have hfz10_0:=blk_frozen BK307.out 0;have hfz10_1:=blk_frozen BK307.out 1;obtain ⟨Ao11,co11,eo11⟩:=Kd.R_slice HO306.out;subst eo11;have hcz12_0 : w8.cell? ⟨gb299,0,none⟩ = some (.int .i64 a0_0):=blk_cell BK299.out 0;have hcz12_1 : w8.cell? ⟨gb299,1,none⟩ = some (.slice A0_1 l0_1.length c0_1):=blk_cell BK299.out 1;have hfz12_0:=blk_frozen BK299.out 0;have hfz12_1:=blk_frozen BK299.out 1))
 go_loopg [3,11] k (fun kq v3 v11 w'=>∃ (x3_1 : List Int) (x11_1 : Int),v11 = .int .i64 x11_1 ∧ Aside0 (impl_Order_indifferent.l0 kq x3_1 a0_0 x11_1 a0_0 l0_1 t303 t304 = some r) ∧ Aside0 (kq ≤ k) ∧ Aside0 (Kd.R (Kd.int .i64) 3 w' w.heap.size (fun k_=>some k_ ≠ ((.slice Ao11 t304.length co11) : Value).ownBlock) v3 x3_1) ∧ Aside0 (Kd.R (Kd.int .i64) 3 w' w.heap.size (fun k_=>some k_ ≠ (v3 : Value).ownBlock) (.slice Ao11 t304.length co11) t304) ∧ Aside0 (w'.heap[gb299]? = some (.cells #[.int .i64 a0_0,(.slice A0_1 l0_1.length c0_1)] 28 (0,0))) ∧ Aside0 (w'.heap[gb307]? = some (.cells #[.int .i64 t303,(.slice Ao11 t304.length co11)] 28 (0,0))) ∧ Aside0 (Below w.heap.size w w'))
 case atStart=>exact ⟨(y300),(0),(by first|rfl|(simp;done)|(simp [*];done)),H',⟨Nat.le_refl _⟩,⟨by (with_reducible repeat (first|apply Kd.R_alloc|apply Kd.R_drewN|apply Kd.R_drew));exact Kd.R_mono (Kd.R_far (p:=⟨gb307,1,none⟩) (Kd.R_far (p:=⟨gb307,0,none⟩) (Kd.R_types HO302.out BK307.out (by decide)) (fun _ hk=>hk.2) (.int .i64 t303)) (fun _ hk=>hk.2) (.slice Ao11 t304.length co11)) (fun _ hk=>hk.1.2)⟩,⟨by (with_reducible repeat (first|apply Kd.R_alloc|apply Kd.R_drewN|apply Kd.R_drew));exact Kd.R_mono (Kd.R_far (p:=⟨gb307,1,none⟩) (Kd.R_far (p:=⟨gb307,0,none⟩) (Kd.R_types HO306.out BK307.out (by decide)) (fun _ hk=>hk.2) (.int .i64 t303)) (fun _ hk=>hk.2) (.slice Ao11 t304.length co11)) (fun _ hk=>hk.1.2)⟩,⟨by (with_reducible repeat (first|refine blk_drewN ?_ _|refine blk_drew ?_|refine blk_alloc ?_ _));refine blk_far ?_ NB299_307.out _;(with_reducible repeat (first|refine blk_drewN ?_ _|refine blk_drew ?_|refine blk_alloc ?_ _));refine blk_far ?_ NB299_307.out _;(with_reducible repeat (first|refine blk_drewN ?_ _|refine blk_drew ?_|refine blk_alloc ?_ _));exact BK299.out⟩,⟨by (with_reducible repeat (first|refine blk_drewN ?_ _|refine blk_drew ?_|refine blk_alloc ?_ _));refine blk_put (cs:=#[.int .i64 t303,.slice none 0 0]) ?_ 1 _ rfl;(with_reducible repeat (first|refine blk_drewN ?_ _|refine blk_drew ?_|refine blk_alloc ?_ _));refine blk_put (cs:=#[.int .i64 0,.slice none 0 0]) ?_ 0 _ rfl;(with_reducible repeat (first|refine blk_drewN ?_ _|refine blk_drew ?_|refine blk_alloc ?_ _));exact BK307.out⟩,⟨bb_⟩⟩
 case round =>
  clear H';try clear c1
  try clear p2
  try clear c9
  try clear c11
  try clear hcz10_0
  try clear hcz10_1
  try clear hcz12_0
  try clear hcz12_1
  try clear hcz6_0
  try clear hcz6_1
  try clear hfz10_0
  try clear hfz10_1
  try clear hfz12_0
  try clear hfz12_1
  try clear hfz6_0
  try clear hfz6_1
  obtain ⟨x3_1,x11_1,rfl,HA,HK1,HO_3,HO_308001,BK299,BK307,HB⟩:=hrel;cases gk with
  | zero => exact absurd HA.out (by simp [impl_Order_indifferent.l0])
  | succ k1 =>
   have H:=HA.out;clear HA;simp only [impl_Order_indifferent.l0] at H
   by_cases c13 : x11_1 < a0_0
   ·rw [if_pos c13] at H;have c13b0 : decide (x11_1 < a0_0) = true:=decide_eq_true c13;clear c13;replace H:=Option.bind_eq_some_iff.mp H;obtain ⟨t308,A140,H⟩:=H;replace H : (if 0 ≤ x11_1 then (if x11_1 < (l0_1.length : Int) then (if x11_1 < (t304.length : Int) then (if x3_1.length < 17592186044416 then (impl_Order_indifferent.l0 k1 (x3_1 ++ [Go.bits .andNot .i64 (Go.bits .andNot .i64 (Go.bits .andNot .i64 t308 (rd l0_1 x11_1)) (rd t304 x11_1)) (shl .i64 1 x11_1)]) a0_0 (wrap64 (x11_1 + 1)) a0_0 l0_1 t303 t304) else (none)) else (none)) else (none)) else (none)) = some r:=H;have A14:=A_ A140;clear A140;by_cases c15 : 0 ≤ x11_1
    ·rw [if_pos c15] at H;have c15b0 : decide (0 ≤ x11_1) = true:=decide_eq_true c15;clear c15;by_cases c16 : x11_1 < (l0_1.length : Int)
     ·rw [if_pos c16] at H;have c16b0 : decide (x11_1 < (l0_1.length : Int)) = true:=decide_eq_true c16;clear c16;by_cases c17 : x11_1 < (t304.length : Int)
      ·rw [if_pos c17] at H;have c17b0 : decide (x11_1 < (t304.length : Int)) = true:=decide_eq_true c17;clear c17;have c18b0:=eq_true (of_decide_eq_true (by first|(with_reducible assumption)|assumption) : 0 ≤ x11_1);obtain ⟨ji19,hji19⟩ : ∃ j_ : Int,(shl .i64 1 x11_1) = j_:=⟨_,rfl⟩;replace H : (if x3_1.length < 17592186044416 then (impl_Order_indifferent.l0 k1 (x3_1 ++ [Go.bits .andNot .i64 (Go.bits .andNot .i64 (Go.bits .andNot .i64 t308 (rd l0_1 x11_1)) (rd t304 x11_1)) (ji19)]) a0_0 (wrap64 (x11_1 + 1)) a0_0 l0_1 t303 t304) else (none)) = some r:=by first|(rw [hji19] at H;exact H)|(simp only [hji19] at H ⊢;exact H)
       (try rw [hji19] at A14);have hji19_ : (IntKind.i64.wrap (1 * 2 ^ min x11_1.toNat 64)) = ji19:=hji19;have hji19z : x11_1 ≤ 64 → (IntKind.i64.wrap (1 * 2 ^ x11_1.toNat)) = ji19:=shl_small hji19;have hji19u : (IntKind.i64.wrap (2 ^ min x11_1.toNat 64)) = ji19:=by have h_:=hji19_;rw [Int.one_mul] at h_;exact h_
       have hji19v : x11_1 ≤ 64 → (IntKind.i64.wrap (2 ^ x11_1.toNat)) = ji19:=fun hle_=>by have h_:=hji19z hle_;rw [Int.one_mul] at h_;exact h_
       have hji19y : (wrap64 (1 * 2 ^ min x11_1.toNat 64)) = ji19:=(i64_w _).symm.trans hji19_;have hji19x : x11_1 ≤ 64 → (wrap64 (1 * 2 ^ x11_1.toNat)) = ji19:=fun h_=>(i64_w _).symm.trans (hji19z h_)
       by_cases c20 : x3_1.length < 17592186044416
       ·rw [if_pos c20] at H;have LMc20:=A_ c20;clear c20;obtain ⟨y311,hy311⟩ : ∃ y_ : List Int,y_ = (x3_1 ++ [Go.bits .andNot .i64 (Go.bits .andNot .i64 (Go.bits .andNot .i64 t308 (rd l0_1 x11_1)) (rd t304 x11_1)) (ji19)]):=⟨_,rfl⟩;replace H : (impl_Order_indifferent.l0 k1 y311 a0_0 (wrap64 (x11_1 + 1)) a0_0 l0_1 t303 t304) = some r:=by first|(rw [hy311];with_reducible exact H)|(have H2_:=(Option.bind_some _ _).symm.trans H;rw [hy311];with_reducible exact H2_)|(have H2_:=(Option.bind_some _ _).symm.trans H;with_reducible exact H2_)|with_reducible exact H|(rw [hy311];exact H)|exact H
        have Ny311:=A_ hy311;clear hy311;have H':=A_ H;clear H;try go_wp2
        replace HO_3:=A_ (Kd.R_drew HO_3.out);replace HO_308001:=A_ (Kd.R_drew HO_308001.out);replace BK299:=A_ (blk_drew BK299.out);replace BK307:=A_ (blk_drew BK307.out);replace HB:=A_ (below_drew1 HB.out);have p309 : 0 ≤ (x11_1 : Int):=of_decide_eq_true (by first|(with_reducible assumption)|assumption);have q309 : x11_1 < (l0_1.length : Int):=of_decide_eq_true (by first|(with_reducible assumption)|assumption);obtain ⟨ad309,e309,hx309_0⟩:=Kd.at_int HR0_1.out x11_1 p309 q309;have hw309_0:=hx309_0;cases e309
        (try replace hx309_0:=(HB.out.cell (World.block_lt_of_cell? w _ hx309_0)).trans hx309_0);replace p309:=eq_true p309;replace q309:=eq_true q309;have p310 : 0 ≤ (x11_1 : Int):=of_decide_eq_true (by first|(with_reducible assumption)|assumption);have q310 : x11_1 < (t304.length : Int):=of_decide_eq_true (by first|(with_reducible assumption)|assumption);obtain ⟨ad310,e310,hx310_0⟩:=Kd.at_int (Kd.R_reads' HO_308001.out).2.2 x11_1 p310 q310;cases e310
        replace p310:=eq_true p310;replace q310:=eq_true q310;refine start_ (n:=21) (S:=fun w'=>w'.cell? ⟨gb299,0,none⟩ = some (.int .i64 a0_0) ∧ w'.cell? ⟨gb299,1,none⟩ = some (.slice (some ad309) l0_1.length c0_1) ∧ w'.cell? ⟨gb307,0,none⟩ = some (.int .i64 t303) ∧ w'.cell? ⟨gb307,1,none⟩ = some (.slice (some ad310) t304.length co11) ∧ w'.cell? (ad309.add (x11_1).toNat) = some (.int .i64 (rd l0_1 x11_1)) ∧ w'.cell? (ad310.add (x11_1).toNat) = some (.int .i64 (rd t304 x11_1))) (ds:=[18,19]) #[F,F,F,F,F,F,F,F,F,F,F,F,F,F,F,F,F,F,F,F,F] (by kernel_rfl) rfl rfl ⟨blk_cell BK299.out 0,blk_cell BK299.out 1,blk_cell BK307.out 0,blk_cell BK307.out 1,((HB.out.cell (World.block_lt_of_cell? w _ hw309_0)).trans hw309_0),hx310_0⟩ (fun hHeld=>?_);refine with_tabW impl_Order_indifferent.tab5 impl_Order_indifferent.bits5 (fun HT_ HW_=>?_)
        generalize wr.drew = w21 at HO_3 HO_308001 BK299 BK307 HB hx309_0 hx310_0 hHeld ⊢
        refine pure_ (i:=0) (N:=some 14) (v:=?_) (a':=?_) #[T,F,F,F,F,F,F,F,F,F,F,F,F,F,F,F,F,F,F,F,F] rfl rfl (any_of HT_.out (by kernel_rfl)) (fun _ _ _ h=>h) (Or.inl ⟨by rfl,?_⟩) ?_ ?_
        rotate_left;·intro w';go_simp;with_reducible rfl
        rotate_left;·simp only [Act.put,L_,M_,N_,i64_w,i32_w];rfl
        refine pure_ (i:=3) (N:=some 17) (v:=?_) (a':=?_) #[T,F,F,T,F,F,F,F,F,F,F,F,F,F,F,F,F,F,F,F,F] rfl rfl (any_of HT_.out (by kernel_rfl)) (fun _ _ _ h=>h) (Or.inl ⟨by rfl,?_⟩) ?_ ?_
        rotate_left;·intro w';go_simp;with_reducible rfl
        rotate_left;·simp only [Act.put,L_,M_,N_,i64_w,i32_w];rfl
        refine pure_ (i:=5) (N:=some 19) (v:=?_) (a':=?_) #[T,F,F,T,F,T,F,F,F,F,F,F,F,F,F,F,F,F,F,F,F] rfl rfl (any_of HT_.out (by kernel_rfl)) (fun _ _ _ h=>h) (Or.inl ⟨by rfl,?_⟩) ?_ ?_
        rotate_left;·intro w';go_simp;with_reducible rfl
        rotate_left;·simp only [Act.put,L_,M_,N_,i64_w,i32_w];rfl
        refine pure_ (i:=9) (N:=some 23) (v:=?_) (a':=?_) #[T,F,F,T,F,T,F,F,F,T,F,F,F,F,F,F,F,F,F,F,F] rfl rfl (any_of HT_.out (by kernel_rfl)) (fun _ _ _ h=>h) (Or.inl ⟨by rfl,?_⟩) ?_ ?_
        rotate_left;·intro w';go_simp;with_reducible rfl
        rotate_left;·simp only [Act.put,L_,M_,N_,i64_w,i32_w];rfl
        refine pure_ (i:=11) (N:=some 25) (v:=?_) (a':=?_) #[T,F,F,T,F,T,F,F,F,T,F,T,F,F,F,F,F,F,F,F,F] rfl rfl (any_of HT_.out (by kernel_rfl)) (fun _ _ _ h=>h) (Or.inl ⟨by rfl,?_⟩) ?_ ?_
        rotate_left;·intro w';go_simp;with_reducible rfl
        rotate_left;·simp only [Act.put,L_,M_,N_,i64_w,i32_w];rfl
        refine pure_ (i:=15) (N:=some 29) (v:=?_) (a':=?_) #[T,F,F,T,F,T,F,F,F,T,F,T,F,F,F,T,F,F,F,F,F] rfl rfl (any_of HT_.out (by kernel_rfl)) (fun _ _ _ h=>h) (Or.inl ⟨by rfl,?_⟩) ?_ ?_
        rotate_left;·intro w';go_simp;with_reducible rfl
        rotate_left;·simp only [Act.put,L_,M_,N_,i64_w,i32_w];rfl
        refine pure_ (i:=16) (N:=some 30) (v:=?_) (a':=?_) #[T,F,F,T,F,T,F,F,F,T,F,T,F,F,F,T,T,F,F,F,F] rfl rfl (any_of HT_.out (by kernel_rfl)) (fun _ _ _ h=>h) (Or.inl ⟨by rfl,?_⟩) ?_ ?_
        rotate_left;·intro w';go_simp;with_reducible rfl
        rotate_left;·simp only [Act.put,L_,M_,N_,i64_w,i32_w];rfl
        refine take_ (i:=1) (N:=some 15) (v:=?_) (a':=?_) #[T,T,F,T,F,T,F,F,F,T,F,T,F,F,F,T,T,F,F,F,F] rfl rfl (take_ofW HT_.out HW_.out (by kernel_rfl)) (fun _ _ _ h=>h) (Or.inl ⟨by rfl,?_⟩) hHeld ?_ ?_
        rotate_left
        ·rintro w' ⟨s0,s1,s2,s3,s4,s5⟩
         go_simp
         with_reducible rfl
        rotate_left;·simp only [Act.put,L_,M_,N_,i64_w,i32_w];rfl
        refine take_ (i:=4) (N:=some 18) (v:=?_) (a':=?_) #[T,T,F,T,T,T,F,F,F,T,F,T,F,F,F,T,T,F,F,F,F] rfl rfl (take_ofW HT_.out HW_.out (by kernel_rfl)) (fun _ _ _ h=>h) (Or.inl ⟨by rfl,?_⟩) hHeld ?_ ?_
        rotate_left
        ·rintro w' ⟨s0,s1,s2,s3,s4,s5⟩
         go_simp
         with_reducible rfl
        rotate_left;·simp only [Act.put,L_,M_,N_,i64_w,i32_w];rfl
        refine pure_ (i:=6) (N:=some 20) (v:=?_) (a':=?_) #[T,T,F,T,T,T,T,F,F,T,F,T,F,F,F,T,T,F,F,F,F] rfl rfl (any_of HT_.out (by kernel_rfl)) (fun _ _ _ h=>h) (Or.inl ⟨by rfl,?_⟩) ?_ ?_
        rotate_left;·intro w';go_simp;with_reducible rfl
        rotate_left;·simp only [Act.put,L_,M_,N_,i64_w,i32_w];rfl
        refine take_ (i:=7) (N:=some 21) (v:=?_) (a':=?_) #[T,T,F,T,T,T,T,T,F,T,F,T,F,F,F,T,T,F,F,F,F] rfl rfl (take_ofW HT_.out HW_.out (by kernel_rfl)) (fun _ _ _ h=>h) (Or.inl ⟨by rfl,?_⟩) hHeld ?_ ?_
        rotate_left
        ·rintro w' ⟨s0,s1,s2,s3,s4,s5⟩
         go_simp
         with_reducible rfl
        rotate_left;·simp only [Act.put,L_,M_,N_,i64_w,i32_w];rfl
        refine take_ (i:=10) (N:=some 24) (v:=?_) (a':=?_) #[T,T,F,T,T,T,T,T,F,T,T,T,F,F,F,T,T,F,F,F,F] rfl rfl (take_ofW HT_.out HW_.out (by kernel_rfl)) (fun _ _ _ h=>h) (Or.inl ⟨by rfl,?_⟩) hHeld ?_ ?_
        rotate_left
        ·rintro w' ⟨s0,s1,s2,s3,s4,s5⟩
         go_simp
         with_reducible rfl
        rotate_left;·simp only [Act.put,L_,M_,N_,i64_w,i32_w];rfl
        refine pure_ (i:=12) (N:=some 26) (v:=?_) (a':=?_) #[T,T,F,T,T,T,T,T,F,T,T,T,T,F,F,T,T,F,F,F,F] rfl rfl (any_of HT_.out (by kernel_rfl)) (fun _ _ _ h=>h) (Or.inl ⟨by rfl,?_⟩) ?_ ?_
        rotate_left;·intro w';go_simp;with_reducible rfl
        rotate_left;·simp only [Act.put,L_,M_,N_,i64_w,i32_w];rfl
        refine take_ (i:=13) (N:=some 27) (v:=?_) (a':=?_) #[T,T,F,T,T,T,T,T,F,T,T,T,T,T,F,T,T,F,F,F,F] rfl rfl (take_ofW HT_.out HW_.out (by kernel_rfl)) (fun _ _ _ h=>h) (Or.inl ⟨by rfl,?_⟩) hHeld ?_ ?_
        rotate_left
        ·rintro w' ⟨s0,s1,s2,s3,s4,s5⟩
         go_simp
         with_reducible rfl
        rotate_left;·simp only [Act.put,L_,M_,N_,i64_w,i32_w];rfl
        refine one_ (i:=2) (N:=some 16) #[T,T,T,T,T,T,T,T,F,T,T,T,T,T,F,T,T,F,F,F,F] rfl rfl (one_of HT_.out (by kernel_rfl)) (by decide) (fun K hK=>?_)
        refine goes_ Tryd.func160 (by kernel_rfl) rfl #[.agg #[.int .i64 a0_0,.slice (some ad309) l0_1.length c0_1]] (by rfl) rfl rfl au_ ?_
        with_reducible refine (impl_Order_all.calls a0_0 _ _ l0_1 t308 _ ?side1 ?side2 A14.out).mono ?_
        (case side1=>exact cl_ (Kd.C_below HR0_1.out HB.out))
        (case side2=>exact HC0_1.out)
        rintro e w22 ⟨rfl,hb⟩
        have HS5_:=(hb.cell (World.block_lt_of_cell? _ _ (hHeld.2.2.2.2.2))).trans (hHeld.2.2.2.2.2);refine ⟨_,rfl,?_⟩
        replace HO_3:=rb_ HO_3 hb;replace HO_308001:=rb_ HO_308001 hb;replace BK299:=bz BK299 hb;replace BK307:=bz BK307 hb;replace HB:=A_ (below_step bb_ hb);(try clear hb);(try clear hb2);(try clear hk);(try clear hi);refine hK.out _ _ ⟨blk_cell BK299.out 0,blk_cell BK299.out 1,blk_cell BK307.out 0,blk_cell BK307.out 1,((HB.out.cell (World.block_lt_of_cell? w _ hw309_0)).trans hw309_0),HS5_⟩ (fun hHeld=>?_)
        clear hK K;refine norm_ (a':=?_) ?_ ?_
        rotate_left
        ·show Act.put _ (some 16) _ = _
         simp only [Act.put,L_,M_,N_,i64_w,i32_w]
         rfl
        refine pure_ (i:=8) (N:=some 22) (v:=?_) (a':=?_) #[T,T,T,T,T,T,T,T,T,T,T,T,T,T,F,T,T,F,F,F,F] rfl rfl (any_of HT_.out (by kernel_rfl)) (fun _ _ _ h=>h) (Or.inl ⟨by rfl,?_⟩) ?_ ?_
        rotate_left;·intro w';go_simp;with_reducible rfl
        rotate_left;·simp only [Act.put,L_,M_,N_,i64_w,i32_w];rfl
        refine pure_ (i:=14) (N:=some 28) (v:=?_) (a':=?_) #[T,T,T,T,T,T,T,T,T,T,T,T,T,T,T,T,T,F,F,F,F] rfl rfl (any_of HT_.out (by kernel_rfl)) (fun _ _ _ h=>h) (Or.inl ⟨by rfl,?_⟩) ?_ ?_
        rotate_left;·intro w';go_simp;with_reducible rfl
        rotate_left;·simp only [Act.put,L_,M_,N_,i64_w,i32_w];rfl
        refine pure_ (i:=17) (N:=some 31) (v:=?_) (a':=?_) #[T,T,T,T,T,T,T,T,T,T,T,T,T,T,T,T,T,T,F,F,F] rfl rfl (any_of HT_.out (by kernel_rfl)) (fun _ _ _ h=>h) (Or.inl ⟨by rfl,?_⟩) ?_ ?_
        rotate_left;·intro w';go_simp;with_reducible rfl
        rotate_left;·simp only [Act.put,L_,M_,N_,i64_w,i32_w];rfl
        refine last_ (i:=18) (N:=some 32) #[T,T,T,T,T,T,T,T,T,T,T,T,T,T,T,T,T,T,T,F,F] rfl rfl (one_of HT_.out (by kernel_rfl)) (by decide) (fun K hK=>?_)
        refine value_ (w1:=?_) (v:=?_) (by rfl) rfl ?_ ?_
        rotate_left 2
        ·go_simp
         constructor
         ·rfl
         ·rfl
        refine hK.out _ _ ?_
        clear hK K;refine norm_ (a':=?_) ?_ ?_
        rotate_left
        ·show Act.put _ (some 32) _ = _
         simp only [Act.put,L_,M_,N_,i64_w,i32_w]
         rfl
        refine last_ (i:=19) (N:=some 33) #[T,T,T,T,T,T,T,T,T,T,T,T,T,T,T,T,T,T,T,T,F] rfl rfl (one_of HT_.out (by kernel_rfl)) (by decide) (fun K hK=>?_)
        refine Kd.R_append_step (Kd.int .i64) (w0:=w) w.heap.size (by rfl) (.tmp 14) (.tmp 32) 22 3 (.int .i64 0) 8 rfl Tryd.underlying22 info3 rfl (by decide) (by omega) u3 x3_1 (Go.bits .andNot .i64 (Go.bits .andNot .i64 (Go.bits .andNot .i64 t308 (rd l0_1 x11_1)) (rd t304 x11_1)) (ji19)) [.int .i64 (Go.bits .andNot .i64 (Go.bits .andNot .i64 (Go.bits .andNot .i64 t308 (rd l0_1 x11_1)) (rd t304 x11_1)) (ji19))] (fun k_=>some k_ ≠ (.slice (some ad310) t304.length co11 : Value).ownBlock) (fun _=>False) rfl rfl ?aP (fun _ hk=>hk.elim) ?aF ?aO ?aB ?aS ?aL ?_
        (case aP=>exact rfl)
        (case aB=>exact bb_)
        (case aF=>exact (fun k_ hk=>Kd.fresh' (Kd.R_lt (rl_ HO_308001)) k_ hk))
        (case aO=>exact (rl_ HO_3))
        (case aS=>exact (below_size bb_))
        (case aL=>have:=LMc20.out;omega)
        intro v312 w23 ho hb hg hat
        rw [← Ny311.out] at ho;replace HO_308001:=A_ (Kd.R_after (ok:=(fun _=>True)) (by (with_reducible repeat (first|apply Kd.R_alloc|apply Kd.R_drewN|apply Kd.R_drew));exact Kd.R_mono HO_308001.out (fun _ hk=>⟨trivial,hk⟩)) hg hat);replace BK299:=A_ (blk_grown (g:=gb299) (o:=.cells #[.int .i64 a0_0,.slice (some ad309) l0_1.length c0_1] 28 (0,0)) (bl_ BK299) hg (Kd.R_ne HO_3.out BK299.out (by decide)));replace BK307:=A_ (blk_grown (g:=gb307) (o:=.cells #[.int .i64 t303,.slice (some ad310) t304.length co11] 28 (0,0)) (bl_ BK307) hg (Kd.R_ne HO_3.out BK307.out (by decide)));replace HB:=A_ (hb);have HO313:=A_ (ho);clear HO_3;clear ho hb hg hat;refine hK.out _ _ ?_
        clear hK K;refine norm_ (a':=?_) ?_ ?_
        rotate_left
        ·show Act.put _ (some 33) _ = _
         simp only [Act.put,L_,M_,N_,i64_w,i32_w]
         rfl
        refine pure_ (i:=20) (N:=some 3) (v:=?_) (a':=?_) #[T,T,T,T,T,T,T,T,T,T,T,T,T,T,T,T,T,T,T,T,T] rfl rfl (any_of HT_.out (by kernel_rfl)) (fun _ _ _ h=>h) (Or.inl ⟨by rfl,?_⟩) ?_ ?_
        rotate_left;·intro w';go_simp;with_reducible rfl
        rotate_left;·simp only [Act.put,L_,M_,N_,i64_w,i32_w];rfl
        refine done_ (done_of HT_.out (by kernel_rfl)) ?_
        try go_wp2
        go_roundg k1
        case measure=>have:=HK1.out;omega
        case rel=>exact ⟨(y311),(wrap64 (x11_1 + 1)),(by first|rfl|(simp;done)|(simp [*];done)),H',⟨by have:=HK1.out;omega⟩,⟨by (with_reducible repeat (first|apply Kd.R_alloc|apply Kd.R_drewN|apply Kd.R_drew));exact HO313.out⟩,⟨by (with_reducible repeat (first|apply Kd.R_alloc|apply Kd.R_drewN|apply Kd.R_drew));exact Kd.R_mono HO_308001.out (fun _ hk=>hk.2)⟩,⟨bl_ BK299⟩,⟨bl_ BK307⟩,⟨bb_⟩⟩
       ·rw [if_neg c20] at H;exact absurd H (by simp)
      ·rw [if_neg c17] at H;exact absurd H (by simp)
     ·rw [if_neg c16] at H;exact absurd H (by simp)
    ·rw [if_neg c15] at H;exact absurd H (by simp)
   ·rw [if_neg c13] at H;have c13b0 : decide (x11_1 < a0_0) = false:=decide_eq_false c13;clear c13;obtain rfl:=Option.some.inj H;go_wp2
    go_ret
    exact ⟨_,by first|rfl|(simp [errW_none,errW_some] <;> rfl)|(simp [*,errW_none,errW_some] <;> rfl),by (with_reducible repeat (first|apply Kd.R_alloc|apply Kd.R_drewN|apply Kd.R_drew));exact Kd.R_mono HO_3.out (fun _ hk=>trivial),bb_⟩
mutual
def impl_Order_threeOne.l0 : Nat → List Int → Int → Int → Int → List Int → Option (List Int)
 | 0,_,_,_,_,_=>none
 | k + 1,x3,x13,x14,x315000,x315001=>if x14 < x13 then (if 0 ≤ x14 then (if x14 < (x315001.length : Int) then ((impl_members.f k (rd x315001 x14)).bind fun t319=>(impl_Order_threeOne.l1 k x3 x14 x13 x14 t319 (t319.length : Int) 0 x315000 x315001)) else (none)) else (none)) else (some ([] : List Int))
def impl_Order_threeOne.l1 : Nat → List Int → Int → Int → Int → List Int → Int → Int → Int → List Int → Option (List Int)
 | 0,_,_,_,_,_,_,_,_,_=>none
 | k + 1,x3,x4,x13,x14,x22,x23,x24,x315000,x315001=>if x24 < x23 then (if 0 ≤ x24 then (if x24 < (x22.length : Int) then (if 0 ≤ (rd x22 x24) then (if (rd x22 x24) < (x315001.length : Int) then ((impl_members.f k (rd x315001 (rd x22 x24))).bind fun t324=>(impl_Order_threeOne.l2 k x3 x4 (rd x22 x24) x13 x14 x22 x23 x24 t324 (t324.length : Int) 0 x315000 x315001)) else (none)) else (none)) else (none)) else (none)) else (impl_Order_threeOne.l0 k x3 x13 (wrap64 (x14 + 1)) x315000 x315001)
def impl_Order_threeOne.l2 : Nat → List Int → Int → Int → Int → Int → List Int → Int → Int → List Int → Int → Int → Int → List Int → Option (List Int)
 | 0,_,_,_,_,_,_,_,_,_,_,_,_,_=>none
 | k + 1,x3,x4,x6,x13,x14,x22,x23,x24,x33,x34,x35,x315000,x315001=>if x35 < x34 then (if 0 ≤ x35 then (if x35 < (x33.length : Int) then (if 0 ≤ x4 then (if x4 < (x3.length : Int) then (if 0 ≤ x6 then (if x6 < (x3.length : Int) then (if 0 ≤ (rd x33 x35) then (if (rd x33 x35) < (x3.length : Int) then (if (Go.bits .and .i64 (Go.bits .and .i64 (rd x3 x4) (rd x3 x6)) (rd x3 (rd x33 x35))) = 0 then (impl_Order_threeOne.l2 k x3 x4 x6 x13 x14 x22 x23 x24 x33 x34 (wrap64 (x35 + 1)) x315000 x315001) else ((impl_members.f k (Go.bits .and .i64 (Go.bits .and .i64 (rd x3 x4) (rd x3 x6)) (rd x3 (rd x33 x35)))).bind fun t331=>(if 0 < (t331.length : Int) then (some (([x4,x6,rd x33 x35,rd t331 0] : List Int))) else (none)))) else (none)) else (none)) else (none)) else (none)) else (none)) else (none)) else (none)) else (none)) else (impl_Order_threeOne.l1 k x3 x4 x13 x14 x22 x23 (wrap64 (x24 + 1)) x315000 x315001)
end
def impl_Order_threeOne.f (k : Nat) (a0_0 : Int) (l0_1 : List Int) : Option (List Int) := (impl_Order_indifferent.f k a0_0 l0_1).bind fun t315 => (impl_Order_threeOne.l0 k t315 a0_0 0 a0_0 l0_1)
set_option maxHeartbeats 8000000 in
set_option maxRecDepth 100000 in
theorem impl_Order_threeOne.calls (k : Nat) (a0_0 : Int) (A0_1 : Option Addr) (c0_1 : Nat) (l0_1 : List Int) (r : List Int) (w : World) (hr0_1 : Kd.C (Kd.int .i64) w A0_1 l0_1.length l0_1) (hc0_1 : l0_1.length ≤ c0_1) (hT : TabOK w) (h : impl_Order_threeOne.f k a0_0 l0_1 = some r) :
 Calls Tryd.prog 188 #[.agg #[.int .i64 a0_0,.slice A0_1 l0_1.length c0_1]] w fun e w'=>∃ v0_ : Value,e = .returned (v0_) ∧ Kd.R (Kd.int .i64) 3 w' w.heap.size (fun _=>True) v0_ r ∧ Below w.heap.size w w' ∧ (r = [] → v0_ = .slice none 0 0):=by
 have hu28:=Tryd.underlying28;have HT:=A_ hT;clear hT;have HR0_1:=A_ hr0_1;have HC0_1:=A_ hc0_1;clear hr0_1 hc0_1;have HB:=A_ (Below.refl w.heap.size w);have H : ((impl_Order_indifferent.f k a0_0 l0_1).bind fun t315=>(impl_Order_threeOne.l0 k t315 a0_0 0 a0_0 l0_1)) = some r:=h;clear h;replace H:=Option.bind_eq_some_iff.mp H;obtain ⟨t315,A20,H⟩:=H;replace H : (impl_Order_threeOne.l0 k t315 a0_0 0 a0_0 l0_1) = some r:=H;have A2:=A_ A20;clear A20;have H':=A_ H;clear H;go_enter Tryd.func188,Tryd.ntmps188
 go_wp2_with (first|((with_reducible refine gate_dst (N:=1) rfl ?_);refine box_event ?hg (N:=1) ?hd (cs:=#[.int .i64 a0_0,.slice A0_1 l0_1.length c0_1]) (t:=28) ?hr ?_;(case hd=>rfl);(case hg=>rfl);(case hr=>first|(go_simp;done)|(go_simp;rfl));intro gb314 hg w3 hbox hb;have BK314:=A_ (hbox);have GW314:=A_ ((by rw [hg];exact (below_size bb_) : w.heap.size ≤ gb314));have GE314:=A_ ((by rw [hg];exact (below_size bb_) : w.heap.size ≤ gb314));replace HB:=A_ (below_step bb_ hb);clear hb hbox hg;have hcz4_0 : w3.cell? ⟨gb314,0,none⟩ = some (.int .i64 a0_0):=blk_cell BK314.out 0;have hcz4_1 : w3.cell? ⟨gb314,1,none⟩ = some (.slice A0_1 l0_1.length c0_1):=blk_cell BK314.out 1;have hfz4_0:=blk_frozen BK314.out 0;have hfz4_1:=blk_frozen BK314.out 1)|(go_at_call 184;(with_reducible refine (impl_Order_indifferent.calls k a0_0 _ _ l0_1 t315 _ ?side1 ?side2 A2.out).mono ?_);(case side1=>exact cl_ (Kd.C_below HR0_1.out HB.out));(case side2=>exact HC0_1.out);rintro e w5 ⟨v316,rfl,ho0,hb⟩;have HO317:=A_ (Kd.R_lower ho0 (below_size bb_));replace BK314:=bz BK314 hb;replace HB:=A_ (below_step bb_ hb);(try clear hb);(try clear hb2);(try clear hk);(try clear hi);(try clear ho0);have hcz6_0 : w5.cell? ⟨gb314,0,none⟩ = some (.int .i64 a0_0):=blk_cell BK314.out 0;have hcz6_1 : w5.cell? ⟨gb314,1,none⟩ = some (.slice A0_1 l0_1.length c0_1):=blk_cell BK314.out 1;have hfz6_0:=blk_frozen BK314.out 0;have hfz6_1:=blk_frozen BK314.out 1))
 repeat (go_quiet (first|((with_reducible refine gate_dst (N:=1) rfl ?_);refine box_event ?hg (N:=1) ?hd (cs:=#[.int .i64 a0_0,.slice A0_1 l0_1.length c0_1]) (t:=28) ?hr ?_;(case hd=>rfl);(case hg=>rfl);(case hr=>first|(go_simp;done)|(go_simp;rfl));intro gb314 hg w3 hbox hb;have BK314:=A_ (hbox);have GW314:=A_ ((by rw [hg];exact (below_size bb_) : w.heap.size ≤ gb314));have GE314:=A_ ((by rw [hg];exact (below_size bb_) : w.heap.size ≤ gb314));replace HB:=A_ (below_step bb_ hb);clear hb hbox hg;have hcz4_0 : w3.cell? ⟨gb314,0,none⟩ = some (.int .i64 a0_0):=blk_cell BK314.out 0;have hcz4_1 : w3.cell? ⟨gb314,1,none⟩ = some (.slice A0_1 l0_1.length c0_1):=blk_cell BK314.out 1;have hfz4_0:=blk_frozen BK314.out 0;have hfz4_1:=blk_frozen BK314.out 1)|(go_at_call 184;(with_reducible refine (impl_Order_indifferent.calls k a0_0 _ _ l0_1 t315 _ ?side1 ?side2 A2.out).mono ?_);(case side1=>exact cl_ (Kd.C_below HR0_1.out HB.out));(case side2=>exact HC0_1.out);rintro e w5 ⟨v316,rfl,ho0,hb⟩;have HO317:=A_ (Kd.R_lower ho0 (below_size bb_));replace BK314:=bz BK314 hb;replace HB:=A_ (below_step bb_ hb);(try clear hb);(try clear hb2);(try clear hk);(try clear hi);(try clear ho0);have hcz6_0 : w5.cell? ⟨gb314,0,none⟩ = some (.int .i64 a0_0):=blk_cell BK314.out 0;have hcz6_1 : w5.cell? ⟨gb314,1,none⟩ = some (.slice A0_1 l0_1.length c0_1):=blk_cell BK314.out 1;have hfz6_0:=blk_frozen BK314.out 0;have hfz6_1:=blk_frozen BK314.out 1));try go_wp2_with (first|((with_reducible refine gate_dst (N:=1) rfl ?_);refine box_event ?hg (N:=1) ?hd (cs:=#[.int .i64 a0_0,.slice A0_1 l0_1.length c0_1]) (t:=28) ?hr ?_;(case hd=>rfl);(case hg=>rfl);(case hr=>first|(go_simp;done)|(go_simp;rfl));intro gb314 hg w3 hbox hb;have BK314:=A_ (hbox);have GW314:=A_ ((by rw [hg];exact (below_size bb_) : w.heap.size ≤ gb314));have GE314:=A_ ((by rw [hg];exact (below_size bb_) : w.heap.size ≤ gb314));replace HB:=A_ (below_step bb_ hb);clear hb hbox hg;have hcz4_0 : w3.cell? ⟨gb314,0,none⟩ = some (.int .i64 a0_0):=blk_cell BK314.out 0;have hcz4_1 : w3.cell? ⟨gb314,1,none⟩ = some (.slice A0_1 l0_1.length c0_1):=blk_cell BK314.out 1;have hfz4_0:=blk_frozen BK314.out 0;have hfz4_1:=blk_frozen BK314.out 1)|(go_at_call 184;(with_reducible refine (impl_Order_indifferent.calls k a0_0 _ _ l0_1 t315 _ ?side1 ?side2 A2.out).mono ?_);(case side1=>exact cl_ (Kd.C_below HR0_1.out HB.out));(case side2=>exact HC0_1.out);rintro e w5 ⟨v316,rfl,ho0,hb⟩;have HO317:=A_ (Kd.R_lower ho0 (below_size bb_));replace BK314:=bz BK314 hb;replace HB:=A_ (below_step bb_ hb);(try clear hb);(try clear hb2);(try clear hk);(try clear hi);(try clear ho0);have hcz6_0 : w5.cell? ⟨gb314,0,none⟩ = some (.int .i64 a0_0):=blk_cell BK314.out 0;have hcz6_1 : w5.cell? ⟨gb314,1,none⟩ = some (.slice A0_1 l0_1.length c0_1):=blk_cell BK314.out 1;have hfz6_0:=blk_frozen BK314.out 0;have hfz6_1:=blk_frozen BK314.out 1)))
 go_loopg [14] k (fun kq v14 w'=>∃ (x14_1 : Int),v14 = .int .i64 x14_1 ∧ Aside0 (impl_Order_threeOne.l0 kq t315 a0_0 x14_1 a0_0 l0_1 = some r) ∧ Aside0 (kq ≤ k) ∧ Aside0 (Kd.R (Kd.int .i64) 3 w' w.heap.size (fun _=>True) v316 t315) ∧ Aside0 (w'.heap[gb314]? = some (.cells #[.int .i64 a0_0,(.slice A0_1 l0_1.length c0_1)] 28 (0,0))) ∧ Aside0 (Below w.heap.size w w'))
 case atStart=>exact ⟨(0),(by first|rfl|(simp;done)|(simp [*];done)),H',⟨Nat.le_refl _⟩,⟨by (with_reducible repeat (first|apply Kd.R_alloc|apply Kd.R_drewN|apply Kd.R_drew));exact HO317.out⟩,⟨bl_ BK314⟩,⟨bb_⟩⟩
 case round =>
  clear H';try clear c1
  try clear p2
  try clear hcz4_0
  try clear hcz4_1
  try clear hcz6_0
  try clear hcz6_1
  try clear hfz4_0
  try clear hfz4_1
  try clear hfz6_0
  try clear hfz6_1
  obtain ⟨x14_1,rfl,HA,HK1,HO_3,BK314,HB⟩:=hrel;cases gk with
  | zero => exact absurd HA.out (by simp [impl_Order_threeOne.l0])
  | succ k1 =>
   have H:=HA.out;clear HA;simp only [impl_Order_threeOne.l0] at H
   by_cases c7 : x14_1 < a0_0
   ·rw [if_pos c7] at H;have c7b0 : decide (x14_1 < a0_0) = true:=decide_eq_true c7;clear c7;by_cases c8 : 0 ≤ x14_1
    ·rw [if_pos c8] at H;have c8b0 : decide (0 ≤ x14_1) = true:=decide_eq_true c8;clear c8;by_cases c9 : x14_1 < (l0_1.length : Int)
     ·rw [if_pos c9] at H;have c9b0 : decide (x14_1 < (l0_1.length : Int)) = true:=decide_eq_true c9;clear c9;replace H:=Option.bind_eq_some_iff.mp H;obtain ⟨t319,A100,H⟩:=H;replace H : (impl_Order_threeOne.l1 k1 t315 x14_1 a0_0 x14_1 t319 (t319.length : Int) 0 a0_0 l0_1) = some r:=H;have A10:=A_ A100;clear A100;have H':=A_ H;clear H;have hcz11_0 : wr.cell? ⟨gb314,0,none⟩ = some (.int .i64 a0_0):=blk_cell BK314.out 0;have hcz11_1 : wr.cell? ⟨gb314,1,none⟩ = some (.slice A0_1 l0_1.length c0_1):=blk_cell BK314.out 1;have hfz11_0:=blk_frozen BK314.out 0;have hfz11_1:=blk_frozen BK314.out 1;have p318 : 0 ≤ (x14_1 : Int):=of_decide_eq_true (by first|(with_reducible assumption)|assumption);have q318 : x14_1 < (l0_1.length : Int):=of_decide_eq_true (by first|(with_reducible assumption)|assumption);obtain ⟨ad318,e318,hx318_0⟩:=Kd.at_int HR0_1.out x14_1 p318 q318;cases e318
      (try replace hx318_0:=(HB.out.cell (World.block_lt_of_cell? w _ hx318_0)).trans hx318_0);replace p318:=eq_true p318;replace q318:=eq_true q318;go_wp2_with (first|(go_at_call 124;(with_reducible refine (impl_members.calls k1 (rd l0_1 x14_1) t319 _ ?side1 A10.out).mono ?_);(case side1=>first|exact HT.out|exact HT.out.below bb_|(repeat (first|exact HT.out|apply TabOK.drewN|apply TabOK.drew|apply TabOK.alloc)));rintro e w12 ⟨v320,rfl,ho0,hb⟩;have HO321:=A_ (Kd.R_lower (Kd.R_new' ho0 (Kd.R_lt (rl_ HO_3))) (below_size bb_));replace HO_3:=A_ (Kd.R_elder' (rl_ HO_3) (Kd.R_base ho0) hb);replace BK314:=bz BK314 hb;replace HB:=A_ (below_step bb_ hb);(try clear hb);(try clear hb2);(try clear hk);(try clear hi);(try clear ho0);obtain ⟨Ao13,co13,eo13⟩:=Kd.R_slice HO321.out;subst eo13))
      repeat (go_quiet (first|(go_at_call 124;(with_reducible refine (impl_members.calls k1 (rd l0_1 x14_1) t319 _ ?side1 A10.out).mono ?_);(case side1=>first|exact HT.out|exact HT.out.below bb_|(repeat (first|exact HT.out|apply TabOK.drewN|apply TabOK.drew|apply TabOK.alloc)));rintro e w12 ⟨v320,rfl,ho0,hb⟩;have HO321:=A_ (Kd.R_lower (Kd.R_new' ho0 (Kd.R_lt (rl_ HO_3))) (below_size bb_));replace HO_3:=A_ (Kd.R_elder' (rl_ HO_3) (Kd.R_base ho0) hb);replace BK314:=bz BK314 hb;replace HB:=A_ (below_step bb_ hb);(try clear hb);(try clear hb2);(try clear hk);(try clear hi);(try clear ho0);obtain ⟨Ao13,co13,eo13⟩:=Kd.R_slice HO321.out;subst eo13));try go_wp2_with (first|(go_at_call 124;(with_reducible refine (impl_members.calls k1 (rd l0_1 x14_1) t319 _ ?side1 A10.out).mono ?_);(case side1=>first|exact HT.out|exact HT.out.below bb_|(repeat (first|exact HT.out|apply TabOK.drewN|apply TabOK.drew|apply TabOK.alloc)));rintro e w12 ⟨v320,rfl,ho0,hb⟩;have HO321:=A_ (Kd.R_lower (Kd.R_new' ho0 (Kd.R_lt (rl_ HO_3))) (below_size bb_));replace HO_3:=A_ (Kd.R_elder' (rl_ HO_3) (Kd.R_base ho0) hb);replace BK314:=bz BK314 hb;replace HB:=A_ (below_step bb_ hb);(try clear hb);(try clear hb2);(try clear hk);(try clear hi);(try clear ho0);obtain ⟨Ao13,co13,eo13⟩:=Kd.R_slice HO321.out;subst eo13)))
      go_loopg [24] k1 (fun kq v24 w'=>∃ (x24_2 : Int),v24 = .int .i64 x24_2 ∧ Aside0 (impl_Order_threeOne.l1 kq t315 x14_1 a0_0 x14_1 t319 (t319.length : Int) x24_2 a0_0 l0_1 = some r) ∧ Aside0 (kq ≤ k1) ∧ Aside0 (Kd.R (Kd.int .i64) 3 w' w.heap.size (fun k_=>some k_ ≠ ((.slice Ao13 t319.length co13) : Value).ownBlock) v316 t315) ∧ Aside0 (Kd.R (Kd.int .i64) 3 w' w.heap.size (fun k_=>some k_ ≠ (v316 : Value).ownBlock) (.slice Ao13 t319.length co13) t319) ∧ Aside0 (w'.heap[gb314]? = some (.cells #[.int .i64 a0_0,(.slice (some ad318) l0_1.length c0_1)] 28 (0,0))) ∧ Aside0 (Below w.heap.size w w'))
      case atStart=>exact ⟨(0),(by first|rfl|(simp;done)|(simp [*];done)),H',⟨Nat.le_refl _⟩,⟨by (with_reducible repeat (first|apply Kd.R_alloc|apply Kd.R_drewN|apply Kd.R_drew));exact Kd.R_mono HO_3.out (fun _ hk=>hk.2)⟩,⟨by (with_reducible repeat (first|apply Kd.R_alloc|apply Kd.R_drewN|apply Kd.R_drew));exact Kd.R_mono HO321.out (fun _ hk=>hk.2)⟩,⟨bl_ BK314⟩,⟨bb_⟩⟩
      case round =>
       clear H';try clear c1
       try clear p2
       try clear p3
       try clear q3
       try clear hx3
       try clear c7
       try clear c7b0
       try clear c8
       try clear c8b0
       try clear c9
       try clear c9b0
       try clear hcz11_0
       try clear hcz11_1
       try clear hcz4_0
       try clear hcz4_1
       try clear hcz6_0
       try clear hcz6_1
       try clear hfz11_0
       try clear hfz11_1
       try clear hfz4_0
       try clear hfz4_1
       try clear hfz6_0
       try clear hfz6_1
       try clear hx318_0
       try clear p2
       try clear p318
       try clear q318
       obtain ⟨x24_2,rfl,HA,HK2,HO_3,HO_22,BK314,HB⟩:=hrel;cases gk with
       | zero=>exact absurd HA.out (by simp [impl_Order_threeOne.l1])
       | succ k2 =>
        have H:=HA.out;clear HA;simp only [impl_Order_threeOne.l1] at H
        by_cases c14 : x24_2 < (t319.length : Int)
        ·rw [if_pos c14] at H;have c14b0 : decide (x24_2 < (t319.length : Int)) = true:=decide_eq_true c14;clear c14;by_cases c15 : 0 ≤ x24_2
         ·rw [if_pos c15] at H;have c15b0 : decide (0 ≤ x24_2) = true:=decide_eq_true c15;clear c15;by_cases c16 : x24_2 < (t319.length : Int)
          ·rw [if_pos c16] at H;have c16b0 : decide (x24_2 < (t319.length : Int)) = true:=decide_eq_true c16;clear c16;by_cases c17 : 0 ≤ (rd t319 x24_2)
           ·rw [if_pos c17] at H;have c17b0 : decide (0 ≤ (rd t319 x24_2)) = true:=decide_eq_true c17;clear c17;by_cases c18 : (rd t319 x24_2) < (l0_1.length : Int)
            ·rw [if_pos c18] at H;have c18b0 : decide ((rd t319 x24_2) < (l0_1.length : Int)) = true:=decide_eq_true c18;clear c18;replace H:=Option.bind_eq_some_iff.mp H;obtain ⟨t324,A190,H⟩:=H;replace H : (impl_Order_threeOne.l2 k2 t315 x14_1 (rd t319 x24_2) a0_0 x14_1 t319 (t319.length : Int) x24_2 t324 (t324.length : Int) 0 a0_0 l0_1) = some r:=H;have A19:=A_ A190;clear A190;have H':=A_ H;clear H;have p322 : 0 ≤ (x24_2 : Int):=of_decide_eq_true (by first|(with_reducible assumption)|assumption);have q322 : x24_2 < (t319.length : Int):=of_decide_eq_true (by first|(with_reducible assumption)|assumption);obtain ⟨ad322,e322,hx322_0⟩:=Kd.at_int (Kd.R_reads' HO_22.out).2.2 x24_2 p322 q322;cases e322
             replace p322:=eq_true p322;replace q322:=eq_true q322;have hcz20_0 : wr.cell? ⟨gb314,0,none⟩ = some (.int .i64 a0_0):=blk_cell BK314.out 0;have hcz20_1 : wr.cell? ⟨gb314,1,none⟩ = some (.slice (some ad318) l0_1.length c0_1):=blk_cell BK314.out 1;have hfz20_0:=blk_frozen BK314.out 0;have hfz20_1:=blk_frozen BK314.out 1;have p323 : 0 ≤ ((rd t319 x24_2) : Int):=of_decide_eq_true (by first|(with_reducible assumption)|assumption);have q323 : (rd t319 x24_2) < (l0_1.length : Int):=of_decide_eq_true (by first|(with_reducible assumption)|assumption);obtain ⟨ad323,e323,hx323_0⟩:=Kd.at_int HR0_1.out (rd t319 x24_2) p323 q323;obtain rfl : ad318 = ad323:=(by injection e323);(try replace hx323_0:=(HB.out.cell (World.block_lt_of_cell? w _ hx323_0)).trans hx323_0);replace p323:=eq_true p323;replace q323:=eq_true q323;go_wp2_with (first|(go_at_call 124;(with_reducible refine (impl_members.calls k2 (rd l0_1 (rd t319 x24_2)) t324 _ ?side1 A19.out).mono ?_);(case side1=>first|exact HT.out|exact HT.out.below bb_|(repeat (first|exact HT.out|apply TabOK.drewN|apply TabOK.drew|apply TabOK.alloc)));rintro e w21 ⟨v325,rfl,ho0,hb⟩;have HO326:=A_ (Kd.R_lower (Kd.R_new' (Kd.R_new' ho0 (Kd.R_lt (rl_ HO_3))) (Kd.R_lt (rl_ HO_22))) (below_size bb_));replace HO_3:=A_ (Kd.R_elder' (rl_ HO_3) (Kd.R_base ho0) hb);replace HO_22:=A_ (Kd.R_elder' (rl_ HO_22) (Kd.R_base ho0) hb);replace BK314:=bz BK314 hb;replace HB:=A_ (below_step bb_ hb);(try clear hb);(try clear hb2);(try clear hk);(try clear hi);(try clear ho0);obtain ⟨Ao22,co22,eo22⟩:=Kd.R_slice HO326.out;subst eo22))
             repeat (go_quiet (first|(go_at_call 124;(with_reducible refine (impl_members.calls k2 (rd l0_1 (rd t319 x24_2)) t324 _ ?side1 A19.out).mono ?_);(case side1=>first|exact HT.out|exact HT.out.below bb_|(repeat (first|exact HT.out|apply TabOK.drewN|apply TabOK.drew|apply TabOK.alloc)));rintro e w21 ⟨v325,rfl,ho0,hb⟩;have HO326:=A_ (Kd.R_lower (Kd.R_new' (Kd.R_new' ho0 (Kd.R_lt (rl_ HO_3))) (Kd.R_lt (rl_ HO_22))) (below_size bb_));replace HO_3:=A_ (Kd.R_elder' (rl_ HO_3) (Kd.R_base ho0) hb);replace HO_22:=A_ (Kd.R_elder' (rl_ HO_22) (Kd.R_base ho0) hb);replace BK314:=bz BK314 hb;replace HB:=A_ (below_step bb_ hb);(try clear hb);(try clear hb2);(try clear hk);(try clear hi);(try clear ho0);obtain ⟨Ao22,co22,eo22⟩:=Kd.R_slice HO326.out;subst eo22));try go_wp2_with (first|(go_at_call 124;(with_reducible refine (impl_members.calls k2 (rd l0_1 (rd t319 x24_2)) t324 _ ?side1 A19.out).mono ?_);(case side1=>first|exact HT.out|exact HT.out.below bb_|(repeat (first|exact HT.out|apply TabOK.drewN|apply TabOK.drew|apply TabOK.alloc)));rintro e w21 ⟨v325,rfl,ho0,hb⟩;have HO326:=A_ (Kd.R_lower (Kd.R_new' (Kd.R_new' ho0 (Kd.R_lt (rl_ HO_3))) (Kd.R_lt (rl_ HO_22))) (below_size bb_));replace HO_3:=A_ (Kd.R_elder' (rl_ HO_3) (Kd.R_base ho0) hb);replace HO_22:=A_ (Kd.R_elder' (rl_ HO_22) (Kd.R_base ho0) hb);replace BK314:=bz BK314 hb;replace HB:=A_ (below_step bb_ hb);(try clear hb);(try clear hb2);(try clear hk);(try clear hi);(try clear ho0);obtain ⟨Ao22,co22,eo22⟩:=Kd.R_slice HO326.out;subst eo22)))
             go_loopg [35] k2 (fun kq v35 w'=>∃ (x35_3 : Int),v35 = .int .i64 x35_3 ∧ Aside0 (impl_Order_threeOne.l2 kq t315 x14_1 (rd t319 x24_2) a0_0 x14_1 t319 (t319.length : Int) x24_2 t324 (t324.length : Int) x35_3 a0_0 l0_1 = some r) ∧ Aside0 (kq ≤ k2) ∧ Aside0 (Kd.R (Kd.int .i64) 3 w' w.heap.size (fun k_=>some k_ ≠ ((.slice (some ad322) t319.length co13) : Value).ownBlock ∧ some k_ ≠ ((.slice Ao22 t324.length co22) : Value).ownBlock) v316 t315) ∧ Aside0 (Kd.R (Kd.int .i64) 3 w' w.heap.size (fun k_=>some k_ ≠ (v316 : Value).ownBlock ∧ some k_ ≠ ((.slice Ao22 t324.length co22) : Value).ownBlock) (.slice (some ad322) t319.length co13) t319) ∧ Aside0 (Kd.R (Kd.int .i64) 3 w' w.heap.size (fun k_=>some k_ ≠ (v316 : Value).ownBlock ∧ some k_ ≠ ((.slice (some ad322) t319.length co13) : Value).ownBlock) (.slice Ao22 t324.length co22) t324) ∧ Aside0 (w'.heap[gb314]? = some (.cells #[.int .i64 a0_0,(.slice (some ad318) l0_1.length c0_1)] 28 (0,0))) ∧ Aside0 (Below w.heap.size w w'))
             case atStart=>exact ⟨(0),(by first|rfl|(simp;done)|(simp [*];done)),H',⟨Nat.le_refl _⟩,⟨by (with_reducible repeat (first|apply Kd.R_alloc|apply Kd.R_drewN|apply Kd.R_drew));exact HO_3.out⟩,⟨by (with_reducible repeat (first|apply Kd.R_alloc|apply Kd.R_drewN|apply Kd.R_drew));exact HO_22.out⟩,⟨by (with_reducible repeat (first|apply Kd.R_alloc|apply Kd.R_drewN|apply Kd.R_drew));exact Kd.R_mono HO326.out (fun _ hk=>⟨hk.1.2,hk.2⟩)⟩,⟨bl_ BK314⟩,⟨bb_⟩⟩
             case round =>
              clear H';try clear c1
              try clear p2
              try clear p3
              try clear q3
              try clear hx3
              try clear c7
              try clear c7b0
              try clear c8
              try clear c8b0
              try clear c9
              try clear c9b0
              try clear c14
              try clear c14b0
              try clear c15
              try clear c15b0
              try clear c16
              try clear c16b0
              try clear c17
              try clear c17b0
              try clear c18
              try clear c18b0
              try clear hcz11_0
              try clear hcz11_1
              try clear hcz20_0
              try clear hcz20_1
              try clear hcz4_0
              try clear hcz4_1
              try clear hcz6_0
              try clear hcz6_1
              try clear hfz11_0
              try clear hfz11_1
              try clear hfz20_0
              try clear hfz20_1
              try clear hfz4_0
              try clear hfz4_1
              try clear hfz6_0
              try clear hfz6_1
              try clear hx318_0
              try clear hx322_0
              try clear hx323_0
              try clear p2
              try clear p3
              try clear p318
              try clear p322
              try clear p323
              try clear q3
              try clear q318
              try clear q322
              try clear q323
              obtain ⟨x35_3,rfl,HA,HK3,HO_3,HO_22,HO_33,BK314,HB⟩:=hrel;cases gk with
              | zero=>exact absurd HA.out (by simp [impl_Order_threeOne.l2])
              | succ k3 =>
               have H:=HA.out;clear HA;simp only [impl_Order_threeOne.l2] at H
               by_cases c23 : x35_3 < (t324.length : Int)
               ·rw [if_pos c23] at H;have c23b0 : decide (x35_3 < (t324.length : Int)) = true:=decide_eq_true c23;clear c23;by_cases c24 : 0 ≤ x35_3
                ·rw [if_pos c24] at H;have c24b0 : decide (0 ≤ x35_3) = true:=decide_eq_true c24;clear c24;by_cases c25 : x35_3 < (t324.length : Int)
                 ·rw [if_pos c25] at H;have c25b0 : decide (x35_3 < (t324.length : Int)) = true:=decide_eq_true c25;clear c25;by_cases c26 : 0 ≤ x14_1
                  ·rw [if_pos c26] at H;have c26b0 : decide (0 ≤ x14_1) = true:=decide_eq_true c26;clear c26;by_cases c27 : x14_1 < (t315.length : Int)
                   ·rw [if_pos c27] at H;have c27b0 : decide (x14_1 < (t315.length : Int)) = true:=decide_eq_true c27;clear c27;by_cases c28 : 0 ≤ (rd t319 x24_2)
                    ·rw [if_pos c28] at H;have c28b0 : decide (0 ≤ (rd t319 x24_2)) = true:=decide_eq_true c28;clear c28;by_cases c29 : (rd t319 x24_2) < (t315.length : Int)
                     ·rw [if_pos c29] at H;have c29b0 : decide ((rd t319 x24_2) < (t315.length : Int)) = true:=decide_eq_true c29;clear c29;by_cases c30 : 0 ≤ (rd t324 x35_3)
                      ·rw [if_pos c30] at H;have c30b0 : decide (0 ≤ (rd t324 x35_3)) = true:=decide_eq_true c30;clear c30;by_cases c31 : (rd t324 x35_3) < (t315.length : Int)
                       ·rw [if_pos c31] at H;have c31b0 : decide ((rd t324 x35_3) < (t315.length : Int)) = true:=decide_eq_true c31;clear c31;by_cases c32 : (Go.bits .and .i64 (Go.bits .and .i64 (rd t315 x14_1) (rd t315 (rd t319 x24_2))) (rd t315 (rd t324 x35_3))) = 0
                        ·rw [if_pos c32] at H;have c32b0 : ((Go.bits .and .i64 (Go.bits .and .i64 (rd t315 x14_1) (rd t315 (rd t319 x24_2))) (rd t315 (rd t324 x35_3))) == 0) = true:=beq_iff_eq.mpr c32;have c32b1 : ((Go.bits .and .i64 (Go.bits .and .i64 (rd t315 x14_1) (rd t315 (rd t319 x24_2))) (rd t315 (rd t324 x35_3))) != 0) = false:=bne_eq_false_iff_eq.mpr c32;clear c32;have H':=A_ H;clear H;have p327 : 0 ≤ (x35_3 : Int):=of_decide_eq_true (by first|(with_reducible assumption)|assumption);have q327 : x35_3 < (t324.length : Int):=of_decide_eq_true (by first|(with_reducible assumption)|assumption);obtain ⟨ad327,e327,hx327_0⟩:=Kd.at_int (Kd.R_reads' HO_33.out).2.2 x35_3 p327 q327;cases e327
                         replace p327:=eq_true p327;replace q327:=eq_true q327;obtain ⟨Ao33,co33,eo33⟩:=Kd.R_slice HO_3.out;subst eo33;have p328 : 0 ≤ (x14_1 : Int):=of_decide_eq_true (by first|(with_reducible assumption)|assumption);have q328 : x14_1 < (t315.length : Int):=of_decide_eq_true (by first|(with_reducible assumption)|assumption);obtain ⟨ad328,e328,hx328_0⟩:=Kd.at_int (Kd.R_reads' HO_3.out).2.2 x14_1 p328 q328;cases e328
                         replace p328:=eq_true p328;replace q328:=eq_true q328;have p329 : 0 ≤ ((rd t319 x24_2) : Int):=of_decide_eq_true (by first|(with_reducible assumption)|assumption);have q329 : (rd t319 x24_2) < (t315.length : Int):=of_decide_eq_true (by first|(with_reducible assumption)|assumption);obtain ⟨ad329,e329,hx329_0⟩:=Kd.at_int (Kd.R_reads' HO_3.out).2.2 (rd t319 x24_2) p329 q329;obtain rfl : ad328 = ad329:=(by injection e329);replace p329:=eq_true p329;replace q329:=eq_true q329;have p330 : 0 ≤ ((rd t324 x35_3) : Int):=of_decide_eq_true (by first|(with_reducible assumption)|assumption);have q330 : (rd t324 x35_3) < (t315.length : Int):=of_decide_eq_true (by first|(with_reducible assumption)|assumption);obtain ⟨ad330,e330,hx330_0⟩:=Kd.at_int (Kd.R_reads' HO_3.out).2.2 (rd t324 x35_3) p330 q330;obtain rfl : ad328 = ad330:=(by injection e330);replace p330:=eq_true p330;replace q330:=eq_true q330;go_wp2
                         repeat (go_quiet (fail);try go_wp2)
                         go_roundg k3
                         case measure=>have:=HK1.out;have:=HK2.out;have:=HK3.out;omega
                         case rel=>exact ⟨(wrap64 (x35_3 + 1)),(by first|rfl|(simp;done)|(simp [*];done)),H',⟨by have:=HK1.out;have:=HK2.out;have:=HK3.out;omega⟩,⟨by (with_reducible repeat (first|apply Kd.R_alloc|apply Kd.R_drewN|apply Kd.R_drew));exact HO_3.out⟩,⟨by (with_reducible repeat (first|apply Kd.R_alloc|apply Kd.R_drewN|apply Kd.R_drew));exact HO_22.out⟩,⟨by (with_reducible repeat (first|apply Kd.R_alloc|apply Kd.R_drewN|apply Kd.R_drew));exact HO_33.out⟩,⟨bl_ BK314⟩,⟨bb_⟩⟩
                        ·rw [if_neg c32] at H;have c32b0 : ((Go.bits .and .i64 (Go.bits .and .i64 (rd t315 x14_1) (rd t315 (rd t319 x24_2))) (rd t315 (rd t324 x35_3))) == 0) = false:=beq_eq_false_iff_ne.mpr c32;have c32b1 : ((Go.bits .and .i64 (Go.bits .and .i64 (rd t315 x14_1) (rd t315 (rd t319 x24_2))) (rd t315 (rd t324 x35_3))) != 0) = true:=bne_iff_ne.mpr c32;replace H:=Option.bind_eq_some_iff.mp H;obtain ⟨t331,A340,H⟩:=H;replace H : (if 0 < (t331.length : Int) then (some (([x14_1,(rd t319 x24_2),rd t324 x35_3,rd t331 0] : List Int))) else (none)) = some r:=H;have A34:=A_ A340;clear A340;by_cases c35 : 0 < (t331.length : Int)
                         ·rw [if_pos c35] at H;have c35b0 : decide (0 < (t331.length : Int)) = true:=decide_eq_true c35;have c35b1 : decide (0 < t331.length) = true:=decide_eq_true (by omega);clear c35;obtain ⟨y335,hy335⟩ : ∃ y_ : List Int,y_ = (([x14_1,(rd t319 x24_2),rd t324 x35_3,rd t331 0] : List Int)):=⟨_,rfl⟩;replace H : (some y335) = some r:=by first|(rw [hy335];with_reducible exact H)|(have H2_:=(Option.bind_some _ _).symm.trans H;rw [hy335];with_reducible exact H2_)|(have H2_:=(Option.bind_some _ _).symm.trans H;with_reducible exact H2_)|with_reducible exact H|(rw [hy335];exact H)|exact H
                          have Ny335:=A_ hy335;clear hy335;obtain rfl:=Option.some.inj H;have p327 : 0 ≤ (x35_3 : Int):=of_decide_eq_true (by first|(with_reducible assumption)|assumption);have q327 : x35_3 < (t324.length : Int):=of_decide_eq_true (by first|(with_reducible assumption)|assumption);obtain ⟨ad327,e327,hx327_0⟩:=Kd.at_int (Kd.R_reads' HO_33.out).2.2 x35_3 p327 q327;cases e327
                          replace p327:=eq_true p327;replace q327:=eq_true q327;obtain ⟨Ao36,co36,eo36⟩:=Kd.R_slice HO_3.out;subst eo36;have p328 : 0 ≤ (x14_1 : Int):=of_decide_eq_true (by first|(with_reducible assumption)|assumption);have q328 : x14_1 < (t315.length : Int):=of_decide_eq_true (by first|(with_reducible assumption)|assumption);obtain ⟨ad328,e328,hx328_0⟩:=Kd.at_int (Kd.R_reads' HO_3.out).2.2 x14_1 p328 q328;cases e328
                          replace p328:=eq_true p328;replace q328:=eq_true q328;have p329 : 0 ≤ ((rd t319 x24_2) : Int):=of_decide_eq_true (by first|(with_reducible assumption)|assumption);have q329 : (rd t319 x24_2) < (t315.length : Int):=of_decide_eq_true (by first|(with_reducible assumption)|assumption);obtain ⟨ad329,e329,hx329_0⟩:=Kd.at_int (Kd.R_reads' HO_3.out).2.2 (rd t319 x24_2) p329 q329;obtain rfl : ad328 = ad329:=(by injection e329);replace p329:=eq_true p329;replace q329:=eq_true q329;have p330 : 0 ≤ ((rd t324 x35_3) : Int):=of_decide_eq_true (by first|(with_reducible assumption)|assumption);have q330 : (rd t324 x35_3) < (t315.length : Int):=of_decide_eq_true (by first|(with_reducible assumption)|assumption);obtain ⟨ad330,e330,hx330_0⟩:=Kd.at_int (Kd.R_reads' HO_3.out).2.2 (rd t324 x35_3) p330 q330;obtain rfl : ad328 = ad330:=(by injection e330);replace p330:=eq_true p330;replace q330:=eq_true q330;go_wp2_with (first|(go_at_call 124;(with_reducible refine (impl_members.calls k3 (Go.bits .and .i64 (Go.bits .and .i64 (rd t315 x14_1) (rd t315 (rd t319 x24_2))) (rd t315 (rd t324 x35_3))) t331 _ ?side1 A34.out).mono ?_);(case side1=>first|exact HT.out|exact HT.out.below bb_|(repeat (first|exact HT.out|apply TabOK.drewN|apply TabOK.drew|apply TabOK.alloc)));rintro e w37 ⟨v332,rfl,ho0,hb⟩;have HO333:=A_ (Kd.R_lower (Kd.R_new' (Kd.R_new' (Kd.R_new' ho0 (Kd.R_lt (rl_ HO_3))) (Kd.R_lt (rl_ HO_22))) (Kd.R_lt (rl_ HO_33))) (below_size bb_));replace HO_3:=A_ (Kd.R_elder' (rl_ HO_3) (Kd.R_base ho0) hb);replace HO_22:=A_ (Kd.R_elder' (rl_ HO_22) (Kd.R_base ho0) hb);replace HO_33:=A_ (Kd.R_elder' (rl_ HO_33) (Kd.R_base ho0) hb);replace BK314:=bz BK314 hb;replace HB:=A_ (below_step bb_ hb);(try clear hb);(try clear hb2);(try clear hk);(try clear hi);(try clear ho0);obtain ⟨Ao38,co38,eo38⟩:=Kd.R_slice HO333.out;subst eo38;have p334 : 0 ≤ (0 : Int):=(by omega);have q334 : 0 < (t331.length : Int):=of_decide_eq_true (by first|(with_reducible assumption)|assumption);obtain ⟨ad334,e334,hx334_0⟩:=Kd.at_int (Kd.R_reads' HO333.out).2.2 0 p334 q334;cases e334;have qi334 : (0 < t331.length) = True:=eq_true (by omega);(try rw [show ((0 : Int)).toNat = 0 from rfl] at hx334_0);(try rw [Addr.add_zero'] at hx334_0);replace p334:=eq_true p334;replace q334:=eq_true q334)|((with_reducible refine gate_dst (N:=62) rfl ?_);refine Kd.R_lit (Kd.int .i64) _ 3 ?hg (N:=62) ?hd (xs:=([x14_1,(rd t319 x24_2),rd t324 x35_3,rd t331 0] : List Int)) (inner:=[.int .i64 x14_1,.int .i64 (rd t319 x24_2),.int .i64 (rd t324 x35_3),.int .i64 (rd t331 0)]) (ok:=fun _=>True) (okp:=fun _=>True) ?hr ?hp (fun _ hk=>hk) trivial (Below.refl _ _) (Nat.le_refl _) (by simp) ?_;(case hd=>rfl);(case hg=>rfl);(case hr=>first|(go_simp;done)|(go_simp;rfl));(case hp=>exact (Reps.one (show Kd.M (Kd.int .i64) _ _ _ x14_1 [.int .i64 x14_1] from rfl) (Reps.one (show Kd.M (Kd.int .i64) _ _ _ (rd t319 x24_2) [.int .i64 (rd t319 x24_2)] from rfl) (Reps.one (show Kd.M (Kd.int .i64) _ _ _ (rd t324 x35_3) [.int .i64 (rd t324 x35_3)] from rfl) (Reps.one (show Kd.M (Kd.int .i64) _ _ _ (rd t331 0) [.int .i64 (rd t331 0)] from rfl) (Reps.none _ _))))));intro v336 w39 ho40 hb hg_ hnew_;clear hg_ hnew_;(first|rw [← Ny335.out] at ho40|(simp only [Int.reduceToNat] at ho40;rw [← Ny335.out] at ho40));have HO337:=A_ (Kd.R_lower (Kd.R_new' (Kd.R_new' (Kd.R_new' (Kd.R_new' ho40 (Kd.R_lt (rl_ HO_3))) (Kd.R_lt (rl_ HO_22))) (Kd.R_lt (rl_ HO_33))) (Kd.R_lt (rl_ HO333))) (below_size bb_));replace HO_3:=A_ (Kd.R_elder' (rl_ HO_3) (Kd.R_base ho40) hb);replace HO_22:=A_ (Kd.R_elder' (rl_ HO_22) (Kd.R_base ho40) hb);replace HO_33:=A_ (Kd.R_elder' (rl_ HO_33) (Kd.R_base ho40) hb);replace HO333:=A_ (Kd.R_elder' (rl_ HO333) (Kd.R_base ho40) hb);replace BK314:=bz BK314 hb;replace HB:=A_ (below_step bb_ hb);clear hb ho40))
                          repeat (go_quiet (first|(go_at_call 124;(with_reducible refine (impl_members.calls k3 (Go.bits .and .i64 (Go.bits .and .i64 (rd t315 x14_1) (rd t315 (rd t319 x24_2))) (rd t315 (rd t324 x35_3))) t331 _ ?side1 A34.out).mono ?_);(case side1=>first|exact HT.out|exact HT.out.below bb_|(repeat (first|exact HT.out|apply TabOK.drewN|apply TabOK.drew|apply TabOK.alloc)));rintro e w37 ⟨v332,rfl,ho0,hb⟩;have HO333:=A_ (Kd.R_lower (Kd.R_new' (Kd.R_new' (Kd.R_new' ho0 (Kd.R_lt (rl_ HO_3))) (Kd.R_lt (rl_ HO_22))) (Kd.R_lt (rl_ HO_33))) (below_size bb_));replace HO_3:=A_ (Kd.R_elder' (rl_ HO_3) (Kd.R_base ho0) hb);replace HO_22:=A_ (Kd.R_elder' (rl_ HO_22) (Kd.R_base ho0) hb);replace HO_33:=A_ (Kd.R_elder' (rl_ HO_33) (Kd.R_base ho0) hb);replace BK314:=bz BK314 hb;replace HB:=A_ (below_step bb_ hb);(try clear hb);(try clear hb2);(try clear hk);(try clear hi);(try clear ho0);obtain ⟨Ao38,co38,eo38⟩:=Kd.R_slice HO333.out;subst eo38;have p334 : 0 ≤ (0 : Int):=(by omega);have q334 : 0 < (t331.length : Int):=of_decide_eq_true (by first|(with_reducible assumption)|assumption);obtain ⟨ad334,e334,hx334_0⟩:=Kd.at_int (Kd.R_reads' HO333.out).2.2 0 p334 q334;cases e334;have qi334 : (0 < t331.length) = True:=eq_true (by omega);(try rw [show ((0 : Int)).toNat = 0 from rfl] at hx334_0);(try rw [Addr.add_zero'] at hx334_0);replace p334:=eq_true p334;replace q334:=eq_true q334)|((with_reducible refine gate_dst (N:=62) rfl ?_);refine Kd.R_lit (Kd.int .i64) _ 3 ?hg (N:=62) ?hd (xs:=([x14_1,(rd t319 x24_2),rd t324 x35_3,rd t331 0] : List Int)) (inner:=[.int .i64 x14_1,.int .i64 (rd t319 x24_2),.int .i64 (rd t324 x35_3),.int .i64 (rd t331 0)]) (ok:=fun _=>True) (okp:=fun _=>True) ?hr ?hp (fun _ hk=>hk) trivial (Below.refl _ _) (Nat.le_refl _) (by simp) ?_;(case hd=>rfl);(case hg=>rfl);(case hr=>first|(go_simp;done)|(go_simp;rfl));(case hp=>exact (Reps.one (show Kd.M (Kd.int .i64) _ _ _ x14_1 [.int .i64 x14_1] from rfl) (Reps.one (show Kd.M (Kd.int .i64) _ _ _ (rd t319 x24_2) [.int .i64 (rd t319 x24_2)] from rfl) (Reps.one (show Kd.M (Kd.int .i64) _ _ _ (rd t324 x35_3) [.int .i64 (rd t324 x35_3)] from rfl) (Reps.one (show Kd.M (Kd.int .i64) _ _ _ (rd t331 0) [.int .i64 (rd t331 0)] from rfl) (Reps.none _ _))))));intro v336 w39 ho40 hb hg_ hnew_;clear hg_ hnew_;(first|rw [← Ny335.out] at ho40|(simp only [Int.reduceToNat] at ho40;rw [← Ny335.out] at ho40));have HO337:=A_ (Kd.R_lower (Kd.R_new' (Kd.R_new' (Kd.R_new' (Kd.R_new' ho40 (Kd.R_lt (rl_ HO_3))) (Kd.R_lt (rl_ HO_22))) (Kd.R_lt (rl_ HO_33))) (Kd.R_lt (rl_ HO333))) (below_size bb_));replace HO_3:=A_ (Kd.R_elder' (rl_ HO_3) (Kd.R_base ho40) hb);replace HO_22:=A_ (Kd.R_elder' (rl_ HO_22) (Kd.R_base ho40) hb);replace HO_33:=A_ (Kd.R_elder' (rl_ HO_33) (Kd.R_base ho40) hb);replace HO333:=A_ (Kd.R_elder' (rl_ HO333) (Kd.R_base ho40) hb);replace BK314:=bz BK314 hb;replace HB:=A_ (below_step bb_ hb);clear hb ho40));try go_wp2_with (first|(go_at_call 124;(with_reducible refine (impl_members.calls k3 (Go.bits .and .i64 (Go.bits .and .i64 (rd t315 x14_1) (rd t315 (rd t319 x24_2))) (rd t315 (rd t324 x35_3))) t331 _ ?side1 A34.out).mono ?_);(case side1=>first|exact HT.out|exact HT.out.below bb_|(repeat (first|exact HT.out|apply TabOK.drewN|apply TabOK.drew|apply TabOK.alloc)));rintro e w37 ⟨v332,rfl,ho0,hb⟩;have HO333:=A_ (Kd.R_lower (Kd.R_new' (Kd.R_new' (Kd.R_new' ho0 (Kd.R_lt (rl_ HO_3))) (Kd.R_lt (rl_ HO_22))) (Kd.R_lt (rl_ HO_33))) (below_size bb_));replace HO_3:=A_ (Kd.R_elder' (rl_ HO_3) (Kd.R_base ho0) hb);replace HO_22:=A_ (Kd.R_elder' (rl_ HO_22) (Kd.R_base ho0) hb);replace HO_33:=A_ (Kd.R_elder' (rl_ HO_33) (Kd.R_base ho0) hb);replace BK314:=bz BK314 hb;replace HB:=A_ (below_step bb_ hb);(try clear hb);(try clear hb2);(try clear hk);(try clear hi);(try clear ho0);obtain ⟨Ao38,co38,eo38⟩:=Kd.R_slice HO333.out;subst eo38;have p334 : 0 ≤ (0 : Int):=(by omega);have q334 : 0 < (t331.length : Int):=of_decide_eq_true (by first|(with_reducible assumption)|assumption);obtain ⟨ad334,e334,hx334_0⟩:=Kd.at_int (Kd.R_reads' HO333.out).2.2 0 p334 q334;cases e334;have qi334 : (0 < t331.length) = True:=eq_true (by omega);(try rw [show ((0 : Int)).toNat = 0 from rfl] at hx334_0);(try rw [Addr.add_zero'] at hx334_0);replace p334:=eq_true p334;replace q334:=eq_true q334)|((with_reducible refine gate_dst (N:=62) rfl ?_);refine Kd.R_lit (Kd.int .i64) _ 3 ?hg (N:=62) ?hd (xs:=([x14_1,(rd t319 x24_2),rd t324 x35_3,rd t331 0] : List Int)) (inner:=[.int .i64 x14_1,.int .i64 (rd t319 x24_2),.int .i64 (rd t324 x35_3),.int .i64 (rd t331 0)]) (ok:=fun _=>True) (okp:=fun _=>True) ?hr ?hp (fun _ hk=>hk) trivial (Below.refl _ _) (Nat.le_refl _) (by simp) ?_;(case hd=>rfl);(case hg=>rfl);(case hr=>first|(go_simp;done)|(go_simp;rfl));(case hp=>exact (Reps.one (show Kd.M (Kd.int .i64) _ _ _ x14_1 [.int .i64 x14_1] from rfl) (Reps.one (show Kd.M (Kd.int .i64) _ _ _ (rd t319 x24_2) [.int .i64 (rd t319 x24_2)] from rfl) (Reps.one (show Kd.M (Kd.int .i64) _ _ _ (rd t324 x35_3) [.int .i64 (rd t324 x35_3)] from rfl) (Reps.one (show Kd.M (Kd.int .i64) _ _ _ (rd t331 0) [.int .i64 (rd t331 0)] from rfl) (Reps.none _ _))))));intro v336 w39 ho40 hb hg_ hnew_;clear hg_ hnew_;(first|rw [← Ny335.out] at ho40|(simp only [Int.reduceToNat] at ho40;rw [← Ny335.out] at ho40));have HO337:=A_ (Kd.R_lower (Kd.R_new' (Kd.R_new' (Kd.R_new' (Kd.R_new' ho40 (Kd.R_lt (rl_ HO_3))) (Kd.R_lt (rl_ HO_22))) (Kd.R_lt (rl_ HO_33))) (Kd.R_lt (rl_ HO333))) (below_size bb_));replace HO_3:=A_ (Kd.R_elder' (rl_ HO_3) (Kd.R_base ho40) hb);replace HO_22:=A_ (Kd.R_elder' (rl_ HO_22) (Kd.R_base ho40) hb);replace HO_33:=A_ (Kd.R_elder' (rl_ HO_33) (Kd.R_base ho40) hb);replace HO333:=A_ (Kd.R_elder' (rl_ HO333) (Kd.R_base ho40) hb);replace BK314:=bz BK314 hb;replace HB:=A_ (below_step bb_ hb);clear hb ho40)))
                          go_ret
                          exact ⟨_,by first|rfl|(simp [errW_none,errW_some] <;> rfl)|(simp [*,errW_none,errW_some] <;> rfl),by (with_reducible repeat (first|apply Kd.R_alloc|apply Kd.R_drewN|apply Kd.R_drew));exact Kd.R_mono HO337.out (fun _ hk=>trivial),bb_,by first|trivial|rfl|(intro he_;first|rfl|(rw [Ny335.out] at he_;cases he_)|(cases he_))⟩
                         ·rw [if_neg c35] at H;exact absurd H (by simp)
                       ·rw [if_neg c31] at H;exact absurd H (by simp)
                      ·rw [if_neg c30] at H;exact absurd H (by simp)
                     ·rw [if_neg c29] at H;exact absurd H (by simp)
                    ·rw [if_neg c28] at H;exact absurd H (by simp)
                   ·rw [if_neg c27] at H;exact absurd H (by simp)
                  ·rw [if_neg c26] at H;exact absurd H (by simp)
                 ·rw [if_neg c25] at H;exact absurd H (by simp)
                ·rw [if_neg c24] at H;exact absurd H (by simp)
               ·rw [if_neg c23] at H;have c23b0 : decide (x35_3 < (t324.length : Int)) = false:=decide_eq_false c23;clear c23;have H':=A_ H;clear H;go_wp2
                repeat (go_quiet (fail);try go_wp2)
                go_roundg k3
                case measure=>have:=HK1.out;have:=HK2.out;have:=HK3.out;omega
                case rel=>exact ⟨(wrap64 (x24_2 + 1)),(by first|rfl|(simp;done)|(simp [*];done)),H',⟨by have:=HK1.out;have:=HK2.out;have:=HK3.out;omega⟩,⟨by (with_reducible repeat (first|apply Kd.R_alloc|apply Kd.R_drewN|apply Kd.R_drew));exact Kd.R_mono HO_3.out (fun _ hk=>hk.1)⟩,⟨by (with_reducible repeat (first|apply Kd.R_alloc|apply Kd.R_drewN|apply Kd.R_drew));exact Kd.R_mono HO_22.out (fun _ hk=>hk.1)⟩,⟨bl_ BK314⟩,⟨bb_⟩⟩
            ·rw [if_neg c18] at H;exact absurd H (by simp)
           ·rw [if_neg c17] at H;exact absurd H (by simp)
          ·rw [if_neg c16] at H;exact absurd H (by simp)
         ·rw [if_neg c15] at H;exact absurd H (by simp)
        ·rw [if_neg c14] at H;have c14b0 : decide (x24_2 < (t319.length : Int)) = false:=decide_eq_false c14;clear c14;have H':=A_ H;clear H;go_wp2
         repeat (go_quiet (fail);try go_wp2)
         go_roundg k2
         case measure=>have:=HK1.out;have:=HK2.out;omega
         case rel=>exact ⟨(wrap64 (x14_1 + 1)),(by first|rfl|(simp;done)|(simp [*];done)),H',⟨by have:=HK1.out;have:=HK2.out;omega⟩,⟨by (with_reducible repeat (first|apply Kd.R_alloc|apply Kd.R_drewN|apply Kd.R_drew));exact Kd.R_mono HO_3.out (fun _ hk=>trivial)⟩,⟨bl_ BK314⟩,⟨bb_⟩⟩
     ·rw [if_neg c9] at H;exact absurd H (by simp)
    ·rw [if_neg c8] at H;exact absurd H (by simp)
   ·rw [if_neg c7] at H;have c7b0 : decide (x14_1 < a0_0) = false:=decide_eq_false c7;clear c7;obtain rfl:=Option.some.inj H;go_wp2
    repeat (go_quiet (fail);try go_wp2)
    go_ret
    exact ⟨_,by first|rfl|(simp [errW_none,errW_some] <;> rfl)|(simp [*,errW_none,errW_some] <;> rfl),by first|exact Kd.R_nil _ _ _ _ _|exact Kd.N_nil _ _ _ _ _|exact Kd.V_nil _ _ _ _ _|exact Kd.Q_nil _ _ _ _ _|exact Kd.S_nil _ _ _ _ _,bb_,by first|trivial|rfl|(intro he_;first|rfl|(rw [Ny335.out] at he_;cases he_)|(cases he_))⟩
end Go.Proofs.YtimjblnglhmakaaDoor.P
namespace Go.Proofs.YtimjblnglhmakaaDoor.P
open Go.RowKit Go.Proofs.YtimjblnglhmakaaDoorW.PrintWords Go.Proofs.YtimjblnglhmakaaDoorW.PrintLast Go.Proofs.YtimjblnglhmakaaDoorW.PrintMore
open Bool renaming true → T, false → F
open List renaming setIfInBounds_toArray → L_, set_cons_zero → M_, set_cons_succ → N_, map_toArray → P_, map_cons → Q_, map_nil → R_, length_drop → S_, length_take → U_
open Aside0 renaming mk → A_
attribute [local go_sem] max2_int min2_int max_two min_two max_three min_three max_four min_four
set_option linter.unusedVariables false
set_option linter.unusedSimpArgs false
attribute [local go_sem] fldOrder_0 fldOrder_1
theorem impl_isSemi.nilAt {P : Program} (w : World) (d : Nat) (t e : TypeId) (a : Option Addr) (l c : Nat) (h : P.underlying t = some (.slice e)) : (Op.equalIn (d + 1) t (.slice a l c) (.slice none 0 0)).run P w = .ok a.isNone w:=by
 cases a <;> simp [Op.equalIn,run_underlying h]
theorem impl_isSemi.nilOf {P : Program} (w : World) (t e : TypeId) (a : Option Addr) (l c : Nat) (h : P.underlying t = some (.slice e)) : (binOp .eql t (.slice a l c) (.slice none 0 0)).run P w = .ok (.bool a.isNone) w:=by
 have h1 : (Op.equal t (.slice a l c) (.slice none 0 0)).run P w = .ok a.isNone w:=impl_isSemi.nilAt w 9999 t e a l c h;simp [binOp,h1]
theorem impl_isSemi.nilNo {P : Program} (w : World) (t e : TypeId) (a : Option Addr) (l c : Nat) (h : P.underlying t = some (.slice e)) : (binOp .neq t (.slice a l c) (.slice none 0 0)).run P w = .ok (.bool (!a.isNone)) w:=by
 have h1 : (Op.equal t (.slice a l c) (.slice none 0 0)).run P w = .ok a.isNone w:=impl_isSemi.nilAt w 9999 t e a l c h;simp [binOp,h1]
theorem impl_isSemi.nilE (w : World) (a : Option Addr) (l c : Nat) : (binOp .eql 22 (.slice a l c) (.slice none 0 0)).run Tryd.prog w = .ok (.bool a.isNone) w:=impl_isSemi.nilOf w _ _ a l c Tryd.underlying22
theorem impl_isSemi.nilN (w : World) (a : Option Addr) (l c : Nat) : (binOp .neq 22 (.slice a l c) (.slice none 0 0)).run Tryd.prog w = .ok (.bool (!a.isNone)) w:=impl_isSemi.nilNo w _ _ a l c Tryd.underlying22
theorem impl_isSemi.nilFact {w : World} {base e : Nat} {ok : Nat → Prop} {A : Option Addr} {n c : Nat} {xs : List Int} (h : Kd.R (Kd.int .i64) e w base ok (.slice A n c) xs) (hz : xs = [] → (.slice A n c : Value) = .slice none 0 0) : A.isNone = (xs == ([] : List Int)):=by
 by_cases hx : xs = []
 ·have:=hz hx;injection this with h1;rw [h1,hx];rfl
 ·obtain ⟨hn,_,hC⟩:=Kd.R_reads' h;have hpos : 0 < xs.length:=List.length_pos_iff.2 hx;obtain ⟨ad,e1,_⟩:=hC.2.2 hpos;rw [e1];cases xs with
  | nil => exact absurd rfl hx
  | cons x l => rfl
attribute [local go_sem] impl_isSemi.nilE impl_isSemi.nilN
def impl_isSemi.f (k : Nat) (a0_0 : Int) (l0_1 : List Int) : Option (Bool) := (impl_isInterval.f k a0_0 l0_1).bind fun t339 => (if t339 = true then ((impl_Order_threeOne.f k a0_0 l0_1).bind fun t340 => (some (t340 == ([] : List Int)))) else (some false))
set_option maxHeartbeats 8000000 in
set_option maxRecDepth 100000 in
theorem impl_isSemi.calls (k : Nat) (a0_0 : Int) (A0_1 : Option Addr) (c0_1 : Nat) (l0_1 : List Int) (r : Bool) (w : World) (hr0_1 : Kd.C (Kd.int .i64) w A0_1 l0_1.length l0_1) (hc0_1 : l0_1.length ≤ c0_1) (hT : TabOK w) (h : impl_isSemi.f k a0_0 l0_1 = some r) :
 Calls Tryd.prog 108 #[.agg #[.int .i64 a0_0,.slice A0_1 l0_1.length c0_1]] w fun e w'=>e = .returned (.bool r) ∧ Below w.heap.size w w':=by
 have hu28:=Tryd.underlying28;have HT:=A_ hT;clear hT;have HR0_1:=A_ hr0_1;have HC0_1:=A_ hc0_1;clear hr0_1 hc0_1;have HB:=A_ (Below.refl w.heap.size w);have H : ((impl_isInterval.f k a0_0 l0_1).bind fun t339=>(if t339 = true then ((impl_Order_threeOne.f k a0_0 l0_1).bind fun t340=>(some (t340 == ([] : List Int)))) else (some false))) = some r:=h;clear h;replace H:=Option.bind_eq_some_iff.mp H;obtain ⟨t339,A20,H⟩:=H;replace H : (if t339 = true then ((impl_Order_threeOne.f k a0_0 l0_1).bind fun t340=>(some (t340 == ([] : List Int)))) else (some false)) = some r:=H;have A2:=A_ A20;clear A20;by_cases c3 : t339 = true
 ·subst c3;have H1 : ((impl_Order_threeOne.f k a0_0 l0_1).bind fun t340=>(some (t340 == ([] : List Int)))) = some r:=by rw [if_pos rfl] at H;exact H
  clear H;have H:=H1;clear H1;replace H:=Option.bind_eq_some_iff.mp H;obtain ⟨t340,A40,H⟩:=H;replace H : (some (t340 == ([] : List Int))) = some r:=H;have A4:=A_ A40;clear A40;obtain rfl:=Option.some.inj H;go_enter Tryd.func108,Tryd.ntmps108
  go_wp2_with (first|((with_reducible refine gate_dst (N:=1) rfl ?_);refine box_event ?hg (N:=1) ?hd (cs:=#[.int .i64 a0_0,.slice A0_1 l0_1.length c0_1]) (t:=28) ?hr ?_;(case hd=>rfl);(case hg=>rfl);(case hr=>first|(go_simp;done)|(go_simp;rfl));intro gb338 hg w5 hbox hb;have BK338:=A_ (hbox);have GW338:=A_ ((by rw [hg];exact (below_size bb_) : w.heap.size ≤ gb338));have GE338:=A_ ((by rw [hg];exact (below_size bb_) : w.heap.size ≤ gb338));replace HB:=A_ (below_step bb_ hb);clear hb hbox hg;have hcz6_0 : w5.cell? ⟨gb338,0,none⟩ = some (.int .i64 a0_0):=blk_cell BK338.out 0;have hcz6_1 : w5.cell? ⟨gb338,1,none⟩ = some (.slice A0_1 l0_1.length c0_1):=blk_cell BK338.out 1;have hfz6_0:=blk_frozen BK338.out 0;have hfz6_1:=blk_frozen BK338.out 1)|((with_reducible refine gate_callee (f:=134) rfl ?_);refine goesL_ (some 4) rfl rfl Tryd.func134 (by kernel_rfl) rfl #[.agg #[.int .i64 a0_0,.slice A0_1 l0_1.length c0_1]] rfl au_ ?_;(with_reducible refine (impl_isInterval.calls k a0_0 _ _ l0_1 true _ ?side1 ?side2 ?side3 A2.out).mono ?_);(case side1=>exact cl_ (Kd.C_below HR0_1.out HB.out));(case side2=>exact HC0_1.out);(case side3=>first|exact HT.out|exact HT.out.below bb_|(repeat (first|exact HT.out|apply TabOK.drewN|apply TabOK.drew|apply TabOK.alloc)));rintro e w7 ⟨rfl,hb⟩;refine ⟨_,rfl,?_⟩;replace BK338:=bz BK338 hb;replace HB:=A_ (below_step bb_ hb);(try clear hb);(try clear hb2);(try clear hk);(try clear hi);have hcz8_0 : w7.cell? ⟨gb338,0,none⟩ = some (.int .i64 a0_0):=blk_cell BK338.out 0;have hcz8_1 : w7.cell? ⟨gb338,1,none⟩ = some (.slice A0_1 l0_1.length c0_1):=blk_cell BK338.out 1;have hfz8_0:=blk_frozen BK338.out 0;have hfz8_1:=blk_frozen BK338.out 1)|(go_at_call 188;(with_reducible refine (impl_Order_threeOne.calls k a0_0 _ _ l0_1 t340 _ ?side1 ?side2 ?side3 A4.out).mono ?_);(case side1=>exact cl_ (Kd.C_below HR0_1.out HB.out));(case side2=>exact HC0_1.out);(case side3=>first|exact HT.out|exact HT.out.below bb_|(repeat (first|exact HT.out|apply TabOK.drewN|apply TabOK.drew|apply TabOK.alloc)));rintro e w9 ⟨v341,rfl,ho0,hb,hz_⟩;have HO342:=A_ (Kd.R_lower ho0 (below_size bb_));replace BK338:=bz BK338 hb;replace HB:=A_ (below_step bb_ hb);(try clear hb);(try clear hb2);(try clear hk);(try clear hi);(try clear ho0);obtain ⟨Ao10,co10,eo10⟩:=Kd.R_slice HO342.out;subst eo10;(try have hnl10:=impl_isSemi.nilFact HO342.out hz_);(try clear hz_)))
  go_ret
  exact ⟨by first|rfl|(rw [hnl10] <;> rfl)|(simp [*,errW_none,errW_some] <;> exact ⟨rfl,impl_isSemi.nilB _⟩)|(simp [errW_none,errW_some] <;> rfl)|(simp [*,errW_none,errW_some] <;> rfl),bb_⟩
 ·replace c3:=Bool.eq_false_iff.mpr c3;subst c3;have H1 : (some false) = some r:=by rw [if_neg (show ¬ (false = true) by decide)] at H;exact H
  clear H;have H:=H1;clear H1;obtain rfl:=Option.some.inj H;go_enter Tryd.func108,Tryd.ntmps108
  go_wp2_with (first|((with_reducible refine gate_dst (N:=1) rfl ?_);refine box_event ?hg (N:=1) ?hd (cs:=#[.int .i64 a0_0,.slice A0_1 l0_1.length c0_1]) (t:=28) ?hr ?_;(case hd=>rfl);(case hg=>rfl);(case hr=>first|(go_simp;done)|(go_simp;rfl));intro gb338 hg w11 hbox hb;have BK338:=A_ (hbox);have GW338:=A_ ((by rw [hg];exact (below_size bb_) : w.heap.size ≤ gb338));have GE338:=A_ ((by rw [hg];exact (below_size bb_) : w.heap.size ≤ gb338));replace HB:=A_ (below_step bb_ hb);clear hb hbox hg;have hcz12_0 : w11.cell? ⟨gb338,0,none⟩ = some (.int .i64 a0_0):=blk_cell BK338.out 0;have hcz12_1 : w11.cell? ⟨gb338,1,none⟩ = some (.slice A0_1 l0_1.length c0_1):=blk_cell BK338.out 1;have hfz12_0:=blk_frozen BK338.out 0;have hfz12_1:=blk_frozen BK338.out 1)|((with_reducible refine gate_callee (f:=134) rfl ?_);refine goesL_ (some 4) rfl rfl Tryd.func134 (by kernel_rfl) rfl #[.agg #[.int .i64 a0_0,.slice A0_1 l0_1.length c0_1]] rfl au_ ?_;(with_reducible refine (impl_isInterval.calls k a0_0 _ _ l0_1 false _ ?side1 ?side2 ?side3 A2.out).mono ?_);(case side1=>exact cl_ (Kd.C_below HR0_1.out HB.out));(case side2=>exact HC0_1.out);(case side3=>first|exact HT.out|exact HT.out.below bb_|(repeat (first|exact HT.out|apply TabOK.drewN|apply TabOK.drew|apply TabOK.alloc)));rintro e w13 ⟨rfl,hb⟩;refine ⟨_,rfl,?_⟩;replace BK338:=bz BK338 hb;replace HB:=A_ (below_step bb_ hb);(try clear hb);(try clear hb2);(try clear hk);(try clear hi)))
  go_ret
  exact ⟨by first|rfl|(rw [hnl10] <;> rfl)|(simp [*,errW_none,errW_some] <;> exact ⟨rfl,impl_isSemi.nilB _⟩)|(simp [errW_none,errW_some] <;> rfl)|(simp [*,errW_none,errW_some] <;> rfl),bb_⟩
end Go.Proofs.YtimjblnglhmakaaDoor.P
namespace Go.Proofs.YtimjblnglhmakaaDoor.HD
open Go.RowKit Go.Shelf Go.Maps Go.Sort Go.Proofs.YtimjblnglhmakaaDoorW.PrintMore Go.Proofs.YtimjblnglhmakaaDoorW.PrintLast Go.Proofs.YtimjblnglhmakaaDoorW.PrintWords
attribute [local go_sem] Oper.semAt_some
def sortL_ren : Go.Shelf.Ren := ⟨fun | 5 => 190 | 8 => 232 | 7 => 231 | 19 => 264 | 20 => 265 | 10 => 256 | 11 => 257 | 12 => 258 | 13 => 259 | 14 => 260 | 15 => 261 | 16 => 251 | 17 => 262 | 18 => 263 | 30 => 280 | 31 => 281 | 32 => 282 | 33 => 283 | 34 => 284 | 35 => 279 | 40 => 299 | n => n, fun | 23 => 22 | 25 => 3 | 3 => 3 | 32 => 126 | 22 => 22 | 0 => 0 | 44 => 145 | 46 => 101 | 4 => 4 | 36 => 157 | 35 => 156 | 41 => 50 | 5 => 5 | 9 => 9 | 53 => 173 | 57 => 177 | 63 => 196 | 64 => 68 | n => n, fun | n => n⟩
theorem sortL : Go.Proofs.SlLaysM.n5 Tryd.prog sortL_ren := {
  mixed := by kernel_rfl,
  f5 := ⟨Tryd.f190.name, by decide, Tryd.func190.trans (congrArg some (by kernel_rfl))⟩,
  f7 := ⟨Tryd.f231.name, by decide, Tryd.func231.trans (congrArg some (by kernel_rfl))⟩,
  f8 := Tryd.func232.trans (congrArg some (by kernel_rfl)),
  f10 := ⟨Tryd.f256.name, by decide, Tryd.func256.trans (congrArg some (by kernel_rfl))⟩,
  f11 := ⟨Tryd.f257.name, by decide, Tryd.func257.trans (congrArg some (by kernel_rfl))⟩,
  f12 := ⟨Tryd.f258.name, by decide, Tryd.func258.trans (congrArg some (by kernel_rfl))⟩,
  f13 := ⟨Tryd.f259.name, by decide, Tryd.func259.trans (congrArg some (by kernel_rfl))⟩,
  f14 := ⟨Tryd.f260.name, by decide, Tryd.func260.trans (congrArg some (by kernel_rfl))⟩,
  f15 := ⟨Tryd.f261.name, by decide, Tryd.func261.trans (congrArg some (by kernel_rfl))⟩,
  f16 := ⟨Tryd.f251.name, by decide, Tryd.func251.trans (congrArg some (by kernel_rfl))⟩,
  f17 := ⟨Tryd.f262.name, by decide, Tryd.func262.trans (congrArg some (by kernel_rfl))⟩,
  f18 := ⟨Tryd.f263.name, by decide, Tryd.func263.trans (congrArg some (by kernel_rfl))⟩,
  f19 := Tryd.func264.trans (congrArg some (by kernel_rfl)),
  f20 := Tryd.func265.trans (congrArg some (by kernel_rfl)),
  f30 := ⟨Tryd.f280.name, by decide, Tryd.func280.trans (congrArg some (by kernel_rfl))⟩,
  f31 := Tryd.func281.trans (congrArg some (by kernel_rfl)),
  f32 := Tryd.func282.trans (congrArg some (by kernel_rfl)),
  f33 := ⟨Tryd.f283.name, by decide, Tryd.func283.trans (congrArg some (by kernel_rfl))⟩,
  f34 := ⟨Tryd.f284.name, by decide, Tryd.func284.trans (congrArg some (by kernel_rfl))⟩,
  f35 := ⟨Tryd.f279.name, by decide, Tryd.func279.trans (congrArg some (by kernel_rfl))⟩,
  f40 := ⟨Tryd.f299.name, by decide, Tryd.func299.trans (congrArg some (by kernel_rfl))⟩,
  t0 := Tryd.underlying0,
  a0 := Tryd.isAgg0,
  z0 := Tryd.sizeOf0,
  v0 := Tryd.zeroValue0,
  t3 := Tryd.underlying3,
  a3 := Tryd.isAgg3,
  z3 := Tryd.sizeOf3,
  v3 := Tryd.zeroValue3,
  t4 := Tryd.underlying4,
  a4 := Tryd.isAgg4,
  z4 := Tryd.sizeOf4,
  v4 := Tryd.zeroValue4,
  t5 := Tryd.underlying5,
  a5 := Tryd.isAgg5,
  z5 := Tryd.sizeOf5,
  v5 := Tryd.zeroValue5,
  t9 := Tryd.underlying9,
  a9 := Tryd.isAgg9,
  z9 := Tryd.sizeOf9,
  v9 := Tryd.zeroValue9,
  t22 := Tryd.underlying22,
  a22 := Tryd.isAgg22,
  z22 := Tryd.sizeOf22,
  v22 := Tryd.zeroValue22,
  t23 := Tryd.underlying22,
  a23 := Tryd.isAgg22,
  z23 := Tryd.sizeOf22,
  v23 := Tryd.zeroValue22,
  t25 := Tryd.underlying3,
  a25 := Tryd.isAgg3,
  z25 := Tryd.sizeOf3,
  v25 := Tryd.zeroValue3,
  t32 := Tryd.underlying126,
  a32 := Tryd.isAgg126,
  z32 := Tryd.sizeOf126,
  v32 := Tryd.zeroValue126,
  t35 := Tryd.underlying156,
  a35 := Tryd.isAgg156,
  z35 := Tryd.sizeOf156,
  v35 := Tryd.zeroValue156,
  t36 := Tryd.underlying157,
  a36 := Tryd.isAgg157,
  z36 := Tryd.sizeOf157,
  v36 := Tryd.zeroValue157,
  t41 := Tryd.underlying50,
  a41 := Tryd.isAgg50,
  z41 := Tryd.sizeOf50,
  v41 := Tryd.zeroValue50,
  t44 := Tryd.underlying145,
  a44 := Tryd.isAgg145,
  z44 := Tryd.sizeOf145,
  v44 := Tryd.zeroValue145,
  t46 := Tryd.underlying101,
  a46 := Tryd.isAgg101,
  z46 := Tryd.sizeOf101,
  v46 := Tryd.zeroValue101,
  t53 := Tryd.underlying173,
  a53 := Tryd.isAgg173,
  z53 := Tryd.sizeOf173,
  v53 := Tryd.zeroValue173,
  t57 := Tryd.underlying177,
  a57 := Tryd.isAgg177,
  z57 := Tryd.sizeOf177,
  v57 := Tryd.zeroValue177,
  t63 := Tryd.underlying196,
  a63 := Tryd.isAgg196,
  z63 := Tryd.sizeOf196,
  v63 := Tryd.zeroValue196,
  t64 := Tryd.underlying68,
  a64 := Tryd.isAgg68,
  z64 := Tryd.sizeOf68,
  v64 := Tryd.zeroValue68 }
def srt (l : List Int) : List Int := l.mergeSort fun x y => decide (x ≤ y)
theorem ownsRow_some {w : World} {base e : Nat} {v : Value} {zs : List Int} (h : w.ownsRow base e 1 v zs.length (zs.map (Value.int .i64))) : (v = .slice none 0 0 ∧ zs = []) ∨ ∃ g cap cur, v = .slice (some ⟨g, 0, none⟩) zs.length cap ∧ base ≤ g ∧ w.heap[g]? = some (.cells cur e (0, 0)) ∧ zs.length ≤ cap ∧ cap ≤ maxLen ∧ cur.size = cap * 1 ∧ cur.toList.take zs.length = zs.map encZ := by
  rcases h.2 with ⟨rfl, hz⟩ | ⟨g, cap, cur, rfl, h1, h2, h3, h4, h5, h6⟩
  · exact .inl ⟨rfl, List.eq_nil_of_length_eq_zero hz⟩
  · exact .inr ⟨g, cap, cur, rfl, h1, h2, h3, h4, h5, by simpa using h6⟩
theorem sort_calls {base e : Nat} {v : Value} {zs : List Int} {w : World} (h : w.ownsRow base e 1 v zs.length (zs.map (Value.int .i64))) (hsz : zs.length < 4611686018427387904) :
    Calls Tryd.prog 190 #[v] w fun e' w' => e' = .returned (.tuple #[]) ∧ w'.ownsRow base e 1 v (srt zs).length ((srt zs).map (Value.int .i64)) ∧ w.grownBy w' v.ownBlock := by
  rcases ownsRow_some h with ⟨rfl, rfl⟩ | ⟨g, cap, cur, rfl, hbase, hgb, r1, r2, r3, r4⟩
  · refine (AnyM.slices_Sort_int_none sortL none 0 w).mono ?_
    rintro e' w' ⟨rfl, rfl⟩
    exact ⟨rfl, by simpa [srt] using h, rfl, rfl, rfl, Nat.le_refl _, fun _ _ _ => rfl⟩
  · have hH : Holds encZ w g 0 zs.toArray := holds_of_block_i hgb r4
    refine (AnyM.slices_Sort_int sortL g 0 cap zs w hH (Array.getElem?_eq_some_iff.1 hgb).1 hsz).mono ?_
    rintro e' w' ⟨rfl, nn, os, rfl⟩
    have hl : (srt zs).length = zs.length := by simp [srt]
    refine ⟨rfl, ?_, grownBy_sorted_i _⟩
    rw [hl]
    exact ownsRow_sorted_i hl hbase hgb r1 r2 r3
theorem R_int {e : Nat} {w : World} {base : Nat} {v : Value} {zs : List Int} (h : w.ownsRow base e 1 v zs.length (zs.map (Value.int .i64))) : Kd.R (Kd.int .i64) e w base (fun _ => True) v zs := by
  refine ⟨fun _ _ => trivial, zs.map (Value.int .i64), h, by simp [Kd.int, Kd.scalar], fun j p hj => ?_⟩
  show ((zs.map (Value.int .i64)).drop (j * 1)).take 1 = [Value.int .i64 p]
  have hl := (List.getElem?_eq_some_iff.1 hj).1
  rw [Nat.mul_one, List.drop_eq_getElem_cons (by simpa using hl)]
  have := (List.getElem?_eq_some_iff.1 hj).2
  simp [this]
theorem own_int {e : Nat} {w : World} {base : Nat} {ok : Nat → Prop} {v : Value} {zs : List Int} (h : Kd.R (Kd.int .i64) e w base ok v zs) : w.ownsRow base e 1 v zs.length (zs.map (Value.int .i64)) := by
  obtain ⟨_, inner, ho, hl, hr⟩ := h
  have : inner = zs.map (Value.int .i64) := by
    have hl : inner.length = zs.length := by simpa [Kd.int, Kd.scalar] using hl
    apply List.ext_getElem
    · simp [hl]
    · intro j h1 h2
      have hj : j < zs.length := by simpa using h2
      have := hr j zs[j] (List.getElem?_eq_getElem hj)
      have this : (inner.drop (j * 1)).take 1 = [Value.int .i64 zs[j]] := this
      rw [Nat.mul_one, List.drop_eq_getElem_cons h1, List.take_succ_cons, List.take_zero] at this
      rw [List.getElem_map]
      exact (List.cons.inj this).1
  subst this
  exact ho
end Go.Proofs.YtimjblnglhmakaaDoor.HD
namespace Go.Proofs.YtimjblnglhmakaaDoor.P
open Go.RowKit Go.Proofs.YtimjblnglhmakaaDoorW.PrintWords Go.Proofs.YtimjblnglhmakaaDoorW.PrintLast Go.Proofs.YtimjblnglhmakaaDoorW.PrintMore
open Bool renaming true → T, false → F
open List renaming setIfInBounds_toArray → L_, set_cons_zero → M_, set_cons_succ → N_, map_toArray → P_, map_cons → Q_, map_nil → R_, length_drop → S_, length_take → U_
open Aside0 renaming mk → A_
attribute [local go_sem] max2_int min2_int max_two min_two max_three min_three max_four min_four
set_option linter.unusedVariables false
set_option linter.unusedSimpArgs false
attribute [local go_sem] fldOrder_0 fldOrder_1
def bits_OnesCount64.f (a0 : Int) : Option (Int) := some (Go.bits .and .i64 (wrap64 (IntKind.u64.wrap ((IntKind.u64.wrap ((IntKind.u64.wrap ((Go.bits .and .u64 (IntKind.u64.wrap (((IntKind.u64.wrap ((Go.bits .and .u64 ((IntKind.u64.wrap ((Go.bits .and .u64 (a0 / 2) 6148914691236517205) + (Go.bits .and .u64 a0 6148914691236517205))) / 4) 3689348814741910323) + (Go.bits .and .u64 (IntKind.u64.wrap ((Go.bits .and .u64 (a0 / 2) 6148914691236517205) + (Go.bits .and .u64 a0 6148914691236517205))) 3689348814741910323))) / 16) + (IntKind.u64.wrap ((Go.bits .and .u64 ((IntKind.u64.wrap ((Go.bits .and .u64 (a0 / 2) 6148914691236517205) + (Go.bits .and .u64 a0 6148914691236517205))) / 4) 3689348814741910323) + (Go.bits .and .u64 (IntKind.u64.wrap ((Go.bits .and .u64 (a0 / 2) 6148914691236517205) + (Go.bits .and .u64 a0 6148914691236517205))) 3689348814741910323))))) 1085102592571150095) + ((Go.bits .and .u64 (IntKind.u64.wrap (((IntKind.u64.wrap ((Go.bits .and .u64 ((IntKind.u64.wrap ((Go.bits .and .u64 (a0 / 2) 6148914691236517205) + (Go.bits .and .u64 a0 6148914691236517205))) / 4) 3689348814741910323) + (Go.bits .and .u64 (IntKind.u64.wrap ((Go.bits .and .u64 (a0 / 2) 6148914691236517205) + (Go.bits .and .u64 a0 6148914691236517205))) 3689348814741910323))) / 16) + (IntKind.u64.wrap ((Go.bits .and .u64 ((IntKind.u64.wrap ((Go.bits .and .u64 (a0 / 2) 6148914691236517205) + (Go.bits .and .u64 a0 6148914691236517205))) / 4) 3689348814741910323) + (Go.bits .and .u64 (IntKind.u64.wrap ((Go.bits .and .u64 (a0 / 2) 6148914691236517205) + (Go.bits .and .u64 a0 6148914691236517205))) 3689348814741910323))))) 1085102592571150095) / 256))) + ((IntKind.u64.wrap ((Go.bits .and .u64 (IntKind.u64.wrap (((IntKind.u64.wrap ((Go.bits .and .u64 ((IntKind.u64.wrap ((Go.bits .and .u64 (a0 / 2) 6148914691236517205) + (Go.bits .and .u64 a0 6148914691236517205))) / 4) 3689348814741910323) + (Go.bits .and .u64 (IntKind.u64.wrap ((Go.bits .and .u64 (a0 / 2) 6148914691236517205) + (Go.bits .and .u64 a0 6148914691236517205))) 3689348814741910323))) / 16) + (IntKind.u64.wrap ((Go.bits .and .u64 ((IntKind.u64.wrap ((Go.bits .and .u64 (a0 / 2) 6148914691236517205) + (Go.bits .and .u64 a0 6148914691236517205))) / 4) 3689348814741910323) + (Go.bits .and .u64 (IntKind.u64.wrap ((Go.bits .and .u64 (a0 / 2) 6148914691236517205) + (Go.bits .and .u64 a0 6148914691236517205))) 3689348814741910323))))) 1085102592571150095) + ((Go.bits .and .u64 (IntKind.u64.wrap (((IntKind.u64.wrap ((Go.bits .and .u64 ((IntKind.u64.wrap ((Go.bits .and .u64 (a0 / 2) 6148914691236517205) + (Go.bits .and .u64 a0 6148914691236517205))) / 4) 3689348814741910323) + (Go.bits .and .u64 (IntKind.u64.wrap ((Go.bits .and .u64 (a0 / 2) 6148914691236517205) + (Go.bits .and .u64 a0 6148914691236517205))) 3689348814741910323))) / 16) + (IntKind.u64.wrap ((Go.bits .and .u64 ((IntKind.u64.wrap ((Go.bits .and .u64 (a0 / 2) 6148914691236517205) + (Go.bits .and .u64 a0 6148914691236517205))) / 4) 3689348814741910323) + (Go.bits .and .u64 (IntKind.u64.wrap ((Go.bits .and .u64 (a0 / 2) 6148914691236517205) + (Go.bits .and .u64 a0 6148914691236517205))) 3689348814741910323))))) 1085102592571150095) / 256))) / 65536))) + ((IntKind.u64.wrap ((IntKind.u64.wrap ((Go.bits .and .u64 (IntKind.u64.wrap (((IntKind.u64.wrap ((Go.bits .and .u64 ((IntKind.u64.wrap ((Go.bits .and .u64 (a0 / 2) 6148914691236517205) + (Go.bits .and .u64 a0 6148914691236517205))) / 4) 3689348814741910323) + (Go.bits .and .u64 (IntKind.u64.wrap ((Go.bits .and .u64 (a0 / 2) 6148914691236517205) + (Go.bits .and .u64 a0 6148914691236517205))) 3689348814741910323))) / 16) + (IntKind.u64.wrap ((Go.bits .and .u64 ((IntKind.u64.wrap ((Go.bits .and .u64 (a0 / 2) 6148914691236517205) + (Go.bits .and .u64 a0 6148914691236517205))) / 4) 3689348814741910323) + (Go.bits .and .u64 (IntKind.u64.wrap ((Go.bits .and .u64 (a0 / 2) 6148914691236517205) + (Go.bits .and .u64 a0 6148914691236517205))) 3689348814741910323))))) 1085102592571150095) + ((Go.bits .and .u64 (IntKind.u64.wrap (((IntKind.u64.wrap ((Go.bits .and .u64 ((IntKind.u64.wrap ((Go.bits .and .u64 (a0 / 2) 6148914691236517205) + (Go.bits .and .u64 a0 6148914691236517205))) / 4) 3689348814741910323) + (Go.bits .and .u64 (IntKind.u64.wrap ((Go.bits .and .u64 (a0 / 2) 6148914691236517205) + (Go.bits .and .u64 a0 6148914691236517205))) 3689348814741910323))) / 16) + (IntKind.u64.wrap ((Go.bits .and .u64 ((IntKind.u64.wrap ((Go.bits .and .u64 (a0 / 2) 6148914691236517205) + (Go.bits .and .u64 a0 6148914691236517205))) / 4) 3689348814741910323) + (Go.bits .and .u64 (IntKind.u64.wrap ((Go.bits .and .u64 (a0 / 2) 6148914691236517205) + (Go.bits .and .u64 a0 6148914691236517205))) 3689348814741910323))))) 1085102592571150095) / 256))) + ((IntKind.u64.wrap ((Go.bits .and .u64 (IntKind.u64.wrap (((IntKind.u64.wrap ((Go.bits .and .u64 ((IntKind.u64.wrap ((Go.bits .and .u64 (a0 / 2) 6148914691236517205) + (Go.bits .and .u64 a0 6148914691236517205))) / 4) 3689348814741910323) + (Go.bits .and .u64 (IntKind.u64.wrap ((Go.bits .and .u64 (a0 / 2) 6148914691236517205) + (Go.bits .and .u64 a0 6148914691236517205))) 3689348814741910323))) / 16) + (IntKind.u64.wrap ((Go.bits .and .u64 ((IntKind.u64.wrap ((Go.bits .and .u64 (a0 / 2) 6148914691236517205) + (Go.bits .and .u64 a0 6148914691236517205))) / 4) 3689348814741910323) + (Go.bits .and .u64 (IntKind.u64.wrap ((Go.bits .and .u64 (a0 / 2) 6148914691236517205) + (Go.bits .and .u64 a0 6148914691236517205))) 3689348814741910323))))) 1085102592571150095) + ((Go.bits .and .u64 (IntKind.u64.wrap (((IntKind.u64.wrap ((Go.bits .and .u64 ((IntKind.u64.wrap ((Go.bits .and .u64 (a0 / 2) 6148914691236517205) + (Go.bits .and .u64 a0 6148914691236517205))) / 4) 3689348814741910323) + (Go.bits .and .u64 (IntKind.u64.wrap ((Go.bits .and .u64 (a0 / 2) 6148914691236517205) + (Go.bits .and .u64 a0 6148914691236517205))) 3689348814741910323))) / 16) + (IntKind.u64.wrap ((Go.bits .and .u64 ((IntKind.u64.wrap ((Go.bits .and .u64 (a0 / 2) 6148914691236517205) + (Go.bits .and .u64 a0 6148914691236517205))) / 4) 3689348814741910323) + (Go.bits .and .u64 (IntKind.u64.wrap ((Go.bits .and .u64 (a0 / 2) 6148914691236517205) + (Go.bits .and .u64 a0 6148914691236517205))) 3689348814741910323))))) 1085102592571150095) / 256))) / 65536))) / 4294967296)))) 127)
set_option maxHeartbeats 8000000 in
set_option maxRecDepth 100000 in
theorem bits_OnesCount64.calls (a0 : Int) (r : Int) (w : World) (h : bits_OnesCount64.f a0 = some r) :
 Calls Tryd.prog 255 #[.int .u64 a0] w fun e w'=>e = .returned (.int .i64 r) ∧ Drawn0 w w':=by
 have H : (some (Go.bits .and .i64 (wrap64 (IntKind.u64.wrap ((IntKind.u64.wrap ((IntKind.u64.wrap ((Go.bits .and .u64 (IntKind.u64.wrap (((IntKind.u64.wrap ((Go.bits .and .u64 ((IntKind.u64.wrap ((Go.bits .and .u64 (a0 / 2) 6148914691236517205) + (Go.bits .and .u64 a0 6148914691236517205))) / 4) 3689348814741910323) + (Go.bits .and .u64 (IntKind.u64.wrap ((Go.bits .and .u64 (a0 / 2) 6148914691236517205) + (Go.bits .and .u64 a0 6148914691236517205))) 3689348814741910323))) / 16) + (IntKind.u64.wrap ((Go.bits .and .u64 ((IntKind.u64.wrap ((Go.bits .and .u64 (a0 / 2) 6148914691236517205) + (Go.bits .and .u64 a0 6148914691236517205))) / 4) 3689348814741910323) + (Go.bits .and .u64 (IntKind.u64.wrap ((Go.bits .and .u64 (a0 / 2) 6148914691236517205) + (Go.bits .and .u64 a0 6148914691236517205))) 3689348814741910323))))) 1085102592571150095) + ((Go.bits .and .u64 (IntKind.u64.wrap (((IntKind.u64.wrap ((Go.bits .and .u64 ((IntKind.u64.wrap ((Go.bits .and .u64 (a0 / 2) 6148914691236517205) + (Go.bits .and .u64 a0 6148914691236517205))) / 4) 3689348814741910323) + (Go.bits .and .u64 (IntKind.u64.wrap ((Go.bits .and .u64 (a0 / 2) 6148914691236517205) + (Go.bits .and .u64 a0 6148914691236517205))) 3689348814741910323))) / 16) + (IntKind.u64.wrap ((Go.bits .and .u64 ((IntKind.u64.wrap ((Go.bits .and .u64 (a0 / 2) 6148914691236517205) + (Go.bits .and .u64 a0 6148914691236517205))) / 4) 3689348814741910323) + (Go.bits .and .u64 (IntKind.u64.wrap ((Go.bits .and .u64 (a0 / 2) 6148914691236517205) + (Go.bits .and .u64 a0 6148914691236517205))) 3689348814741910323))))) 1085102592571150095) / 256))) + ((IntKind.u64.wrap ((Go.bits .and .u64 (IntKind.u64.wrap (((IntKind.u64.wrap ((Go.bits .and .u64 ((IntKind.u64.wrap ((Go.bits .and .u64 (a0 / 2) 6148914691236517205) + (Go.bits .and .u64 a0 6148914691236517205))) / 4) 3689348814741910323) + (Go.bits .and .u64 (IntKind.u64.wrap ((Go.bits .and .u64 (a0 / 2) 6148914691236517205) + (Go.bits .and .u64 a0 6148914691236517205))) 3689348814741910323))) / 16) + (IntKind.u64.wrap ((Go.bits .and .u64 ((IntKind.u64.wrap ((Go.bits .and .u64 (a0 / 2) 6148914691236517205) + (Go.bits .and .u64 a0 6148914691236517205))) / 4) 3689348814741910323) + (Go.bits .and .u64 (IntKind.u64.wrap ((Go.bits .and .u64 (a0 / 2) 6148914691236517205) + (Go.bits .and .u64 a0 6148914691236517205))) 3689348814741910323))))) 1085102592571150095) + ((Go.bits .and .u64 (IntKind.u64.wrap (((IntKind.u64.wrap ((Go.bits .and .u64 ((IntKind.u64.wrap ((Go.bits .and .u64 (a0 / 2) 6148914691236517205) + (Go.bits .and .u64 a0 6148914691236517205))) / 4) 3689348814741910323) + (Go.bits .and .u64 (IntKind.u64.wrap ((Go.bits .and .u64 (a0 / 2) 6148914691236517205) + (Go.bits .and .u64 a0 6148914691236517205))) 3689348814741910323))) / 16) + (IntKind.u64.wrap ((Go.bits .and .u64 ((IntKind.u64.wrap ((Go.bits .and .u64 (a0 / 2) 6148914691236517205) + (Go.bits .and .u64 a0 6148914691236517205))) / 4) 3689348814741910323) + (Go.bits .and .u64 (IntKind.u64.wrap ((Go.bits .and .u64 (a0 / 2) 6148914691236517205) + (Go.bits .and .u64 a0 6148914691236517205))) 3689348814741910323))))) 1085102592571150095) / 256))) / 65536))) + ((IntKind.u64.wrap ((IntKind.u64.wrap ((Go.bits .and .u64 (IntKind.u64.wrap (((IntKind.u64.wrap ((Go.bits .and .u64 ((IntKind.u64.wrap ((Go.bits .and .u64 (a0 / 2) 6148914691236517205) + (Go.bits .and .u64 a0 6148914691236517205))) / 4) 3689348814741910323) + (Go.bits .and .u64 (IntKind.u64.wrap ((Go.bits .and .u64 (a0 / 2) 6148914691236517205) + (Go.bits .and .u64 a0 6148914691236517205))) 3689348814741910323))) / 16) + (IntKind.u64.wrap ((Go.bits .and .u64 ((IntKind.u64.wrap ((Go.bits .and .u64 (a0 / 2) 6148914691236517205) + (Go.bits .and .u64 a0 6148914691236517205))) / 4) 3689348814741910323) + (Go.bits .and .u64 (IntKind.u64.wrap ((Go.bits .and .u64 (a0 / 2) 6148914691236517205) + (Go.bits .and .u64 a0 6148914691236517205))) 3689348814741910323))))) 1085102592571150095) + ((Go.bits .and .u64 (IntKind.u64.wrap (((IntKind.u64.wrap ((Go.bits .and .u64 ((IntKind.u64.wrap ((Go.bits .and .u64 (a0 / 2) 6148914691236517205) + (Go.bits .and .u64 a0 6148914691236517205))) / 4) 3689348814741910323) + (Go.bits .and .u64 (IntKind.u64.wrap ((Go.bits .and .u64 (a0 / 2) 6148914691236517205) + (Go.bits .and .u64 a0 6148914691236517205))) 3689348814741910323))) / 16) + (IntKind.u64.wrap ((Go.bits .and .u64 ((IntKind.u64.wrap ((Go.bits .and .u64 (a0 / 2) 6148914691236517205) + (Go.bits .and .u64 a0 6148914691236517205))) / 4) 3689348814741910323) + (Go.bits .and .u64 (IntKind.u64.wrap ((Go.bits .and .u64 (a0 / 2) 6148914691236517205) + (Go.bits .and .u64 a0 6148914691236517205))) 3689348814741910323))))) 1085102592571150095) / 256))) + ((IntKind.u64.wrap ((Go.bits .and .u64 (IntKind.u64.wrap (((IntKind.u64.wrap ((Go.bits .and .u64 ((IntKind.u64.wrap ((Go.bits .and .u64 (a0 / 2) 6148914691236517205) + (Go.bits .and .u64 a0 6148914691236517205))) / 4) 3689348814741910323) + (Go.bits .and .u64 (IntKind.u64.wrap ((Go.bits .and .u64 (a0 / 2) 6148914691236517205) + (Go.bits .and .u64 a0 6148914691236517205))) 3689348814741910323))) / 16) + (IntKind.u64.wrap ((Go.bits .and .u64 ((IntKind.u64.wrap ((Go.bits .and .u64 (a0 / 2) 6148914691236517205) + (Go.bits .and .u64 a0 6148914691236517205))) / 4) 3689348814741910323) + (Go.bits .and .u64 (IntKind.u64.wrap ((Go.bits .and .u64 (a0 / 2) 6148914691236517205) + (Go.bits .and .u64 a0 6148914691236517205))) 3689348814741910323))))) 1085102592571150095) + ((Go.bits .and .u64 (IntKind.u64.wrap (((IntKind.u64.wrap ((Go.bits .and .u64 ((IntKind.u64.wrap ((Go.bits .and .u64 (a0 / 2) 6148914691236517205) + (Go.bits .and .u64 a0 6148914691236517205))) / 4) 3689348814741910323) + (Go.bits .and .u64 (IntKind.u64.wrap ((Go.bits .and .u64 (a0 / 2) 6148914691236517205) + (Go.bits .and .u64 a0 6148914691236517205))) 3689348814741910323))) / 16) + (IntKind.u64.wrap ((Go.bits .and .u64 ((IntKind.u64.wrap ((Go.bits .and .u64 (a0 / 2) 6148914691236517205) + (Go.bits .and .u64 a0 6148914691236517205))) / 4) 3689348814741910323) + (Go.bits .and .u64 (IntKind.u64.wrap ((Go.bits .and .u64 (a0 / 2) 6148914691236517205) + (Go.bits .and .u64 a0 6148914691236517205))) 3689348814741910323))))) 1085102592571150095) / 256))) / 65536))) / 4294967296)))) 127)) = some r:=h;clear h;obtain rfl:=Option.some.inj H;go_enter Tryd.func255,Tryd.ntmps255
 go_wp2
 go_ret
 exact ⟨by first|rfl|(simp;done)|(simp [*];done),by repeat (first|exact Drawn0.refl _|apply Drawn0.step)⟩
def bits_OnesCount.f (a0 : Int) : Option (Int) := (bits_OnesCount64.f a0).bind fun t343 => (some t343)
set_option maxHeartbeats 8000000 in
set_option maxRecDepth 100000 in
theorem bits_OnesCount.calls (a0 : Int) (r : Int) (w : World) (h : bits_OnesCount.f a0 = some r) :
 Calls Tryd.prog 230 #[.int .u64 a0] w fun e w'=>e = .returned (.int .i64 r) ∧ Drawn0 w w':=by
 have H : ((bits_OnesCount64.f a0).bind fun t343=>(some t343)) = some r:=h;clear h;replace H:=Option.bind_eq_some_iff.mp H;obtain ⟨t343,A20,H⟩:=H;replace H : (some t343) = some r:=H;have A2:=A_ A20;clear A20;obtain rfl:=Option.some.inj H;go_enter Tryd.func230,Tryd.ntmps230
 go_wp2_with (first|((with_reducible refine gate_callee (f:=255) rfl ?_);refine goesL_ (some 7) rfl rfl Tryd.func255 (by kernel_rfl) rfl #[.int .u64 a0] rfl au_ ?_;(with_reducible refine (bits_OnesCount64.calls a0 t343 _ A2.out).mono ?_);rintro e w' ⟨rfl,⟨nd,rfl⟩⟩;refine ⟨_,rfl,?_⟩))
 go_ret
 exact ⟨by first|rfl|(simp;done)|(simp [*];done),by repeat (first|exact Drawn0.refl _|apply Drawn0.step)⟩
def impl_count.f (a0 : Int) : Option (Int) := (bits_OnesCount.f (IntKind.u64.wrap (a0))).bind fun t344 => (some t344)
set_option maxHeartbeats 8000000 in
set_option maxRecDepth 100000 in
theorem impl_count.calls (a0 : Int) (r : Int) (w : World) (h : impl_count.f a0 = some r) :
 Calls Tryd.prog 189 #[.int .i64 a0] w fun e w'=>e = .returned (.int .i64 r) ∧ Drawn0 w w':=by
 have H : ((bits_OnesCount.f (IntKind.u64.wrap (a0))).bind fun t344=>(some t344)) = some r:=h;clear h;replace H:=Option.bind_eq_some_iff.mp H;obtain ⟨t344,A20,H⟩:=H;replace H : (some t344) = some r:=H;have A2:=A_ A20;clear A20;obtain rfl:=Option.some.inj H;go_enter Tryd.func189,Tryd.ntmps189
 go_wp2_with (first|((with_reducible refine gate_callee (f:=230) rfl ?_);refine goesL_ (some 5) rfl rfl Tryd.func230 (by kernel_rfl) rfl #[.int .u64 (IntKind.u64.wrap (a0))] rfl au_ ?_;(with_reducible refine (bits_OnesCount.calls (IntKind.u64.wrap (a0)) t344 _ A2.out).mono ?_);rintro e w' ⟨rfl,⟨nd,rfl⟩⟩;refine ⟨_,rfl,?_⟩))
 go_ret
 exact ⟨by first|rfl|(simp;done)|(simp [*];done),by repeat (first|exact Drawn0.refl _|apply Drawn0.step)⟩
def impl_Order_stair.l0 : Nat → List Int → List Int → Int → Int → Option (List Int)
 | 0,_,_,_,_=>none
 | k + 1,x3,x9,x10,x11=>if x11 < x10 then (if 0 ≤ x11 then (if x11 < (x9.length : Int) then ((impl_count.f (rd x9 x11)).bind fun t477=>(if x3.length < 17592186044416 then (impl_Order_stair.l0 k (x3 ++ [t477]) x9 x10 (wrap64 (x11 + 1))) else (none))) else (none)) else (none)) else (some x3)
def impl_Order_stair.f0 (k : Nat) (a0_0 : Int) (l0_1 : List Int) : Option (List Int) := (impl_Order_mirror.f k a0_0 l0_1).bind fun bt472 => (impl_Order_stair.l0 k (([] : List Int)) bt472.2 (bt472.2.length : Int) 0)
set_option maxHeartbeats 8000000 in
set_option maxRecDepth 100000 in
theorem impl_Order_stair.calls0 (k : Nat) (a0_0 : Int) (A0_1 : Option Addr) (c0_1 : Nat) (l0_1 : List Int) (r : List Int) (w : World) (hr0_1 : Kd.C (Kd.int .i64) w A0_1 l0_1.length l0_1) (hc0_1 : l0_1.length ≤ c0_1) (h : impl_Order_stair.f0 k a0_0 l0_1 = some r) (hs_ : r.length < 17592186043904) :
 Calls Tryd.prog 109 #[.agg #[.int .i64 a0_0,.slice A0_1 l0_1.length c0_1]] w fun e w'=>∃ v0_ : Value,e = .returned (v0_) ∧ Kd.R (Kd.int .i64) 3 w' w.heap.size (fun _=>True) v0_ (HD.srt r) ∧ Below w.heap.size w w':=by
 have hu28:=Tryd.underlying28;have HR0_1:=A_ hr0_1;have HC0_1:=A_ hc0_1;clear hr0_1 hc0_1;have HB:=A_ (Below.refl w.heap.size w);have H : ((impl_Order_mirror.f k a0_0 l0_1).bind fun bt472=>(impl_Order_stair.l0 k (([] : List Int)) bt472.2 (bt472.2.length : Int) 0)) = some r:=h;clear h;obtain ⟨y469,hy469⟩ : ∃ y_ : List Int,y_ = (([] : List Int)):=⟨_,rfl⟩;replace H : ((impl_Order_mirror.f k a0_0 l0_1).bind fun bt472=>(impl_Order_stair.l0 k y469 bt472.2 (bt472.2.length : Int) 0)) = some r:=by first|(rw [hy469];with_reducible exact H)|(have H2_:=(Option.bind_some _ _).symm.trans H;rw [hy469];with_reducible exact H2_)|(have H2_:=(Option.bind_some _ _).symm.trans H;with_reducible exact H2_)|with_reducible exact H|(rw [hy469];exact H)|exact H
 have Ny469:=A_ hy469;clear hy469;replace H:=Option.bind_eq_some_iff.mp H;obtain ⟨⟨t472,t473⟩,A20,H⟩:=H;replace H : (impl_Order_stair.l0 k y469 t473 (t473.length : Int) 0) = some r:=H;have A2:=A_ A20;clear A20;have H':=A_ H;clear H;go_enter Tryd.func109,Tryd.ntmps109
 go_wp2_with (first|((with_reducible refine gate_dst (N:=1) rfl ?_);refine box_event ?hg (N:=1) ?hd (cs:=#[.int .i64 a0_0,.slice A0_1 l0_1.length c0_1]) (t:=28) ?hr ?_;(case hd=>rfl);(case hg=>rfl);(case hr=>first|(go_simp;done)|(go_simp;rfl));intro gb468 hg w3 hbox hb;have BK468:=A_ (hbox);have GW468:=A_ ((by rw [hg];exact (below_size bb_) : w.heap.size ≤ gb468));have GE468:=A_ ((by rw [hg];exact (below_size bb_) : w.heap.size ≤ gb468));replace HB:=A_ (below_step bb_ hb);clear hb hbox hg)|((with_reducible refine gate_dst (N:=6) rfl ?_);refine Kd.R_lit (Kd.int .i64) _ 3 ?hg (N:=6) ?hd (xs:=([] : List Int)) (inner:=[]) (ok:=fun _=>True) (okp:=fun _=>True) ?hr ?hp (fun _ hk=>hk) trivial (Below.refl _ _) (Nat.le_refl _) (by simp) ?_;(case hd=>rfl);(case hg=>rfl);(case hr=>first|(go_simp;done)|(go_simp;rfl));(case hp=>exact (Reps.none _ _));intro v470 w4 ho5 hb hg_ hnew_;clear hg_ hnew_;(first|rw [← Ny469.out] at ho5|(simp only [Int.reduceToNat] at ho5;rw [← Ny469.out] at ho5));have HO471:=A_ (Kd.R_lower ho5 (below_size bb_));replace BK468:=bz BK468 hb;replace HB:=A_ (below_step bb_ hb);clear hb ho5;have hcz6_0 : w4.cell? ⟨gb468,0,none⟩ = some (.int .i64 a0_0):=blk_cell BK468.out 0;have hcz6_1 : w4.cell? ⟨gb468,1,none⟩ = some (.slice A0_1 l0_1.length c0_1):=blk_cell BK468.out 1;have hfz6_0:=blk_frozen BK468.out 0;have hfz6_1:=blk_frozen BK468.out 1)|((with_reducible refine gate_callee (f:=113) rfl ?_);refine goesL_ (some 8) rfl rfl Tryd.func113 (by kernel_rfl) rfl #[.agg #[.int .i64 a0_0,.slice A0_1 l0_1.length c0_1]] rfl au_ ?_;(with_reducible refine (impl_Order_mirror.calls k a0_0 _ _ l0_1 t472 t473 _ ?side1 ?side2 A2.out).mono ?_);(case side1=>exact cl_ (Kd.C_below HR0_1.out HB.out));(case side2=>exact HC0_1.out);rintro e w7 ⟨v474,rfl,ho0,hb⟩;refine ⟨_,rfl,?_⟩;have HO475:=A_ (Kd.R_lower (Kd.R_new' ho0 (Kd.R_lt (rl_ HO471))) (below_size bb_));replace HO471:=A_ (Kd.R_elder' (rl_ HO471) (Kd.R_base ho0) hb);replace BK468:=bz BK468 hb;replace HB:=A_ (below_step bb_ hb);(try clear hb);(try clear hb2);(try clear hk);(try clear hi);(try clear ho0);obtain ⟨Ao8,co8,eo8⟩:=Kd.R_slice HO475.out;subst eo8))
 go_loopg [3,11] k (fun kq v3 v11 w'=>∃ (x3_1 : List Int) (x11_1 : Int),v11 = .int .i64 x11_1 ∧ Aside0 (impl_Order_stair.l0 kq x3_1 t473 (t473.length : Int) x11_1 = some r) ∧ Aside0 (kq ≤ k) ∧ Aside0 (Kd.R (Kd.int .i64) 3 w' w.heap.size (fun k_=>some k_ ≠ ((.slice Ao8 t473.length co8) : Value).ownBlock) v3 x3_1) ∧ Aside0 (Kd.R (Kd.int .i64) 3 w' w.heap.size (fun k_=>some k_ ≠ (v3 : Value).ownBlock) (.slice Ao8 t473.length co8) t473) ∧ Aside0 (w'.heap[gb468]? = some (.cells #[.int .i64 a0_0,(.slice A0_1 l0_1.length c0_1)] 28 (0,0))) ∧ Aside0 (Below w.heap.size w w'))
 case atStart=>exact ⟨(y469),(0),(by first|rfl|(simp;done)|(simp [*];done)),H',⟨Nat.le_refl _⟩,⟨by (with_reducible repeat (first|apply Kd.R_alloc|apply Kd.R_drewN|apply Kd.R_drew));exact Kd.R_mono HO471.out (fun _ hk=>hk.2)⟩,⟨by (with_reducible repeat (first|apply Kd.R_alloc|apply Kd.R_drewN|apply Kd.R_drew));exact Kd.R_mono HO475.out (fun _ hk=>hk.2)⟩,⟨bl_ BK468⟩,⟨bb_⟩⟩
 case round =>
  clear H';try clear c1
  try clear p2
  try clear hcz6_0
  try clear hcz6_1
  try clear hfz6_0
  try clear hfz6_1
  obtain ⟨x3_1,x11_1,rfl,HA,HK1,HO_3,HO_9,BK468,HB⟩:=hrel;cases gk with
  | zero => exact absurd HA.out (by simp [impl_Order_stair.l0])
  | succ k1 =>
   have H:=HA.out;clear HA;simp only [impl_Order_stair.l0] at H
   by_cases c9 : x11_1 < (t473.length : Int)
   ·rw [if_pos c9] at H;have c9b0 : decide (x11_1 < (t473.length : Int)) = true:=decide_eq_true c9;clear c9;by_cases c10 : 0 ≤ x11_1
    ·rw [if_pos c10] at H;have c10b0 : decide (0 ≤ x11_1) = true:=decide_eq_true c10;clear c10;by_cases c11 : x11_1 < (t473.length : Int)
     ·rw [if_pos c11] at H;have c11b0 : decide (x11_1 < (t473.length : Int)) = true:=decide_eq_true c11;clear c11;replace H:=Option.bind_eq_some_iff.mp H;obtain ⟨t477,A120,H⟩:=H;replace H : (if x3_1.length < 17592186044416 then (impl_Order_stair.l0 k1 (x3_1 ++ [t477]) t473 (t473.length : Int) (wrap64 (x11_1 + 1))) else (none)) = some r:=H;have A12:=A_ A120;clear A120;by_cases c13 : x3_1.length < 17592186044416
      ·rw [if_pos c13] at H;have LMc13:=A_ c13;clear c13;obtain ⟨y478,hy478⟩ : ∃ y_ : List Int,y_ = (x3_1 ++ [t477]):=⟨_,rfl⟩;replace H : (impl_Order_stair.l0 k1 y478 t473 (t473.length : Int) (wrap64 (x11_1 + 1))) = some r:=by first|(rw [hy478];with_reducible exact H)|(have H2_:=(Option.bind_some _ _).symm.trans H;rw [hy478];with_reducible exact H2_)|(have H2_:=(Option.bind_some _ _).symm.trans H;with_reducible exact H2_)|with_reducible exact H|(rw [hy478];exact H)|exact H
       have Ny478:=A_ hy478;clear hy478;have H':=A_ H;clear H;have p476 : 0 ≤ (x11_1 : Int):=of_decide_eq_true (by first|(with_reducible assumption)|assumption);have q476 : x11_1 < (t473.length : Int):=of_decide_eq_true (by first|(with_reducible assumption)|assumption);obtain ⟨ad476,e476,hx476_0⟩:=Kd.at_int (Kd.R_reads' HO_9.out).2.2 x11_1 p476 q476;cases e476
       replace p476:=eq_true p476;replace q476:=eq_true q476;go_wp2_with (first|((with_reducible refine gate_callee (f:=189) rfl ?_);refine goesL_ (some 17) rfl rfl Tryd.func189 (by kernel_rfl) rfl #[.int .i64 (rd t473 x11_1)] rfl au_ ?_;(with_reducible refine (impl_count.calls (rd t473 x11_1) t477 _ A12.out).mono ?_);rintro e w' ⟨rfl,⟨nd,rfl⟩⟩;refine ⟨_,rfl,?_⟩)|((with_reducible refine gate_builtin (b:=.append) (xs:=#[.tmp 15,.tmp 18]) rfl ?_);at_builtin;refine Kd.R_append (Kd.int .i64) (w0:=w) w.heap.size rfl (.tmp 15) (.tmp 18) 22 3 (.int .i64 0) 8 rfl Tryd.underlying22 info3 rfl (by decide) (by omega) u3 x3_1 t477 [.int .i64 t477] (fun k_=>some k_ ≠ (.slice (some ad476) t473.length co8 : Value).ownBlock) (fun _=>False) rfl rfl ?aP (fun _ hk=>hk.elim) ?aF ?aO ?aB ?aS ?aL ?_;(case aP=>exact rfl);(case aB=>exact bb_);(case aF=>exact (fun k_ hk=>Kd.fresh' (Kd.R_lt (rl_ HO_9)) k_ hk));(case aO=>exact (rl_ HO_3));(case aS=>exact (below_size bb_));(case aL=>have:=LMc13.out;omega);intro v479 w14 ho hb hg hat;rw [← Ny478.out] at ho;replace HO_9:=A_ (Kd.R_after (ok:=(fun _=>True)) (by (with_reducible repeat (first|apply Kd.R_alloc|apply Kd.R_drewN|apply Kd.R_drew));exact Kd.R_mono HO_9.out (fun _ hk=>⟨trivial,hk⟩)) hg hat);replace BK468:=A_ (blk_grown (g:=gb468) (o:=.cells #[.int .i64 a0_0,.slice A0_1 l0_1.length c0_1] 28 (0,0)) (bl_ BK468) hg (Kd.R_ne HO_3.out BK468.out (by decide)));replace HB:=A_ (hb);have HO480:=A_ (ho);clear HO_3;clear ho hb hg hat))
       go_roundg k1
       case measure=>have:=HK1.out;omega
       case rel=>exact ⟨(y478),(wrap64 (x11_1 + 1)),(by first|rfl|(simp;done)|(simp [*];done)),H',⟨by have:=HK1.out;omega⟩,⟨by (with_reducible repeat (first|apply Kd.R_alloc|apply Kd.R_drewN|apply Kd.R_drew));exact HO480.out⟩,⟨by (with_reducible repeat (first|apply Kd.R_alloc|apply Kd.R_drewN|apply Kd.R_drew));exact Kd.R_mono HO_9.out (fun _ hk=>hk.2)⟩,⟨bl_ BK468⟩,⟨bb_⟩⟩
      ·rw [if_neg c13] at H;exact absurd H (by simp)
     ·rw [if_neg c11] at H;exact absurd H (by simp)
    ·rw [if_neg c10] at H;exact absurd H (by simp)
   ·rw [if_neg c9] at H;have c9b0 : decide (x11_1 < (t473.length : Int)) = false:=decide_eq_false c9;clear c9;obtain rfl:=Option.some.inj H;have hown_:=HD.own_int HO_3.out;have hsz_ : _ < 4611686018427387904:=Nat.lt_trans hs_ (by decide);go_wp2_with (go_at_call 190;refine (HD.sort_calls hown_ hsz_).mono ?_;rintro e w' ⟨rfl,hrow_,hg_⟩)
    go_ret
    exact ⟨_,rfl,HD.R_int hrow_,HB.out.grown hg_ (below_size HB.out) (own_base hown_)⟩
def impl_Order_stair.f (k : Nat) (a0_0 : Int) (l0_1 : List Int) : Option (List Int) := (impl_Order_stair.f0 k a0_0 l0_1).bind fun r => if r.length < 17592186043904 then some (HD.srt r) else none
theorem impl_Order_stair.calls (k : Nat) (a0_0 : Int) (A0_1 : Option Addr) (c0_1 : Nat) (l0_1 : List Int) (r : List Int) (w : World) (hr0_1 : Kd.C (Kd.int .i64) w A0_1 l0_1.length l0_1) (hc0_1 : l0_1.length ≤ c0_1) (h : impl_Order_stair.f k a0_0 l0_1 = some r) :
 Calls Tryd.prog 109 #[.agg #[.int .i64 a0_0,.slice A0_1 l0_1.length c0_1]] w fun e w'=>∃ v0_ : Value,e = .returned (v0_) ∧ Kd.R (Kd.int .i64) 3 w' w.heap.size (fun _=>True) v0_ r ∧ Below w.heap.size w w':=by
 obtain ⟨r0,h0,h1⟩:=Option.bind_eq_some_iff.mp h;split at h1
 ·rename_i hs
  injection h1 with h1;subst h1;exact impl_Order_stair.calls0 k a0_0 A0_1 c0_1 l0_1 _ w hr0_1 hc0_1 h0 hs
 ·cases h1
def impl_StairOf.f (k : Nat) (a0_0 : Int) (l0_1 : List Int) : Option (List Int × Bool) := (impl_isSemi.f k a0_0 l0_1).bind fun t482 => (if t482 = true then ((impl_Order_stair.f k a0_0 l0_1).bind fun t483 => (some (t483, true))) else (some (([] : List Int), false)))
set_option maxHeartbeats 8000000 in
set_option maxRecDepth 100000 in
theorem impl_StairOf.calls (k : Nat) (a0_0 : Int) (A0_1 : Option Addr) (c0_1 : Nat) (l0_1 : List Int) (r1 : List Int) (r2 : Bool) (w : World) (hr0_1 : Kd.C (Kd.int .i64) w A0_1 l0_1.length l0_1) (hc0_1 : l0_1.length ≤ c0_1) (hT : TabOK w) (h : impl_StairOf.f k a0_0 l0_1 = some (r1,r2)) :
 Calls Tryd.prog 17 #[.agg #[.int .i64 a0_0,.slice A0_1 l0_1.length c0_1]] w fun e w'=>∃ v0_ : Value,e = .returned (.tuple #[v0_,.bool r2]) ∧ Kd.R (Kd.int .i64) 3 w' w.heap.size (fun _=>True) v0_ r1 ∧ Below w.heap.size w w':=by
 have hu28:=Tryd.underlying28;have HT:=A_ hT;clear hT;have HR0_1:=A_ hr0_1;have HC0_1:=A_ hc0_1;clear hr0_1 hc0_1;have HB:=A_ (Below.refl w.heap.size w);have H : ((impl_isSemi.f k a0_0 l0_1).bind fun t482=>(if t482 = true then ((impl_Order_stair.f k a0_0 l0_1).bind fun t483=>(some (t483,true))) else (some (([] : List Int),false)))) = some (r1,r2):=h;clear h;replace H:=Option.bind_eq_some_iff.mp H;obtain ⟨t482,A20,H⟩:=H;replace H : (if t482 = true then ((impl_Order_stair.f k a0_0 l0_1).bind fun t483=>(some (t483,true))) else (some (([] : List Int),false))) = some (r1,r2):=H;have A2:=A_ A20;clear A20;by_cases c3 : t482 = true
 ·subst c3;have H1 : ((impl_Order_stair.f k a0_0 l0_1).bind fun t483=>(some (t483,true))) = some (r1,r2):=by rw [if_pos rfl] at H;exact H
  clear H;have H:=H1;clear H1;replace H:=Option.bind_eq_some_iff.mp H;obtain ⟨t483,A40,H⟩:=H;replace H : (some (t483,true)) = some (r1,r2):=H;have A4:=A_ A40;clear A40;simp only [Option.some.injEq,Prod.mk.injEq] at H
  obtain ⟨rfl,rfl⟩:=H;go_enter Tryd.func17,Tryd.ntmps17
  go_wp2_with (first|((with_reducible refine gate_dst (N:=1) rfl ?_);refine box_event ?hg (N:=1) ?hd (cs:=#[.int .i64 a0_0,.slice A0_1 l0_1.length c0_1]) (t:=28) ?hr ?_;(case hd=>rfl);(case hg=>rfl);(case hr=>first|(go_simp;done)|(go_simp;rfl));intro gb481 hg w5 hbox hb;have BK481:=A_ (hbox);have GW481:=A_ ((by rw [hg];exact (below_size bb_) : w.heap.size ≤ gb481));have GE481:=A_ ((by rw [hg];exact (below_size bb_) : w.heap.size ≤ gb481));replace HB:=A_ (below_step bb_ hb);clear hb hbox hg;have hcz6_0 : w5.cell? ⟨gb481,0,none⟩ = some (.int .i64 a0_0):=blk_cell BK481.out 0;have hcz6_1 : w5.cell? ⟨gb481,1,none⟩ = some (.slice A0_1 l0_1.length c0_1):=blk_cell BK481.out 1;have hfz6_0:=blk_frozen BK481.out 0;have hfz6_1:=blk_frozen BK481.out 1)|((with_reducible refine gate_callee (f:=108) rfl ?_);refine goesL_ (some 5) rfl rfl Tryd.func108 (by kernel_rfl) rfl #[.agg #[.int .i64 a0_0,.slice A0_1 l0_1.length c0_1]] rfl au_ ?_;(with_reducible refine (impl_isSemi.calls k a0_0 _ _ l0_1 true _ ?side1 ?side2 ?side3 A2.out).mono ?_);(case side1=>exact cl_ (Kd.C_below HR0_1.out HB.out));(case side2=>exact HC0_1.out);(case side3=>first|exact HT.out|exact HT.out.below bb_|(repeat (first|exact HT.out|apply TabOK.drewN|apply TabOK.drew|apply TabOK.alloc)));rintro e w7 ⟨rfl,hb⟩;refine ⟨_,rfl,?_⟩;replace BK481:=bz BK481 hb;replace HB:=A_ (below_step bb_ hb);(try clear hb);(try clear hb2);(try clear hk);(try clear hi);have hcz8_0 : w7.cell? ⟨gb481,0,none⟩ = some (.int .i64 a0_0):=blk_cell BK481.out 0;have hcz8_1 : w7.cell? ⟨gb481,1,none⟩ = some (.slice A0_1 l0_1.length c0_1):=blk_cell BK481.out 1;have hfz8_0:=blk_frozen BK481.out 0;have hfz8_1:=blk_frozen BK481.out 1)|((with_reducible refine gate_callee (f:=109) rfl ?_);refine goesL_ (some 8) rfl rfl Tryd.func109 (by kernel_rfl) rfl #[.agg #[.int .i64 a0_0,.slice A0_1 l0_1.length c0_1]] rfl au_ ?_;(with_reducible refine (impl_Order_stair.calls k a0_0 _ _ l0_1 t483 _ ?side1 ?side2 A4.out).mono ?_);(case side1=>exact cl_ (Kd.C_below HR0_1.out HB.out));(case side2=>exact HC0_1.out);rintro e w9 ⟨v484,rfl,ho0,hb⟩;refine ⟨_,rfl,?_⟩;have HO485:=A_ (Kd.R_lower ho0 (below_size bb_));replace BK481:=bz BK481 hb;replace HB:=A_ (below_step bb_ hb);(try clear hb);(try clear hb2);(try clear hk);(try clear hi);(try clear ho0)))
  go_ret2
  exact ⟨_,by first|rfl|(simp [errW_none,errW_some] <;> rfl)|(simp [*,errW_none,errW_some] <;> rfl),by (with_reducible repeat (first|apply Kd.R_alloc|apply Kd.R_drewN|apply Kd.R_drew));exact HO485.out,bb_⟩
 ·replace c3:=Bool.eq_false_iff.mpr c3;subst c3;have H1 : (some (([] : List Int),false)) = some (r1,r2):=by rw [if_neg (show ¬ (false = true) by decide)] at H;exact H
  clear H;have H:=H1;clear H1;simp only [Option.some.injEq,Prod.mk.injEq] at H
  obtain ⟨rfl,rfl⟩:=H;go_enter Tryd.func17,Tryd.ntmps17
  go_wp2_with (first|((with_reducible refine gate_dst (N:=1) rfl ?_);refine box_event ?hg (N:=1) ?hd (cs:=#[.int .i64 a0_0,.slice A0_1 l0_1.length c0_1]) (t:=28) ?hr ?_;(case hd=>rfl);(case hg=>rfl);(case hr=>first|(go_simp;done)|(go_simp;rfl));intro gb481 hg w10 hbox hb;have BK481:=A_ (hbox);have GW481:=A_ ((by rw [hg];exact (below_size bb_) : w.heap.size ≤ gb481));have GE481:=A_ ((by rw [hg];exact (below_size bb_) : w.heap.size ≤ gb481));replace HB:=A_ (below_step bb_ hb);clear hb hbox hg;have hcz11_0 : w10.cell? ⟨gb481,0,none⟩ = some (.int .i64 a0_0):=blk_cell BK481.out 0;have hcz11_1 : w10.cell? ⟨gb481,1,none⟩ = some (.slice A0_1 l0_1.length c0_1):=blk_cell BK481.out 1;have hfz11_0:=blk_frozen BK481.out 0;have hfz11_1:=blk_frozen BK481.out 1)|((with_reducible refine gate_callee (f:=108) rfl ?_);refine goesL_ (some 5) rfl rfl Tryd.func108 (by kernel_rfl) rfl #[.agg #[.int .i64 a0_0,.slice A0_1 l0_1.length c0_1]] rfl au_ ?_;(with_reducible refine (impl_isSemi.calls k a0_0 _ _ l0_1 false _ ?side1 ?side2 ?side3 A2.out).mono ?_);(case side1=>exact cl_ (Kd.C_below HR0_1.out HB.out));(case side2=>exact HC0_1.out);(case side3=>first|exact HT.out|exact HT.out.below bb_|(repeat (first|exact HT.out|apply TabOK.drewN|apply TabOK.drew|apply TabOK.alloc)));rintro e w12 ⟨rfl,hb⟩;refine ⟨_,rfl,?_⟩;replace BK481:=bz BK481 hb;replace HB:=A_ (below_step bb_ hb);(try clear hb);(try clear hb2);(try clear hk);(try clear hi)))
  go_ret2
  exact ⟨_,by first|rfl|(simp [errW_none,errW_some] <;> rfl)|(simp [*,errW_none,errW_some] <;> rfl),by first|exact Kd.R_nil _ _ _ _ _|exact Kd.N_nil _ _ _ _ _|exact Kd.V_nil _ _ _ _ _|exact Kd.Q_nil _ _ _ _ _|exact Kd.S_nil _ _ _ _ _,bb_⟩
def laws_eqIntS.l0 : Nat → List Int → List Int → Int → Option (Bool)
 | 0,_,_,_=>none
 | k + 1,x0,x1,x5=>if x5 < (x0.length : Int) then (if 0 ≤ x5 then (if x5 < (x1.length : Int) then (if (rd x0 x5) = (rd x1 x5) then (laws_eqIntS.l0 k x0 x1 (wrap64 (x5 + 1))) else (some false)) else (none)) else (none)) else (some true)
def laws_eqIntS.f (k : Nat) (l0 : List Int) (l1 : List Int) : Option (Bool) := if (l0.length : Int) = (l1.length : Int) then (laws_eqIntS.l0 k l0 l1 0) else (some false)
set_option maxHeartbeats 8000000 in
set_option maxRecDepth 100000 in
theorem laws_eqIntS.calls (k : Nat) (A0 : Option Addr) (c0 : Nat) (l0 : List Int) (A1 : Option Addr) (c1 : Nat) (l1 : List Int) (r : Bool) (w : World) (hr0 : Kd.C (Kd.int .i64) w A0 l0.length l0) (hc0 : l0.length ≤ c0) (hr1 : Kd.C (Kd.int .i64) w A1 l1.length l1) (hc1 : l1.length ≤ c1) (h : laws_eqIntS.f k l0 l1 = some r) :
 Calls Tryd.prog 18 #[.slice A0 l0.length c0,.slice A1 l1.length c1] w fun e w'=>e = .returned (.bool r) ∧ Drawn0 w w':=by
 have HR0:=A_ hr0;have HC0:=A_ hc0;clear hr0 hc0;have HR1:=A_ hr1;have HC1:=A_ hc1;clear hr1 hc1;have H : (if (l0.length : Int) = (l1.length : Int) then (laws_eqIntS.l0 k l0 l1 0) else (some false)) = some r:=h;clear h;by_cases c3 : (l0.length : Int) = (l1.length : Int)
 ·rw [if_pos c3] at H;have c3b0 : ((l0.length : Int) == (l1.length : Int)) = true:=beq_iff_eq.mpr c3;have c3b1 : ((l0.length : Int) != (l1.length : Int)) = false:=bne_eq_false_iff_eq.mpr c3;have c3b2 : (l0.length == l1.length) = true:=by first|simpa using c3|(simp at c3 ⊢;omega)
  clear c3;have H':=A_ H;clear H;go_enter Tryd.func18,Tryd.ntmps18
  go_wp2
  repeat (go_quiet (fail);try go_wp2)
  go_loopg [5] k (fun kq v5 w'=>∃ (x5_1 : Int),v5 = .int .i64 x5_1 ∧ Aside0 (laws_eqIntS.l0 kq l0 l1 x5_1 = some r) ∧ Aside0 (kq ≤ k) ∧ Drawn0 w w')
  case atStart=>exact ⟨(0),(by first|rfl|(simp;done)|(simp [*];done)),H',⟨Nat.le_refl _⟩,by repeat (first|exact Drawn0.refl _|apply Drawn0.step)⟩
  case round =>
   clear H';try clear c1
   try clear p2
   try clear c3
   try clear c3b0
   try clear c3b1
   try clear c3b2
   obtain ⟨x5_1,rfl,HA,HK1,⟨m1,rfl⟩⟩:=hrel;cases gk with
   | zero=>exact absurd HA.out (by simp [laws_eqIntS.l0])
   | succ k1 =>
    have H:=HA.out;clear HA;simp only [laws_eqIntS.l0] at H
    by_cases c4 : x5_1 < (l0.length : Int)
    ·rw [if_pos c4] at H;have c4b0 : decide (x5_1 < (l0.length : Int)) = true:=decide_eq_true c4;clear c4;by_cases c5 : 0 ≤ x5_1
     ·rw [if_pos c5] at H;have c5b0 : decide (0 ≤ x5_1) = true:=decide_eq_true c5;clear c5;by_cases c6 : x5_1 < (l1.length : Int)
      ·rw [if_pos c6] at H;have c6b0 : decide (x5_1 < (l1.length : Int)) = true:=decide_eq_true c6;clear c6;by_cases c7 : (rd l0 x5_1) = (rd l1 x5_1)
       ·rw [if_pos c7] at H;have c7b0 : ((rd l0 x5_1) == (rd l1 x5_1)) = true:=beq_iff_eq.mpr c7;have c7b1 : ((rd l0 x5_1) != (rd l1 x5_1)) = false:=bne_eq_false_iff_eq.mpr c7;clear c7;have H':=A_ H;clear H;have p486 : 0 ≤ (x5_1 : Int):=of_decide_eq_true (by first|(with_reducible assumption)|assumption);have q486 : x5_1 < (l0.length : Int):=of_decide_eq_true (by first|(with_reducible assumption)|assumption);obtain ⟨ad486,e486,hx486_0⟩:=Kd.at_int HR0.out x5_1 p486 q486;cases e486
        replace p486:=eq_true p486;replace q486:=eq_true q486;have p487 : 0 ≤ (x5_1 : Int):=of_decide_eq_true (by first|(with_reducible assumption)|assumption);have q487 : x5_1 < (l1.length : Int):=of_decide_eq_true (by first|(with_reducible assumption)|assumption);obtain ⟨ad487,e487,hx487_0⟩:=Kd.at_int HR1.out x5_1 p487 q487;cases e487
        replace p487:=eq_true p487;replace q487:=eq_true q487;go_wp2
        repeat (go_quiet (fail);try go_wp2)
        go_roundg k1
        case measure=>have:=HK1.out;omega
        case rel=>exact ⟨(wrap64 (x5_1 + 1)),(by first|rfl|(simp;done)|(simp [*];done)),H',⟨by have:=HK1.out;omega⟩,by repeat (first|exact Drawn0.refl _|apply Drawn0.step)⟩
       ·rw [if_neg c7] at H;have c7b0 : ((rd l0 x5_1) == (rd l1 x5_1)) = false:=beq_eq_false_iff_ne.mpr c7;have c7b1 : ((rd l0 x5_1) != (rd l1 x5_1)) = true:=bne_iff_ne.mpr c7;obtain rfl:=Option.some.inj H;have p486 : 0 ≤ (x5_1 : Int):=of_decide_eq_true (by first|(with_reducible assumption)|assumption);have q486 : x5_1 < (l0.length : Int):=of_decide_eq_true (by first|(with_reducible assumption)|assumption);obtain ⟨ad486,e486,hx486_0⟩:=Kd.at_int HR0.out x5_1 p486 q486;cases e486
        replace p486:=eq_true p486;replace q486:=eq_true q486;have p487 : 0 ≤ (x5_1 : Int):=of_decide_eq_true (by first|(with_reducible assumption)|assumption);have q487 : x5_1 < (l1.length : Int):=of_decide_eq_true (by first|(with_reducible assumption)|assumption);obtain ⟨ad487,e487,hx487_0⟩:=Kd.at_int HR1.out x5_1 p487 q487;cases e487
        replace p487:=eq_true p487;replace q487:=eq_true q487;go_wp2
        repeat (go_quiet (fail);try go_wp2)
        go_ret
        exact ⟨by first|rfl|(simp;done)|(simp [*];done),by repeat (first|exact Drawn0.refl _|apply Drawn0.step)⟩
      ·rw [if_neg c6] at H;exact absurd H (by simp)
     ·rw [if_neg c5] at H;exact absurd H (by simp)
    ·rw [if_neg c4] at H;have c4b0 : decide (x5_1 < (l0.length : Int)) = false:=decide_eq_false c4;clear c4;obtain rfl:=Option.some.inj H;go_wp2
     repeat (go_quiet (fail);try go_wp2)
     go_ret
     exact ⟨by first|rfl|(simp;done)|(simp [*];done),by repeat (first|exact Drawn0.refl _|apply Drawn0.step)⟩
 ·rw [if_neg c3] at H;have c3b0 : ((l0.length : Int) == (l1.length : Int)) = false:=beq_eq_false_iff_ne.mpr c3;have c3b1 : ((l0.length : Int) != (l1.length : Int)) = true:=bne_iff_ne.mpr c3;have c3b2 : (l0.length == l1.length) = false:=by first|simpa using c3|(simp at c3 ⊢;omega)
  obtain rfl:=Option.some.inj H;go_enter Tryd.func18,Tryd.ntmps18
  go_wp2
  repeat (go_quiet (fail);try go_wp2)
  go_ret
  exact ⟨by first|rfl|(simp;done)|(simp [*];done),by repeat (first|exact Drawn0.refl _|apply Drawn0.step)⟩
def laws_eqOrder.f (k : Nat) (a0_0 : Int) (l0_1 : List Int) (a1_0 : Int) (l1_1 : List Int) : Option (Bool) := if a0_0 = a1_0 then ((laws_eqIntS.f k l0_1 l1_1).bind fun t490 => (if t490 = true then (some true) else (some false))) else (some false)
set_option maxHeartbeats 8000000 in
set_option maxRecDepth 100000 in
theorem laws_eqOrder.calls (k : Nat) (a0_0 : Int) (A0_1 : Option Addr) (c0_1 : Nat) (l0_1 : List Int) (a1_0 : Int) (A1_1 : Option Addr) (c1_1 : Nat) (l1_1 : List Int) (r : Bool) (w : World) (hr0_1 : Kd.C (Kd.int .i64) w A0_1 l0_1.length l0_1) (hc0_1 : l0_1.length ≤ c0_1) (hr1_1 : Kd.C (Kd.int .i64) w A1_1 l1_1.length l1_1) (hc1_1 : l1_1.length ≤ c1_1) (h : laws_eqOrder.f k a0_0 l0_1 a1_0 l1_1 = some r) :
 Calls Tryd.prog 19 #[.agg #[.int .i64 a0_0,.slice A0_1 l0_1.length c0_1],.agg #[.int .i64 a1_0,.slice A1_1 l1_1.length c1_1]] w fun e w'=>e = .returned (.bool r) ∧ Below w.heap.size w w':=by
 have hu28:=Tryd.underlying28;have HR0_1:=A_ hr0_1;have HC0_1:=A_ hc0_1;clear hr0_1 hc0_1;have HR1_1:=A_ hr1_1;have HC1_1:=A_ hc1_1;clear hr1_1 hc1_1;have HB:=A_ (Below.refl w.heap.size w);have H : (if a0_0 = a1_0 then ((laws_eqIntS.f k l0_1 l1_1).bind fun t490=>(if t490 = true then (some true) else (some false))) else (some false)) = some r:=h;clear h;by_cases c3 : a0_0 = a1_0
 ·rw [if_pos c3] at H;have c3b0 : (a0_0 == a1_0) = true:=beq_iff_eq.mpr c3;have c3b1 : (a0_0 != a1_0) = false:=bne_eq_false_iff_eq.mpr c3;clear c3;replace H:=Option.bind_eq_some_iff.mp H;obtain ⟨t490,A40,H⟩:=H;replace H : (if t490 = true then (some true) else (some false)) = some r:=H;have A4:=A_ A40;clear A40;by_cases c5 : t490 = true
  ·subst c5;have H1 : (some true) = some r:=by rw [if_pos rfl] at H;exact H
   clear H;have H:=H1;clear H1;obtain rfl:=Option.some.inj H;go_enter Tryd.func19,Tryd.ntmps19
   go_wp2_with (first|((with_reducible refine gate_dst (N:=2) rfl ?_);refine box_event ?hg (N:=2) ?hd (cs:=#[.int .i64 a0_0,.slice A0_1 l0_1.length c0_1]) (t:=28) ?hr ?_;(case hd=>rfl);(case hg=>rfl);(case hr=>first|(go_simp;done)|(go_simp;rfl));intro gb488 hg w6 hbox hb;have BK488:=A_ (hbox);have GW488:=A_ ((by rw [hg];exact (below_size bb_) : w.heap.size ≤ gb488));have GE488:=A_ ((by rw [hg];exact (below_size bb_) : w.heap.size ≤ gb488));replace HB:=A_ (below_step bb_ hb);clear hb hbox hg)|((with_reducible refine gate_dst (N:=3) rfl ?_);refine box_event ?hg (N:=3) ?hd (cs:=#[.int .i64 a1_0,.slice A1_1 l1_1.length c1_1]) (t:=28) ?hr ?_;(case hd=>rfl);(case hg=>rfl);(case hr=>first|(go_simp;done)|(go_simp;rfl));intro gb489 hg w7 hbox hb;have BK489:=A_ (hbox);have GW489:=A_ ((by rw [hg];exact (below_size bb_) : w.heap.size ≤ gb489));have GE489:=A_ ((by rw [hg];exact (below_size bb_) : w.heap.size ≤ gb489));replace HB:=A_ (below_step bb_ hb);have NB488_489:=A_ ((by rw [hg];exact Nat.ne_of_lt (blk_lt (bl_ BK488)) : gb488 ≠ gb489));have NB489_488:=A_ ((by rw [hg];exact Nat.ne_of_gt (blk_lt (bl_ BK488)) : gb489 ≠ gb488));replace BK488:=bz BK488 hb;clear hb hbox hg;have hnb8:=NB488_489.out;have hnc8:=NB489_488.out;have hcz9_0 : w7.cell? ⟨gb488,0,none⟩ = some (.int .i64 a0_0):=blk_cell BK488.out 0;have hcz9_1 : w7.cell? ⟨gb488,1,none⟩ = some (.slice A0_1 l0_1.length c0_1):=blk_cell BK488.out 1;have hfz9_0:=blk_frozen BK488.out 0;have hfz9_1:=blk_frozen BK488.out 1;have hcz10_0 : w7.cell? ⟨gb489,0,none⟩ = some (.int .i64 a1_0):=blk_cell BK489.out 0;have hcz10_1 : w7.cell? ⟨gb489,1,none⟩ = some (.slice A1_1 l1_1.length c1_1):=blk_cell BK489.out 1;have hfz10_0:=blk_frozen BK489.out 0;have hfz10_1:=blk_frozen BK489.out 1)|((with_reducible refine gate_callee (f:=18) rfl ?_);refine goesL_ (some 14) rfl rfl Tryd.func18 (by kernel_rfl) rfl #[.slice A0_1 l0_1.length c0_1,.slice A1_1 l1_1.length c1_1] rfl au_ ?_;(with_reducible refine (laws_eqIntS.calls k _ _ l0_1 _ _ l1_1 true _ ?side1 ?side2 ?side3 ?side4 A4.out).mono ?_);(case side1=>exact cl_ (Kd.C_below HR0_1.out HB.out));(case side2=>exact HC0_1.out);(case side3=>exact cl_ (Kd.C_below HR1_1.out HB.out));(case side4=>exact HC1_1.out);rintro e w' ⟨rfl,⟨nd,rfl⟩⟩;refine ⟨_,rfl,?_⟩))
   go_ret
   exact ⟨by first|rfl|(simp [errW_none,errW_some] <;> rfl)|(simp [*,errW_none,errW_some] <;> rfl),bb_⟩
  ·replace c5:=Bool.eq_false_iff.mpr c5;subst c5;have H1 : (some false) = some r:=by rw [if_neg (show ¬ (false = true) by decide)] at H;exact H
   clear H;have H:=H1;clear H1;obtain rfl:=Option.some.inj H;go_enter Tryd.func19,Tryd.ntmps19
   go_wp2_with (first|((with_reducible refine gate_dst (N:=2) rfl ?_);refine box_event ?hg (N:=2) ?hd (cs:=#[.int .i64 a0_0,.slice A0_1 l0_1.length c0_1]) (t:=28) ?hr ?_;(case hd=>rfl);(case hg=>rfl);(case hr=>first|(go_simp;done)|(go_simp;rfl));intro gb488 hg w11 hbox hb;have BK488:=A_ (hbox);have GW488:=A_ ((by rw [hg];exact (below_size bb_) : w.heap.size ≤ gb488));have GE488:=A_ ((by rw [hg];exact (below_size bb_) : w.heap.size ≤ gb488));replace HB:=A_ (below_step bb_ hb);clear hb hbox hg)|((with_reducible refine gate_dst (N:=3) rfl ?_);refine box_event ?hg (N:=3) ?hd (cs:=#[.int .i64 a1_0,.slice A1_1 l1_1.length c1_1]) (t:=28) ?hr ?_;(case hd=>rfl);(case hg=>rfl);(case hr=>first|(go_simp;done)|(go_simp;rfl));intro gb489 hg w12 hbox hb;have BK489:=A_ (hbox);have GW489:=A_ ((by rw [hg];exact (below_size bb_) : w.heap.size ≤ gb489));have GE489:=A_ ((by rw [hg];exact (below_size bb_) : w.heap.size ≤ gb489));replace HB:=A_ (below_step bb_ hb);have NB488_489:=A_ ((by rw [hg];exact Nat.ne_of_lt (blk_lt (bl_ BK488)) : gb488 ≠ gb489));have NB489_488:=A_ ((by rw [hg];exact Nat.ne_of_gt (blk_lt (bl_ BK488)) : gb489 ≠ gb488));replace BK488:=bz BK488 hb;clear hb hbox hg;have hnb13:=NB488_489.out;have hnc13:=NB489_488.out;have hcz14_0 : w12.cell? ⟨gb488,0,none⟩ = some (.int .i64 a0_0):=blk_cell BK488.out 0;have hcz14_1 : w12.cell? ⟨gb488,1,none⟩ = some (.slice A0_1 l0_1.length c0_1):=blk_cell BK488.out 1;have hfz14_0:=blk_frozen BK488.out 0;have hfz14_1:=blk_frozen BK488.out 1;have hcz15_0 : w12.cell? ⟨gb489,0,none⟩ = some (.int .i64 a1_0):=blk_cell BK489.out 0;have hcz15_1 : w12.cell? ⟨gb489,1,none⟩ = some (.slice A1_1 l1_1.length c1_1):=blk_cell BK489.out 1;have hfz15_0:=blk_frozen BK489.out 0;have hfz15_1:=blk_frozen BK489.out 1)|((with_reducible refine gate_callee (f:=18) rfl ?_);refine goesL_ (some 14) rfl rfl Tryd.func18 (by kernel_rfl) rfl #[.slice A0_1 l0_1.length c0_1,.slice A1_1 l1_1.length c1_1] rfl au_ ?_;(with_reducible refine (laws_eqIntS.calls k _ _ l0_1 _ _ l1_1 false _ ?side1 ?side2 ?side3 ?side4 A4.out).mono ?_);(case side1=>exact cl_ (Kd.C_below HR0_1.out HB.out));(case side2=>exact HC0_1.out);(case side3=>exact cl_ (Kd.C_below HR1_1.out HB.out));(case side4=>exact HC1_1.out);rintro e w' ⟨rfl,⟨nd,rfl⟩⟩;refine ⟨_,rfl,?_⟩))
   go_ret
   exact ⟨by first|rfl|(simp [errW_none,errW_some] <;> rfl)|(simp [*,errW_none,errW_some] <;> rfl),bb_⟩
 ·rw [if_neg c3] at H;have c3b0 : (a0_0 == a1_0) = false:=beq_eq_false_iff_ne.mpr c3;have c3b1 : (a0_0 != a1_0) = true:=bne_iff_ne.mpr c3;obtain rfl:=Option.some.inj H;go_enter Tryd.func19,Tryd.ntmps19
  go_wp2_with (first|((with_reducible refine gate_dst (N:=2) rfl ?_);refine box_event ?hg (N:=2) ?hd (cs:=#[.int .i64 a0_0,.slice A0_1 l0_1.length c0_1]) (t:=28) ?hr ?_;(case hd=>rfl);(case hg=>rfl);(case hr=>first|(go_simp;done)|(go_simp;rfl));intro gb488 hg w16 hbox hb;have BK488:=A_ (hbox);have GW488:=A_ ((by rw [hg];exact (below_size bb_) : w.heap.size ≤ gb488));have GE488:=A_ ((by rw [hg];exact (below_size bb_) : w.heap.size ≤ gb488));replace HB:=A_ (below_step bb_ hb);clear hb hbox hg)|((with_reducible refine gate_dst (N:=3) rfl ?_);refine box_event ?hg (N:=3) ?hd (cs:=#[.int .i64 a1_0,.slice A1_1 l1_1.length c1_1]) (t:=28) ?hr ?_;(case hd=>rfl);(case hg=>rfl);(case hr=>first|(go_simp;done)|(go_simp;rfl));intro gb489 hg w17 hbox hb;have BK489:=A_ (hbox);have GW489:=A_ ((by rw [hg];exact (below_size bb_) : w.heap.size ≤ gb489));have GE489:=A_ ((by rw [hg];exact (below_size bb_) : w.heap.size ≤ gb489));replace HB:=A_ (below_step bb_ hb);have NB488_489:=A_ ((by rw [hg];exact Nat.ne_of_lt (blk_lt (bl_ BK488)) : gb488 ≠ gb489));have NB489_488:=A_ ((by rw [hg];exact Nat.ne_of_gt (blk_lt (bl_ BK488)) : gb489 ≠ gb488));replace BK488:=bz BK488 hb;clear hb hbox hg;have hnb18:=NB488_489.out;have hnc18:=NB489_488.out;have hcz19_0 : w17.cell? ⟨gb488,0,none⟩ = some (.int .i64 a0_0):=blk_cell BK488.out 0;have hcz19_1 : w17.cell? ⟨gb488,1,none⟩ = some (.slice A0_1 l0_1.length c0_1):=blk_cell BK488.out 1;have hfz19_0:=blk_frozen BK488.out 0;have hfz19_1:=blk_frozen BK488.out 1;have hcz20_0 : w17.cell? ⟨gb489,0,none⟩ = some (.int .i64 a1_0):=blk_cell BK489.out 0;have hcz20_1 : w17.cell? ⟨gb489,1,none⟩ = some (.slice A1_1 l1_1.length c1_1):=blk_cell BK489.out 1;have hfz20_0:=blk_frozen BK489.out 0;have hfz20_1:=blk_frozen BK489.out 1))
  go_ret
  exact ⟨by first|rfl|(simp [errW_none,errW_some] <;> rfl)|(simp [*,errW_none,errW_some] <;> rfl),bb_⟩
def laws_markIntS.l0 : Nat → List Int → Int → Int → Option (Int × List Int)
 | 0,_,_,_=>none
 | k + 1,x0,x1,x5=>if x5 < (x0.length : Int) then (if 0 ≤ x5 then (laws_markIntS.l0 k (x0.set (x5 : Int).toNat x1) (wrap64 (x1 + 1)) (wrap64 (x5 + 1))) else (none)) else (some (x1,x0))
def laws_markIntS.f (k : Nat) (l0 : List Int) (a1 : Int) : Option (Int × List Int) := laws_markIntS.l0 k l0 a1 0
set_option maxHeartbeats 8000000 in
set_option maxRecDepth 100000 in
theorem laws_markIntS.calls (k : Nat) (P0_ : Nat → Prop) (u9000_ : Value) (l0 : List Int) (a1 : Int) (r1 : Int) (r2 : List Int) (w0 w : World) (hB : Below w0.heap.size w0 w) (ho0 : Kd.R (Kd.int .i64) 3 w w0.heap.size P0_ u9000_ l0) (h : laws_markIntS.f k l0 a1 = some (r1,r2)) :
 Calls Tryd.prog 21 #[u9000_,.int .i64 a1] w fun e w'=>e = .returned (.int .i64 r1) ∧ Kd.R (Kd.int .i64) 3 w' w0.heap.size (fun k_=>(P0_ k_ ∨ w.heap.size ≤ k_)) u9000_ r2 ∧ Below w0.heap.size w0 w' ∧ Kept w w' (fun k_=>P0_ k_):=by
 have HO0:=A_ (show Kd.R (Kd.int .i64) 3 w w0.heap.size (fun k_=>(P0_ k_ ∨ w.heap.size ≤ k_)) u9000_ l0 from Kd.R_mono ho0 (fun k_ hk=>(.inl hk)));have HK:=A_ (Kept.refl w (fun k_=>P0_ k_));have HW0:=A_ hB.size;have HB:=A_ hB;clear hB;have H : (laws_markIntS.l0 k l0 a1 0) = some (r1,r2):=h;clear h;have H':=A_ H;clear H;go_enter Tryd.func21,Tryd.ntmps21
 go_wp2
 go_loopg [1,5] k (fun kq v1 v5 w'=>∃ (x0_1 : List Int) (x1_1 : Int) (x5_1 : Int),v1 = .int .i64 x1_1 ∧ v5 = .int .i64 x5_1 ∧ Aside0 (laws_markIntS.l0 kq x0_1 x1_1 x5_1 = some (r1,r2)) ∧ Aside0 (kq ≤ k) ∧ Aside0 (Kd.R (Kd.int .i64) 3 w' w0.heap.size (fun k_=>(P0_ k_ ∨ w.heap.size ≤ k_)) u9000_ x0_1) ∧ Aside0 (Kept w w' (fun k_=>P0_ k_)) ∧ Aside0 (Below w0.heap.size w0 w'))
 case atStart=>exact ⟨(l0),(a1),(0),(by first|rfl|(simp;done)|(simp [*];done)),(by first|rfl|(simp;done)|(simp [*];done)),H',⟨Nat.le_refl _⟩,⟨by (with_reducible repeat (first|apply Kd.R_alloc|apply Kd.R_drewN|apply Kd.R_drew));exact HO0.out⟩,⟨by repeat (first|(with_reducible first|exact HK.out|apply Kept.alloc|apply Kept.drewN|apply Kept.drew)|exact HK.out)⟩,⟨bb_⟩⟩
 case round =>
  clear H';try clear c2
  try clear p2
  obtain ⟨x0_1,x1_1,x5_1,rfl,rfl,HA,HK1,HO_0,HK,HB⟩:=hrel;cases gk with
  | zero => exact absurd HA.out (by simp [laws_markIntS.l0])
  | succ k1 =>
   have H:=HA.out;clear HA;simp only [laws_markIntS.l0] at H
   by_cases c3 : x5_1 < (x0_1.length : Int)
   ·rw [if_pos c3] at H;have c3b0 : decide (x5_1 < (x0_1.length : Int)) = true:=decide_eq_true c3;clear c3;by_cases c4 : 0 ≤ x5_1
    ·rw [if_pos c4] at H;have c4b0 : decide (0 ≤ x5_1) = true:=decide_eq_true c4;clear c4;obtain ⟨y491,hy491⟩ : ∃ y_ : List Int,y_ = (x0_1.set (x5_1 : Int).toNat x1_1):=⟨_,rfl⟩;replace H : (laws_markIntS.l0 k1 y491 (wrap64 (x1_1 + 1)) (wrap64 (x5_1 + 1))) = some (r1,r2):=by first|(rw [hy491];with_reducible exact H)|(have H2_:=(Option.bind_some _ _).symm.trans H;rw [hy491];with_reducible exact H2_)|(have H2_:=(Option.bind_some _ _).symm.trans H;with_reducible exact H2_)|with_reducible exact H|(rw [hy491];exact H)|exact H
     have Ny491:=A_ hy491;clear hy491;have H':=A_ H;clear H;obtain ⟨Ao6,co6,eo6⟩:=Kd.R_slice HO_0.out;subst eo6;have p5 : 0 ≤ (x5_1 : Int):=of_decide_eq_true (by first|(with_reducible assumption)|assumption);have q5 : (x5_1 : Int) < ((x0_1.length : Int) : Int):=of_decide_eq_true (by first|(with_reducible assumption)|assumption);obtain ⟨go5,co5,eo5,gb5,gl5,cl5,HG5⟩:=Kd.R_form HO_0.out (by omega);(first|cases eo5|(injection eo5 with ea_ en_ ec_;(first|subst ea_|(injection ea_ with ea_;subst ea_));subst ec_;clear en_))
     have GB5:=A_ gb5;have GG5:=A_ HG5;clear gb5 gl5 HG5;have HMgo5:=A_ (show (P0_ go5 ∨ w.heap.size ≤ go5) from (HO_0.out.1 _ rfl));obtain ⟨hx5_0,hf5_0⟩:=Kd.R_celln 0 HO_0.out (x5_1 : Int) p5 q5;replace p5:=eq_true p5;replace q5:=eq_true q5;have HP7:=Kd.R_putg HO_0.out (x5_1 : Int) x1_1;go_wp2_with (first|((with_reducible refine gate_store (t:=3) (p:=15) rfl ?_);refine store_event (t:=3) (p:=15) (v:=?vo_w8) (w1:=(wr.setCell ⟨go5,(x5_1 : Int).toNat,none⟩ (.int .i64 x1_1))) ?hg ?ho ?hn ?hr ?_;(case ho=>rfl);(case hg=>rfl);(case hn=>rfl);(case hr=>first|(go_simp;done)|(go_simp;rfl));intro w8 hw;have hg : wr.grownBy w8 (some go5):=(by rw [hw];exact HP7.2);have hp_ : Kd.R (Kd.int .i64) 3 w8 w0.heap.size (fun k_=>(P0_ k_ ∨ w.heap.size ≤ k_)) (.slice (some ⟨go5,0,none⟩) x0_1.length co6) y491:=(by rw [hw,Ny491.out];exact HP7.1);clear HP7;replace HB:=A_ ((by rw [hw];exact below_set (HB.out) GB5.out : Below w0.heap.size w0 w8));replace HK:=A_ (Kept.of_grown (S:=(fun k_=>P0_ k_)) hg (by repeat (with_reducible first|exact HK.out|apply Kept.alloc|apply Kept.drewN|apply Kept.drew)) (fun k_ e_=>(HO_0.out.1 k_ e_)));replace HO_0:=A_ (hp_);clear hg hw hp_))
     go_roundg k1
     case measure=>have:=HK1.out;omega
     case rel=>exact ⟨(y491),(wrap64 (x1_1 + 1)),(wrap64 (x5_1 + 1)),(by first|rfl|(simp;done)|(simp [*];done)),(by first|rfl|(simp;done)|(simp [*];done)),H',⟨by have:=HK1.out;omega⟩,⟨by (with_reducible repeat (first|apply Kd.R_alloc|apply Kd.R_drewN|apply Kd.R_drew));exact HO_0.out⟩,⟨by repeat (first|(with_reducible first|exact HK.out|apply Kept.alloc|apply Kept.drewN|apply Kept.drew)|exact HK.out)⟩,⟨bb_⟩⟩
    ·rw [if_neg c4] at H;exact absurd H (by simp)
   ·rw [if_neg c3] at H;have c3b0 : decide (x5_1 < (x0_1.length : Int)) = false:=decide_eq_false c3;clear c3;simp only [Option.some.injEq,Prod.mk.injEq] at H
    obtain ⟨rfl,rfl⟩:=H;obtain ⟨Ao9,co9,eo9⟩:=Kd.R_slice HO_0.out;subst eo9;go_wp2
    go_ret
    exact ⟨by first|rfl|(simp [errW_none,errW_some] <;> rfl)|(simp [*,errW_none,errW_some] <;> rfl),by (with_reducible repeat (first|apply Kd.R_alloc|apply Kd.R_drewN|apply Kd.R_drew));exact HO_0.out,bb_,by repeat (first|(with_reducible first|exact HK.out|apply Kept.alloc|apply Kept.drewN|apply Kept.drew)|exact HK.out)⟩
def laws_markOrder.f (k : Nat) (a0_0 : Int) (l0_1 : List Int) (a1 : Int) : Option (Int × List Int) := (laws_markIntS.f k l0_1 a1).bind fun bt493 => (some (bt493.1, bt493.2))
set_option maxHeartbeats 8000000 in
set_option maxRecDepth 100000 in
theorem laws_markOrder.calls (k : Nat) (a0_0 : Int) (P0_1_ : Nat → Prop) (u9000_ : Value) (l0_1 : List Int) (a1 : Int) (r1 : Int) (r2 : List Int) (w0 w : World) (hB : Below w0.heap.size w0 w) (ho0_1 : Kd.R (Kd.int .i64) 3 w w0.heap.size P0_1_ u9000_ l0_1) (h : laws_markOrder.f k a0_0 l0_1 a1 = some (r1,r2)) :
 Calls Tryd.prog 20 #[.agg #[.int .i64 a0_0,u9000_],.int .i64 a1] w fun e w'=>e = .returned (.int .i64 r1) ∧ Kd.R (Kd.int .i64) 3 w' w0.heap.size (fun k_=>(P0_1_ k_ ∨ w.heap.size ≤ k_)) u9000_ r2 ∧ Below w0.heap.size w0 w' ∧ Kept w w' (fun k_=>P0_1_ k_):=by
 have hu28:=Tryd.underlying28;have HO0_1:=A_ (show Kd.R (Kd.int .i64) 3 w w0.heap.size (fun k_=>(P0_1_ k_ ∨ w.heap.size ≤ k_)) u9000_ l0_1 from Kd.R_mono ho0_1 (fun k_ hk=>(.inl hk)));have HK:=A_ (Kept.refl w (fun k_=>P0_1_ k_));have HW0:=A_ hB.size;have HB:=A_ hB;clear hB;have H : ((laws_markIntS.f k l0_1 a1).bind fun bt493=>(some (bt493.1,bt493.2))) = some (r1,r2):=h;clear h;replace H:=Option.bind_eq_some_iff.mp H;obtain ⟨⟨t493,t494⟩,A30,H⟩:=H;replace H : (some (t493,t494)) = some (r1,r2):=H;have A3:=A_ A30;clear A30;simp only [Option.some.injEq,Prod.mk.injEq] at H
 obtain ⟨rfl,rfl⟩:=H;obtain ⟨Ao4,co4,eo4⟩:=Kd.R_slice HO0_1.out;subst eo4;go_enter Tryd.func20,Tryd.ntmps20
 go_wp2_with (first|((with_reducible refine gate_dst (N:=2) rfl ?_);refine box_event ?hg (N:=2) ?hd (cs:=#[.int .i64 a0_0,.slice Ao4 l0_1.length co4]) (t:=28) ?hr ?_;(case hd=>rfl);(case hg=>rfl);(case hr=>first|(go_simp;done)|(go_simp;rfl));intro gb492 hg w5 hbox hb;replace HO0_1:=rb_ HO0_1 hb;have BK492:=A_ (hbox);have GW492:=A_ ((by rw [hg];exact (by first|exact HK.out.1|exact (show Kept w _ (fun k_=>P0_1_ k_) from by repeat (first|(with_reducible first|exact HK.out|apply Kept.alloc|apply Kept.drewN|apply Kept.drew)|exact HK.out)).1) : w.heap.size ≤ gb492));replace HK:=A_ (Kept.below (S:=(fun k_=>P0_1_ k_)) (by repeat (with_reducible first|exact HK.out|apply Kept.alloc|apply Kept.drewN|apply Kept.drew)) hb);have GE492:=A_ ((by rw [hg];exact (below_size bb_) : w0.heap.size ≤ gb492));replace HB:=A_ (below_step bb_ hb);clear hb hbox hg;have hcz6_0 : w5.cell? ⟨gb492,0,none⟩ = some (.int .i64 a0_0):=blk_cell BK492.out 0;have hcz6_1 : w5.cell? ⟨gb492,1,none⟩ = some (.slice Ao4 l0_1.length co4):=blk_cell BK492.out 1;have hfz6_0:=blk_frozen BK492.out 0;have hfz6_1:=blk_frozen BK492.out 1)|((with_reducible refine gate_callee (f:=21) rfl ?_);refine goesL_ (some 8) rfl rfl Tryd.func21 (by kernel_rfl) rfl #[.slice Ao4 l0_1.length co4,.int .i64 a1] rfl au_ ?_;(with_reducible refine (laws_markIntS.calls k (fun k_=>some k_ = (.slice Ao4 l0_1.length co4 : Value).ownBlock) (.slice Ao4 l0_1.length co4) l0_1 a1 t493 t494 w0 _ ?side1 ?side2 A3.out).mono ?_);(case side1=>repeat (first|(with_reducible first|exact HB.out|apply below_alloc|apply pw_below_drewN|apply below_drew1|refine below_set ?_ (Aside0.out (by assumption)))|exact HB.out));(case side2=>exact Kd.R_tight rfl HO0_1.out);rintro e w7 ⟨rfl,hy0,hb,hkp⟩;refine ⟨_,rfl,?_⟩;replace BK492:=A_ (blk_kept (bl_ BK492) hkp (fun hs_=>(fun e_=>(Kd.R_ne HO0_1.out BK492.out (by decide)) e_) hs_));replace HK:=A_ (Kept.then_ (S:=(fun k_=>P0_1_ k_)) (by repeat (first|(with_reducible first|exact HK.out|apply Kept.alloc|apply Kept.drewN|apply Kept.drew|refine Kept.setCell ?_ (.inr GW492.out) _)|exact HK.out)) hkp (fun k_ hs_=>(fun e_=>(HO0_1.out.1 k_ e_.symm)) hs_));replace HO0_1:=A_ (Kd.R_reok rfl hy0 (fun k_ e_=>HO0_1.out.1 k_ e_));replace HB:=A_ (hb);(try clear hb);(try clear hkp);(try clear hy0)))
 go_ret
 exact ⟨by first|rfl|(simp [errW_none,errW_some] <;> rfl)|(simp [*,errW_none,errW_some] <;> rfl),by (with_reducible repeat (first|apply Kd.R_alloc|apply Kd.R_drewN|apply Kd.R_drew));exact HO0_1.out,bb_,by repeat (first|(with_reducible first|exact HK.out|apply Kept.alloc|apply Kept.drewN|apply Kept.drew|refine Kept.setCell ?_ (.inr GW492.out) _)|exact HK.out)⟩
def laws_heldIntS.l0 : Nat → List Int → Int → Int → Option (Int)
 | 0,_,_,_=>none
 | k + 1,x0,x1,x5=>if x5 < (x0.length : Int) then (if 0 ≤ x5 then (if (rd x0 x5) = x1 then (laws_heldIntS.l0 k x0 (wrap64 (x1 + 1)) (wrap64 (x5 + 1))) else (some (-1))) else (none)) else (some x1)
def laws_heldIntS.f (k : Nat) (l0 : List Int) (a1 : Int) : Option (Int) := laws_heldIntS.l0 k l0 a1 0
set_option maxHeartbeats 8000000 in
set_option maxRecDepth 100000 in
theorem laws_heldIntS.calls (k : Nat) (A0 : Option Addr) (c0 : Nat) (l0 : List Int) (a1 : Int) (r : Int) (w : World) (hr0 : Kd.C (Kd.int .i64) w A0 l0.length l0) (hc0 : l0.length ≤ c0) (h : laws_heldIntS.f k l0 a1 = some r) :
 Calls Tryd.prog 22 #[.slice A0 l0.length c0,.int .i64 a1] w fun e w'=>e = .returned (.int .i64 r) ∧ Drawn0 w w':=by
 have HR0:=A_ hr0;have HC0:=A_ hc0;clear hr0 hc0;have H : (laws_heldIntS.l0 k l0 a1 0) = some r:=h;clear h;have H':=A_ H;clear H;go_enter Tryd.func22,Tryd.ntmps22
 go_wp2
 go_loopg [1,5] k (fun kq v1 v5 w'=>∃ (x1_1 : Int) (x5_1 : Int),v1 = .int .i64 x1_1 ∧ v5 = .int .i64 x5_1 ∧ Aside0 (laws_heldIntS.l0 kq l0 x1_1 x5_1 = some r) ∧ Aside0 (kq ≤ k) ∧ Drawn0 w w')
 case atStart=>exact ⟨(a1),(0),(by first|rfl|(simp;done)|(simp [*];done)),(by first|rfl|(simp;done)|(simp [*];done)),H',⟨Nat.le_refl _⟩,by repeat (first|exact Drawn0.refl _|apply Drawn0.step)⟩
 case round =>
  clear H';try clear c2
  try clear p2
  obtain ⟨x1_1,x5_1,rfl,rfl,HA,HK1,⟨m1,rfl⟩⟩:=hrel;cases gk with
  | zero => exact absurd HA.out (by simp [laws_heldIntS.l0])
  | succ k1 =>
   have H:=HA.out;clear HA;simp only [laws_heldIntS.l0] at H
   by_cases c3 : x5_1 < (l0.length : Int)
   ·rw [if_pos c3] at H;have c3b0 : decide (x5_1 < (l0.length : Int)) = true:=decide_eq_true c3;clear c3;by_cases c4 : 0 ≤ x5_1
    ·rw [if_pos c4] at H;have c4b0 : decide (0 ≤ x5_1) = true:=decide_eq_true c4;clear c4;by_cases c5 : (rd l0 x5_1) = x1_1
     ·rw [if_pos c5] at H;have c5b0 : ((rd l0 x5_1) == x1_1) = true:=beq_iff_eq.mpr c5;have c5b1 : ((rd l0 x5_1) != x1_1) = false:=bne_eq_false_iff_eq.mpr c5;clear c5;have H':=A_ H;clear H;have p495 : 0 ≤ (x5_1 : Int):=of_decide_eq_true (by first|(with_reducible assumption)|assumption);have q495 : x5_1 < (l0.length : Int):=of_decide_eq_true (by first|(with_reducible assumption)|assumption);obtain ⟨ad495,e495,hx495_0⟩:=Kd.at_int HR0.out x5_1 p495 q495;cases e495
      replace p495:=eq_true p495;replace q495:=eq_true q495;go_wp2
      go_roundg k1
      case measure=>have:=HK1.out;omega
      case rel=>exact ⟨(wrap64 (x1_1 + 1)),(wrap64 (x5_1 + 1)),(by first|rfl|(simp;done)|(simp [*];done)),(by first|rfl|(simp;done)|(simp [*];done)),H',⟨by have:=HK1.out;omega⟩,by repeat (first|exact Drawn0.refl _|apply Drawn0.step)⟩
     ·rw [if_neg c5] at H;have c5b0 : ((rd l0 x5_1) == x1_1) = false:=beq_eq_false_iff_ne.mpr c5;have c5b1 : ((rd l0 x5_1) != x1_1) = true:=bne_iff_ne.mpr c5;obtain rfl:=Option.some.inj H;have p495 : 0 ≤ (x5_1 : Int):=of_decide_eq_true (by first|(with_reducible assumption)|assumption);have q495 : x5_1 < (l0.length : Int):=of_decide_eq_true (by first|(with_reducible assumption)|assumption);obtain ⟨ad495,e495,hx495_0⟩:=Kd.at_int HR0.out x5_1 p495 q495;cases e495
      replace p495:=eq_true p495;replace q495:=eq_true q495;go_wp2
      go_ret
      exact ⟨by first|rfl|(simp;done)|(simp [*];done),by repeat (first|exact Drawn0.refl _|apply Drawn0.step)⟩
    ·rw [if_neg c4] at H;exact absurd H (by simp)
   ·rw [if_neg c3] at H;have c3b0 : decide (x5_1 < (l0.length : Int)) = false:=decide_eq_false c3;clear c3;obtain rfl:=Option.some.inj H;go_wp2
    go_ret
    exact ⟨by first|rfl|(simp;done)|(simp [*];done),by repeat (first|exact Drawn0.refl _|apply Drawn0.step)⟩
mutual
def laws_FnExactStairOf.j0 : Nat → List Int → Bool → List Int → Bool → Bool → Int → List Int → Int → List Int → Option (Bool)
 | 0,_,_,_,_,_,_,_,_,_=>none
 | k + 1,x4,x5,x7,x8,x40,x497000,x497001,x511000,x511001=>if x40 = true then (some false) else ((laws_toOrder.f k x497000 x497001).bind fun bt516=>((laws_eqOrder.f k x511000 x511001 bt516.1 bt516.2).bind fun t520=>(if t520 = true then ((laws_markOrder.f k x511000 x511001 1).bind fun bt521=>(if bt521.1 < 0 then (laws_FnExactStairOf.j1 k x4 x5 x7 true x497000 x497001) else ((laws_eqIntS.f k x7 x4).bind fun t523=>(if t523 = true then (laws_FnExactStairOf.j1 k x4 x5 x7 (x8 != x5) x497000 x497001) else (laws_FnExactStairOf.j1 k x4 x5 x7 true x497000 x497001))))) else (some false))))
def laws_FnExactStairOf.j1 : Nat → List Int → Bool → List Int → Bool → Int → List Int → Option (Bool)
 | 0,_,_,_,_,_,_=>none
 | k + 1,x4,x5,x7,x61,x497000,x497001=>if x61 = true then (some false) else ((laws_markIntS.f k x7 1).bind fun bt524=>((laws_heldIntS.f k bt524.2 1).bind fun t526=>(if t526 < 0 then (some false) else (if t526 = bt524.1 then ((laws_toOrder.f k x497000 x497001).bind fun bt527=>((impl_StairOf.f k bt527.1 bt527.2).bind fun bt531=>((laws_eqIntS.f k bt531.1 x4).bind fun t535=>(if t535 = true then (laws_FnExactStairOf.j2 k bt524.2 bt524.1 (bt531.2 != x5)) else (laws_FnExactStairOf.j2 k bt524.2 bt524.1 true))))) else (some false)))))
def laws_FnExactStairOf.j2 : Nat → List Int → Int → Bool → Option (Bool)
 | 0,_,_,_=>none
 | k + 1,x7,x10,x87=>if x87 = true then (some false) else ((laws_heldIntS.f k x7 1).bind fun t536=>(if t536 < 0 then (some false) else (if t536 = x10 then (some true) else (some false))))
end
def laws_FnExactStairOf.f (k : Nat) (a0_0 : Int) (l0_1 : List Int) : Option (Bool) := (laws_szOrder.f a0_0 l0_1 1048576).bind fun t497 => (if t497 < 0 then (some true) else ((laws_toOrder.f k a0_0 l0_1).bind fun bt498 => ((spec_StairOf.f k bt498.1 bt498.2).bind fun bt502 => ((laws_toOrder.f k a0_0 l0_1).bind fun bt506 => ((impl_StairOf.f k bt506.1 bt506.2).bind fun bt511 => ((laws_eqIntS.f k bt511.1 bt502.1).bind fun t515 => (if t515 = true then (laws_FnExactStairOf.j0 k bt502.1 bt502.2 bt511.1 bt511.2 (bt511.2 != bt502.2) a0_0 l0_1 bt506.1 bt506.2) else (laws_FnExactStairOf.j0 k bt502.1 bt502.2 bt511.1 bt511.2 true a0_0 l0_1 bt506.1 bt506.2))))))))
set_option maxHeartbeats 8000000 in
set_option maxRecDepth 100000 in
theorem laws_FnExactStairOf.calls (k : Nat) (a0_0 : Int) (A0_1 : Option Addr) (c0_1 : Nat) (l0_1 : List Int) (r : Bool) (w : World) (hr0_1 : Kd.C (Kd.int .i64) w A0_1 l0_1.length l0_1) (hc0_1 : l0_1.length ≤ c0_1) (hT : TabOK w) (h : laws_FnExactStairOf.f k a0_0 l0_1 = some r) :
 Calls Tryd.prog 3 #[.agg #[.int .i64 a0_0,.slice A0_1 l0_1.length c0_1]] w fun e w'=>e = .returned (.bool r) ∧ Below w.heap.size w w':=by
 have hu24:=Tryd.underlying24;have hu28:=Tryd.underlying28;have HT:=A_ hT;clear hT;have HR0_1:=A_ hr0_1;have HC0_1:=A_ hc0_1;clear hr0_1 hc0_1;have HB:=A_ (Below.refl w.heap.size w);have H : ((laws_szOrder.f a0_0 l0_1 1048576).bind fun t497=>(if t497 < 0 then (some true) else ((laws_toOrder.f k a0_0 l0_1).bind fun bt498=>((spec_StairOf.f k bt498.1 bt498.2).bind fun bt502=>((laws_toOrder.f k a0_0 l0_1).bind fun bt506=>((impl_StairOf.f k bt506.1 bt506.2).bind fun bt511=>((laws_eqIntS.f k bt511.1 bt502.1).bind fun t515=>(if t515 = true then (laws_FnExactStairOf.j0 k bt502.1 bt502.2 bt511.1 bt511.2 (bt511.2 != bt502.2) a0_0 l0_1 bt506.1 bt506.2) else (laws_FnExactStairOf.j0 k bt502.1 bt502.2 bt511.1 bt511.2 true a0_0 l0_1 bt506.1 bt506.2))))))))) = some r:=h;clear h;replace H:=Option.bind_eq_some_iff.mp H;obtain ⟨t497,A20,H⟩:=H;replace H : (if t497 < 0 then (some true) else ((laws_toOrder.f k a0_0 l0_1).bind fun bt498=>((spec_StairOf.f k bt498.1 bt498.2).bind fun bt502=>((laws_toOrder.f k a0_0 l0_1).bind fun bt506=>((impl_StairOf.f k bt506.1 bt506.2).bind fun bt511=>((laws_eqIntS.f k bt511.1 bt502.1).bind fun t515=>(if t515 = true then (laws_FnExactStairOf.j0 k bt502.1 bt502.2 bt511.1 bt511.2 (bt511.2 != bt502.2) a0_0 l0_1 bt506.1 bt506.2) else (laws_FnExactStairOf.j0 k bt502.1 bt502.2 bt511.1 bt511.2 true a0_0 l0_1 bt506.1 bt506.2)))))))) = some r:=H;have A2:=A_ A20;clear A20;by_cases c3 : t497 < 0
 ·rw [if_pos c3] at H;have c3b0 : decide (t497 < 0) = true:=decide_eq_true c3;clear c3;obtain rfl:=Option.some.inj H;go_enter Tryd.func3,Tryd.ntmps3
  go_wp2_with (first|((with_reducible refine gate_dst (N:=1) rfl ?_);refine box_event ?hg (N:=1) ?hd (cs:=#[.int .i64 a0_0,.slice A0_1 l0_1.length c0_1]) (t:=24) ?hr ?_;(case hd=>rfl);(case hg=>rfl);(case hr=>first|(go_simp;done)|(go_simp;rfl));intro gb496 hg w4 hbox hb;have BK496:=A_ (hbox);have GW496:=A_ ((by rw [hg];exact (below_size bb_) : w.heap.size ≤ gb496));have GE496:=A_ ((by rw [hg];exact (below_size bb_) : w.heap.size ≤ gb496));replace HB:=A_ (below_step bb_ hb);clear hb hbox hg;have hcz5_0 : w4.cell? ⟨gb496,0,none⟩ = some (.int .i64 a0_0):=blk_cell BK496.out 0;have hcz5_1 : w4.cell? ⟨gb496,1,none⟩ = some (.slice A0_1 l0_1.length c0_1):=blk_cell BK496.out 1;have hfz5_0:=blk_frozen BK496.out 0;have hfz5_1:=blk_frozen BK496.out 1)|((with_reducible refine gate_callee (f:=14) rfl ?_);refine goesL_ (some 16) rfl rfl Tryd.func14 (by kernel_rfl) rfl #[.agg #[.int .i64 a0_0,.slice A0_1 l0_1.length c0_1],.int .i64 1048576] rfl au_ ?_;(with_reducible refine (laws_szOrder.calls a0_0 _ _ l0_1 1048576 t497 _ ?side1 ?side2 A2.out).mono ?_);(case side1=>exact cl_ (Kd.C_below HR0_1.out HB.out));(case side2=>exact HC0_1.out);rintro e w6 ⟨rfl,hb⟩;refine ⟨_,rfl,?_⟩;replace BK496:=bz BK496 hb;replace HB:=A_ (below_step bb_ hb);(try clear hb);(try clear hb2);(try clear hk);(try clear hi)))
  go_ret
  exact ⟨by first|rfl|(simp [errW_none,errW_some] <;> rfl)|(simp [*,errW_none,errW_some] <;> rfl),bb_⟩
 ·rw [if_neg c3] at H;have c3b0 : decide (t497 < 0) = false:=decide_eq_false c3;clear c3;replace H:=Option.bind_eq_some_iff.mp H;obtain ⟨⟨t498,t499⟩,A70,H⟩:=H;replace H : ((spec_StairOf.f k t498 t499).bind fun bt502=>((laws_toOrder.f k a0_0 l0_1).bind fun bt506=>((impl_StairOf.f k bt506.1 bt506.2).bind fun bt511=>((laws_eqIntS.f k bt511.1 bt502.1).bind fun t515=>(if t515 = true then (laws_FnExactStairOf.j0 k bt502.1 bt502.2 bt511.1 bt511.2 (bt511.2 != bt502.2) a0_0 l0_1 bt506.1 bt506.2) else (laws_FnExactStairOf.j0 k bt502.1 bt502.2 bt511.1 bt511.2 true a0_0 l0_1 bt506.1 bt506.2)))))) = some r:=H;have A7:=A_ A70;clear A70;replace H:=Option.bind_eq_some_iff.mp H;obtain ⟨⟨t502,t505⟩,A80,H⟩:=H;replace H : ((laws_toOrder.f k a0_0 l0_1).bind fun bt506=>((impl_StairOf.f k bt506.1 bt506.2).bind fun bt511=>((laws_eqIntS.f k bt511.1 t502).bind fun t515=>(if t515 = true then (laws_FnExactStairOf.j0 k t502 t505 bt511.1 bt511.2 (bt511.2 != t505) a0_0 l0_1 bt506.1 bt506.2) else (laws_FnExactStairOf.j0 k t502 t505 bt511.1 bt511.2 true a0_0 l0_1 bt506.1 bt506.2))))) = some r:=H;have A8:=A_ A80;clear A80;replace H:=Option.bind_eq_some_iff.mp H;obtain ⟨⟨t506,t507⟩,A90,H⟩:=H;replace H : ((impl_StairOf.f k t506 t507).bind fun bt511=>((laws_eqIntS.f k bt511.1 t502).bind fun t515=>(if t515 = true then (laws_FnExactStairOf.j0 k t502 t505 bt511.1 bt511.2 (bt511.2 != t505) a0_0 l0_1 t506 t507) else (laws_FnExactStairOf.j0 k t502 t505 bt511.1 bt511.2 true a0_0 l0_1 t506 t507)))) = some r:=H;have A9:=A_ A90;clear A90;replace H:=Option.bind_eq_some_iff.mp H;obtain ⟨⟨t511,t514⟩,A100,H⟩:=H;replace H : ((laws_eqIntS.f k t511 t502).bind fun t515=>(if t515 = true then (laws_FnExactStairOf.j0 k t502 t505 t511 t514 (t514 != t505) a0_0 l0_1 t506 t507) else (laws_FnExactStairOf.j0 k t502 t505 t511 t514 true a0_0 l0_1 t506 t507))) = some r:=H;have A10:=A_ A100;clear A100;have HC11:=A_ H;clear H;go_enter Tryd.func3,Tryd.ntmps3
  go_upto_region 8 with (first|((with_reducible refine gate_dst (N:=1) rfl ?_);refine box_event ?hg (N:=1) ?hd (cs:=#[.int .i64 a0_0,.slice A0_1 l0_1.length c0_1]) (t:=24) ?hr ?_;(case hd=>rfl);(case hg=>rfl);(case hr=>first|(go_simp;done)|(go_simp;rfl));intro gb496 hg w12 hbox hb;have BK496:=A_ (hbox);have GW496:=A_ ((by rw [hg];exact (below_size bb_) : w.heap.size ≤ gb496));have GE496:=A_ ((by rw [hg];exact (below_size bb_) : w.heap.size ≤ gb496));replace HB:=A_ (below_step bb_ hb);clear hb hbox hg;have hcz13_0 : w12.cell? ⟨gb496,0,none⟩ = some (.int .i64 a0_0):=blk_cell BK496.out 0;have hcz13_1 : w12.cell? ⟨gb496,1,none⟩ = some (.slice A0_1 l0_1.length c0_1):=blk_cell BK496.out 1;have hfz13_0:=blk_frozen BK496.out 0;have hfz13_1:=blk_frozen BK496.out 1)|((with_reducible refine gate_callee (f:=14) rfl ?_);refine goesL_ (some 16) rfl rfl Tryd.func14 (by kernel_rfl) rfl #[.agg #[.int .i64 a0_0,.slice A0_1 l0_1.length c0_1],.int .i64 1048576] rfl au_ ?_;(with_reducible refine (laws_szOrder.calls a0_0 _ _ l0_1 1048576 t497 _ ?side1 ?side2 A2.out).mono ?_);(case side1=>exact cl_ (Kd.C_below HR0_1.out HB.out));(case side2=>exact HC0_1.out);rintro e w14 ⟨rfl,hb⟩;refine ⟨_,rfl,?_⟩;replace BK496:=bz BK496 hb;replace HB:=A_ (below_step bb_ hb);(try clear hb);(try clear hb2);(try clear hk);(try clear hi);have hcz15_0 : w14.cell? ⟨gb496,0,none⟩ = some (.int .i64 a0_0):=blk_cell BK496.out 0;have hcz15_1 : w14.cell? ⟨gb496,1,none⟩ = some (.slice A0_1 l0_1.length c0_1):=blk_cell BK496.out 1;have hfz15_0:=blk_frozen BK496.out 0;have hfz15_1:=blk_frozen BK496.out 1)|((with_reducible refine gate_callee (f:=16) rfl ?_);refine goesL_ (some 21) rfl rfl Tryd.func16 (by kernel_rfl) rfl #[.agg #[.int .i64 a0_0,.slice A0_1 l0_1.length c0_1]] rfl au_ ?_;(with_reducible refine (laws_toOrder.calls k a0_0 _ _ l0_1 t498 t499 _ ?side1 ?side2 A7.out).mono ?_);(case side1=>exact cl_ (Kd.C_below HR0_1.out HB.out));(case side2=>exact HC0_1.out);rintro e w16 ⟨v500,rfl,ho0,hb⟩;refine ⟨_,rfl,?_⟩;have HO501:=A_ (Kd.R_lower ho0 (below_size bb_));replace BK496:=bz BK496 hb;replace HB:=A_ (below_step bb_ hb);(try clear hb);(try clear hb2);(try clear hk);(try clear hi);(try clear ho0);obtain ⟨Ao17,co17,eo17⟩:=Kd.R_slice HO501.out;subst eo17)|((with_reducible refine gate_callee (f:=15) rfl ?_);refine goesL_ (some 22) rfl rfl Tryd.func15 (by kernel_rfl) rfl #[.agg #[.int .i64 t498,.slice Ao17 t499.length co17]] rfl au_ ?_;(with_reducible refine (spec_StairOf.calls k t498 _ _ t499 t502 t505 _ ?side1 ?side2 A8.out).mono ?_);(case side1=>exact cl_ (Kd.R_reads' HO501.out).2.2);(case side2=>exact (Kd.R_reads' HO501.out).2.1);rintro e w18 ⟨v503,rfl,ho0,hb⟩;refine ⟨_,rfl,?_⟩;have HO504:=A_ (Kd.R_lower (Kd.R_new' ho0 (Kd.R_lt (rl_ HO501))) (below_size bb_));replace HO501:=A_ (Kd.R_elder' (rl_ HO501) (Kd.R_base ho0) hb);replace BK496:=bz BK496 hb;replace HB:=A_ (below_step bb_ hb);(try clear hb);(try clear hb2);(try clear hk);(try clear hi);(try clear ho0);have hcz19_0 : w18.cell? ⟨gb496,0,none⟩ = some (.int .i64 a0_0):=blk_cell BK496.out 0;have hcz19_1 : w18.cell? ⟨gb496,1,none⟩ = some (.slice A0_1 l0_1.length c0_1):=blk_cell BK496.out 1;have hfz19_0:=blk_frozen BK496.out 0;have hfz19_1:=blk_frozen BK496.out 1)|((with_reducible refine gate_callee (f:=16) rfl ?_);refine goesL_ (some 26) rfl rfl Tryd.func16 (by kernel_rfl) rfl #[.agg #[.int .i64 a0_0,.slice A0_1 l0_1.length c0_1]] rfl au_ ?_;(with_reducible refine (laws_toOrder.calls k a0_0 _ _ l0_1 t506 t507 _ ?side1 ?side2 A9.out).mono ?_);(case side1=>exact cl_ (Kd.C_below HR0_1.out HB.out));(case side2=>exact HC0_1.out);rintro e w20 ⟨v508,rfl,ho0,hb⟩;refine ⟨_,rfl,?_⟩;have HO509:=A_ (Kd.R_lower (Kd.R_new' (Kd.R_new' ho0 (Kd.R_lt (rl_ HO501))) (Kd.R_lt (rl_ HO504))) (below_size bb_));replace HO501:=A_ (Kd.R_elder' (rl_ HO501) (Kd.R_base ho0) hb);replace HO504:=A_ (Kd.R_elder' (rl_ HO504) (Kd.R_base ho0) hb);replace BK496:=bz BK496 hb;replace HB:=A_ (below_step bb_ hb);(try clear hb);(try clear hb2);(try clear hk);(try clear hi);(try clear ho0))|((with_reducible refine gate_dst (N:=6) rfl ?_);refine box_event ?hg (N:=6) ?hd (cs:=#[.int .i64 0,.slice none 0 0]) (t:=28) ?hr ?_;(case hd=>rfl);(case hg=>rfl);(case hr=>first|(go_simp;done)|(go_simp;rfl));intro gb510 hg w21 hbox hb;replace HO501:=rb_ HO501 hb;replace HO504:=rb_ HO504 hb;replace HO509:=rb_ HO509 hb;have BK510:=A_ (hbox);have GW510:=A_ ((by rw [hg];exact (below_size bb_) : w.heap.size ≤ gb510));have GE510:=A_ ((by rw [hg];exact (below_size bb_) : w.heap.size ≤ gb510));replace HB:=A_ (below_step bb_ hb);have NB496_510:=A_ ((by rw [hg];exact Nat.ne_of_lt (blk_lt (bl_ BK496)) : gb496 ≠ gb510));have NB510_496:=A_ ((by rw [hg];exact Nat.ne_of_gt (blk_lt (bl_ BK496)) : gb510 ≠ gb496));replace BK496:=bz BK496 hb;clear hb hbox hg;have hnb22:=NB510_496.out;have hnc22:=NB496_510.out;have hcz23_0 : w21.cell? ⟨gb510,0,none⟩ = some (.int .i64 0):=blk_cell BK510.out 0;have hcz23_1 : w21.cell? ⟨gb510,1,none⟩ = some (.slice none 0 0):=blk_cell BK510.out 1;have hfz23_0:=blk_frozen BK510.out 0;have hfz23_1:=blk_frozen BK510.out 1;obtain ⟨Ao24,co24,eo24⟩:=Kd.R_slice HO509.out;subst eo24)|((with_reducible refine gate_callee (f:=17) rfl ?_);refine goesL_ (some 29) rfl rfl Tryd.func17 (by kernel_rfl) rfl #[.agg #[.int .i64 t506,.slice Ao24 t507.length co24]] rfl au_ ?_;(with_reducible refine (impl_StairOf.calls k t506 _ _ t507 t511 t514 _ ?side1 ?side2 ?side3 A10.out).mono ?_);(case side1=>refine (Kd.R_reads' (e:=3) (base:=w.heap.size) (ok:=fun k_=>((True ∧ some k_ ≠ (.slice Ao17 t499.length co17 : Value).ownBlock) ∧ some k_ ≠ (v503 : Value).ownBlock)) (n:=t507.length) (c:=co24) ?_).2.2;exact (by (with_reducible repeat (first|apply Kd.R_alloc|apply Kd.R_drewN|apply Kd.R_drew));exact (Kd.R_mono (Kd.R_far (p:=⟨gb510,1,none⟩) (Kd.R_far (p:=⟨gb510,0,none⟩) (Kd.R_types HO509.out BK510.out (by decide)) (fun _ hk=>hk.2) (.int .i64 t506)) (fun _ hk=>hk.2) (.slice Ao24 t507.length co24)) (fun _ h_=>h_.1))));(case side2=>exact (Kd.R_reads' HO509.out).2.1);(case side3=>first|exact HT.out|exact HT.out.below bb_|(repeat (first|exact HT.out|apply TabOK.drewN|apply TabOK.drew|apply TabOK.alloc)));rintro e w25 ⟨v512,rfl,ho0,hb⟩;refine ⟨_,rfl,?_⟩;have HO513:=A_ (Kd.R_lower (Kd.R_new' (Kd.R_new' (Kd.R_new' ho0 (Kd.R_lt (by (with_reducible repeat (first|apply Kd.R_alloc|apply Kd.R_drewN|apply Kd.R_drew));exact (Kd.R_mono (Kd.R_far (p:=⟨gb510,1,none⟩) (Kd.R_far (p:=⟨gb510,0,none⟩) (Kd.R_types HO501.out BK510.out (by decide)) (fun _ hk=>hk.2) (.int .i64 t506)) (fun _ hk=>hk.2) (.slice Ao24 t507.length co24)) (fun _ h_=>h_.1))))) (Kd.R_lt (by (with_reducible repeat (first|apply Kd.R_alloc|apply Kd.R_drewN|apply Kd.R_drew));exact (Kd.R_mono (Kd.R_far (p:=⟨gb510,1,none⟩) (Kd.R_far (p:=⟨gb510,0,none⟩) (Kd.R_types HO504.out BK510.out (by decide)) (fun _ hk=>hk.2) (.int .i64 t506)) (fun _ hk=>hk.2) (.slice Ao24 t507.length co24)) (fun _ h_=>h_.1))))) (Kd.R_lt (by (with_reducible repeat (first|apply Kd.R_alloc|apply Kd.R_drewN|apply Kd.R_drew));exact (Kd.R_mono (Kd.R_far (p:=⟨gb510,1,none⟩) (Kd.R_far (p:=⟨gb510,0,none⟩) (Kd.R_types HO509.out BK510.out (by decide)) (fun _ hk=>hk.2) (.int .i64 t506)) (fun _ hk=>hk.2) (.slice Ao24 t507.length co24)) (fun _ h_=>h_.1))))) (below_size bb_));replace HO501:=A_ (Kd.R_elder' (by (with_reducible repeat (first|apply Kd.R_alloc|apply Kd.R_drewN|apply Kd.R_drew));exact (Kd.R_mono (Kd.R_far (p:=⟨gb510,1,none⟩) (Kd.R_far (p:=⟨gb510,0,none⟩) (Kd.R_types HO501.out BK510.out (by decide)) (fun _ hk=>hk.2) (.int .i64 t506)) (fun _ hk=>hk.2) (.slice Ao24 t507.length co24)) (fun _ h_=>h_.1))) (Kd.R_base ho0) hb);replace HO504:=A_ (Kd.R_elder' (by (with_reducible repeat (first|apply Kd.R_alloc|apply Kd.R_drewN|apply Kd.R_drew));exact (Kd.R_mono (Kd.R_far (p:=⟨gb510,1,none⟩) (Kd.R_far (p:=⟨gb510,0,none⟩) (Kd.R_types HO504.out BK510.out (by decide)) (fun _ hk=>hk.2) (.int .i64 t506)) (fun _ hk=>hk.2) (.slice Ao24 t507.length co24)) (fun _ h_=>h_.1))) (Kd.R_base ho0) hb);replace HO509:=A_ (Kd.R_elder' (by (with_reducible repeat (first|apply Kd.R_alloc|apply Kd.R_drewN|apply Kd.R_drew));exact (Kd.R_mono (Kd.R_far (p:=⟨gb510,1,none⟩) (Kd.R_far (p:=⟨gb510,0,none⟩) (Kd.R_types HO509.out BK510.out (by decide)) (fun _ hk=>hk.2) (.int .i64 t506)) (fun _ hk=>hk.2) (.slice Ao24 t507.length co24)) (fun _ h_=>h_.1))) (Kd.R_base ho0) hb);replace BK496:=A_ (blk_below (g:=gb496) (o:=.cells #[.int .i64 a0_0,.slice A0_1 l0_1.length c0_1] 24 (0,0)) (by (with_reducible repeat (first|refine blk_drewN ?_ _|refine blk_drew ?_|refine blk_alloc ?_ _));refine blk_far ?_ NB496_510.out _;(with_reducible repeat (first|refine blk_drewN ?_ _|refine blk_drew ?_|refine blk_alloc ?_ _));refine blk_far ?_ NB496_510.out _;(with_reducible repeat (first|refine blk_drewN ?_ _|refine blk_drew ?_|refine blk_alloc ?_ _));exact BK496.out) hb);replace BK510:=A_ (blk_below (g:=gb510) (o:=.cells #[.int .i64 t506,.slice Ao24 t507.length co24] 28 (0,0)) (by (with_reducible repeat (first|refine blk_drewN ?_ _|refine blk_drew ?_|refine blk_alloc ?_ _));refine blk_put (cs:=#[.int .i64 t506,.slice none 0 0]) ?_ 1 _ rfl;(with_reducible repeat (first|refine blk_drewN ?_ _|refine blk_drew ?_|refine blk_alloc ?_ _));refine blk_put (cs:=#[.int .i64 0,.slice none 0 0]) ?_ 0 _ rfl;(with_reducible repeat (first|refine blk_drewN ?_ _|refine blk_drew ?_|refine blk_alloc ?_ _));exact BK510.out) hb);replace HB:=A_ (below_step bb_ hb);(try clear hb);(try clear hb2);(try clear hk);(try clear hi);(try clear ho0)))
  (try simp only [Act.put,L_,M_,N_]);go_cut [40] (fun v40 wc=>∃ (kq : Nat) (x40_10 : Bool),v40 = .bool x40_10 ∧ Aside0 (laws_FnExactStairOf.j0 kq t502 t505 t511 t514 x40_10 a0_0 l0_1 t506 t507 = some r) ∧ Aside0 (kq ≤ k) ∧ Aside0 (Kd.R (Kd.int .i64) 3 wc w.heap.size (fun k_=>some k_ ≠ (v512 : Value).ownBlock ∧ some k_ ≠ ((.slice Ao24 t507.length co24) : Value).ownBlock) v503 t502) ∧ Aside0 (Kd.R (Kd.int .i64) 3 wc w.heap.size (fun k_=>some k_ ≠ (v503 : Value).ownBlock ∧ some k_ ≠ ((.slice Ao24 t507.length co24) : Value).ownBlock) v512 t511) ∧ Aside0 (Kd.R (Kd.int .i64) 3 wc w.heap.size (fun k_=>some k_ ≠ (v503 : Value).ownBlock ∧ some k_ ≠ (v512 : Value).ownBlock) (.slice Ao24 t507.length co24) t507) ∧ Aside0 (wc.heap[gb496]? = some (.cells #[.int .i64 a0_0,(.slice A0_1 l0_1.length c0_1)] 24 (0,0))) ∧ Aside0 (wc.heap[gb510]? = some (.cells #[.int .i64 t506,(.slice Ao24 t507.length co24)] 28 (0,0))) ∧ Aside0 (Below w.heap.size w wc))
  case first =>
   have H:=HC11.out;clear HC11;replace H:=Option.bind_eq_some_iff.mp H;obtain ⟨t515,A260,H⟩:=H;replace H : (if t515 = true then (laws_FnExactStairOf.j0 k t502 t505 t511 t514 (t514 != t505) a0_0 l0_1 t506 t507) else (laws_FnExactStairOf.j0 k t502 t505 t511 t514 true a0_0 l0_1 t506 t507)) = some r:=H;have A26:=A_ A260;clear A260;by_cases c27 : t515 = true
   ·subst c27;have H1 : (laws_FnExactStairOf.j0 k t502 t505 t511 t514 (t514 != t505) a0_0 l0_1 t506 t507) = some r:=by rw [if_pos rfl] at H;exact H
    clear H;have H:=H1;clear H1;have H':=A_ H;clear H;obtain ⟨Ao28,co28,eo28⟩:=Kd.R_slice HO513.out;subst eo28;obtain ⟨Ao29,co29,eo29⟩:=Kd.R_slice HO504.out;subst eo29;go_wp2_with (first|((with_reducible refine gate_callee (f:=18) rfl ?_);refine goesL_ (some 34) rfl rfl Tryd.func18 (by kernel_rfl) rfl #[.slice Ao28 t511.length co28,.slice Ao29 t502.length co29] rfl au_ ?_;(with_reducible refine (laws_eqIntS.calls k _ _ t511 _ _ t502 true _ ?side1 ?side2 ?side3 ?side4 A26.out).mono ?_);(case side1=>exact cl_ (Kd.R_reads' HO513.out).2.2);(case side2=>exact (Kd.R_reads' HO513.out).2.1);(case side3=>exact cl_ (Kd.R_reads' HO504.out).2.2);(case side4=>exact (Kd.R_reads' HO504.out).2.1);rintro e w' ⟨rfl,⟨nd,rfl⟩⟩;refine ⟨_,rfl,?_⟩))
    go_meet
    case rel=>exact ⟨_,((t514 != t505)),(by first|rfl|(simp;done)|(simp [*];done)),H',⟨by first|omega|exact Nat.le_refl _⟩,⟨by (with_reducible repeat (first|apply Kd.R_alloc|apply Kd.R_drewN|apply Kd.R_drew));exact Kd.R_mono HO504.out (fun _ hk=>⟨hk.2,hk.1.2⟩)⟩,⟨by (with_reducible repeat (first|apply Kd.R_alloc|apply Kd.R_drewN|apply Kd.R_drew));exact Kd.R_mono HO513.out (fun _ hk=>⟨hk.1.2,hk.2⟩)⟩,⟨by (with_reducible repeat (first|apply Kd.R_alloc|apply Kd.R_drewN|apply Kd.R_drew));exact Kd.R_mono HO509.out (fun _ hk=>⟨hk.1.2,hk.2⟩)⟩,⟨bl_ BK496⟩,⟨bl_ BK510⟩,⟨bb_⟩⟩
   ·replace c27:=Bool.eq_false_iff.mpr c27;subst c27;have H1 : (laws_FnExactStairOf.j0 k t502 t505 t511 t514 true a0_0 l0_1 t506 t507) = some r:=by rw [if_neg (show ¬ (false = true) by decide)] at H;exact H
    clear H;have H:=H1;clear H1;have H':=A_ H;clear H;obtain ⟨Ao30,co30,eo30⟩:=Kd.R_slice HO513.out;subst eo30;obtain ⟨Ao31,co31,eo31⟩:=Kd.R_slice HO504.out;subst eo31;go_wp2_with (first|((with_reducible refine gate_callee (f:=18) rfl ?_);refine goesL_ (some 34) rfl rfl Tryd.func18 (by kernel_rfl) rfl #[.slice Ao30 t511.length co30,.slice Ao31 t502.length co31] rfl au_ ?_;(with_reducible refine (laws_eqIntS.calls k _ _ t511 _ _ t502 false _ ?side1 ?side2 ?side3 ?side4 A26.out).mono ?_);(case side1=>exact cl_ (Kd.R_reads' HO513.out).2.2);(case side2=>exact (Kd.R_reads' HO513.out).2.1);(case side3=>exact cl_ (Kd.R_reads' HO504.out).2.2);(case side4=>exact (Kd.R_reads' HO504.out).2.1);rintro e w' ⟨rfl,⟨nd,rfl⟩⟩;refine ⟨_,rfl,?_⟩))
    go_meet
    case rel=>exact ⟨_,(true),(by first|rfl|(simp;done)|(simp [*];done)),H',⟨by first|omega|exact Nat.le_refl _⟩,⟨by (with_reducible repeat (first|apply Kd.R_alloc|apply Kd.R_drewN|apply Kd.R_drew));exact Kd.R_mono HO504.out (fun _ hk=>⟨hk.2,hk.1.2⟩)⟩,⟨by (with_reducible repeat (first|apply Kd.R_alloc|apply Kd.R_drewN|apply Kd.R_drew));exact Kd.R_mono HO513.out (fun _ hk=>⟨hk.1.2,hk.2⟩)⟩,⟨by (with_reducible repeat (first|apply Kd.R_alloc|apply Kd.R_drewN|apply Kd.R_drew));exact Kd.R_mono HO509.out (fun _ hk=>⟨hk.1.2,hk.2⟩)⟩,⟨bl_ BK496⟩,⟨bl_ BK510⟩,⟨bb_⟩⟩
  case rest =>
   clear HC11;try clear c1
   try clear c2
   try clear p2
   try clear c3
   try clear c3b0
   try clear c14
   try clear c15
   try clear c16
   try clear c17
   try clear c18
   try clear c22
   try clear c27
   try clear hcz13_0
   try clear hcz13_1
   try clear hcz15_0
   try clear hcz15_1
   try clear hcz19_0
   try clear hcz19_1
   try clear hcz23_0
   try clear hcz23_1
   try clear hcz5_0
   try clear hcz5_1
   try clear hfz13_0
   try clear hfz13_1
   try clear hfz15_0
   try clear hfz15_1
   try clear hfz19_0
   try clear hfz19_1
   try clear hfz23_0
   try clear hfz23_1
   try clear hfz5_0
   try clear hfz5_1
   obtain ⟨kq,x40_10,rfl,HA,HJ10,HO_4,HO_7,HO_511001,BK496,BK510,HB⟩:=hcut;cases kq with
   | zero=>exact absurd HA.out (by simp [laws_FnExactStairOf.j0])
   | succ kj10 =>
    have H:=HA.out;clear HA;simp only [laws_FnExactStairOf.j0] at H
    by_cases c32 : x40_10 = true
    ·subst c32;have H1 : (some false) = some r:=by rw [if_pos rfl] at H;exact H
     clear H;have H:=H1;clear H1;obtain rfl:=Option.some.inj H;go_wp2
     go_ret
     exact ⟨by first|rfl|(simp [errW_none,errW_some] <;> rfl)|(simp [*,errW_none,errW_some] <;> rfl),bb_⟩
    ·replace c32:=Bool.eq_false_iff.mpr c32;subst c32;have H1 : ((laws_toOrder.f kj10 a0_0 l0_1).bind fun bt516=>((laws_eqOrder.f kj10 t506 t507 bt516.1 bt516.2).bind fun t520=>(if t520 = true then ((laws_markOrder.f kj10 t506 t507 1).bind fun bt521=>(if bt521.1 < 0 then (laws_FnExactStairOf.j1 kj10 t502 t505 t511 true a0_0 l0_1) else ((laws_eqIntS.f kj10 t511 t502).bind fun t523=>(if t523 = true then (laws_FnExactStairOf.j1 kj10 t502 t505 t511 (t514 != t505) a0_0 l0_1) else (laws_FnExactStairOf.j1 kj10 t502 t505 t511 true a0_0 l0_1))))) else (some false)))) = some r:=by rw [if_neg (show ¬ (false = true) by decide)] at H;exact H
     clear H;have H:=H1;clear H1;replace H:=Option.bind_eq_some_iff.mp H;obtain ⟨⟨t516,t517⟩,A330,H⟩:=H;replace H : ((laws_eqOrder.f kj10 t506 t507 t516 t517).bind fun t520=>(if t520 = true then ((laws_markOrder.f kj10 t506 t507 1).bind fun bt521=>(if bt521.1 < 0 then (laws_FnExactStairOf.j1 kj10 t502 t505 t511 true a0_0 l0_1) else ((laws_eqIntS.f kj10 t511 t502).bind fun t523=>(if t523 = true then (laws_FnExactStairOf.j1 kj10 t502 t505 t511 (t514 != t505) a0_0 l0_1) else (laws_FnExactStairOf.j1 kj10 t502 t505 t511 true a0_0 l0_1))))) else (some false))) = some r:=H;have A33:=A_ A330;clear A330;replace H:=Option.bind_eq_some_iff.mp H;obtain ⟨t520,A340,H⟩:=H;replace H : (if t520 = true then ((laws_markOrder.f kj10 t506 t507 1).bind fun bt521=>(if bt521.1 < 0 then (laws_FnExactStairOf.j1 kj10 t502 t505 t511 true a0_0 l0_1) else ((laws_eqIntS.f kj10 t511 t502).bind fun t523=>(if t523 = true then (laws_FnExactStairOf.j1 kj10 t502 t505 t511 (t514 != t505) a0_0 l0_1) else (laws_FnExactStairOf.j1 kj10 t502 t505 t511 true a0_0 l0_1))))) else (some false)) = some r:=H;have A34:=A_ A340;clear A340;by_cases c35 : t520 = true
     ·subst c35;have H1 : ((laws_markOrder.f kj10 t506 t507 1).bind fun bt521=>(if bt521.1 < 0 then (laws_FnExactStairOf.j1 kj10 t502 t505 t511 true a0_0 l0_1) else ((laws_eqIntS.f kj10 t511 t502).bind fun t523=>(if t523 = true then (laws_FnExactStairOf.j1 kj10 t502 t505 t511 (t514 != t505) a0_0 l0_1) else (laws_FnExactStairOf.j1 kj10 t502 t505 t511 true a0_0 l0_1))))) = some r:=by rw [if_pos rfl] at H;exact H
      clear H;have H:=H1;clear H1;replace H:=Option.bind_eq_some_iff.mp H;obtain ⟨⟨t521,t522⟩,A360,H⟩:=H;replace H : (if t521 < 0 then (laws_FnExactStairOf.j1 kj10 t502 t505 t511 true a0_0 l0_1) else ((laws_eqIntS.f kj10 t511 t502).bind fun t523=>(if t523 = true then (laws_FnExactStairOf.j1 kj10 t502 t505 t511 (t514 != t505) a0_0 l0_1) else (laws_FnExactStairOf.j1 kj10 t502 t505 t511 true a0_0 l0_1)))) = some r:=H;have A36:=A_ A360;clear A360;have HC37:=A_ H;clear H;try go_wp2
      replace HO_4:=A_ (Kd.R_drew HO_4.out);replace HO_7:=A_ (Kd.R_drew HO_7.out);replace HO_511001:=A_ (Kd.R_drew HO_511001.out);replace BK496:=A_ (blk_drew BK496.out);replace BK510:=A_ (blk_drew BK510.out);replace HB:=A_ (below_drew1 HB.out);refine start_ (n:=5) (S:=fun w'=>w'.cell? ⟨gb510,0,none⟩ = some (.int .i64 t506) ∧ w'.cell? ⟨gb510,1,none⟩ = some (.slice Ao24 t507.length co24) ∧ w'.cell? ⟨gb496,0,none⟩ = some (.int .i64 a0_0) ∧ w'.cell? ⟨gb496,1,none⟩ = some (.slice A0_1 l0_1.length c0_1)) (ds:=[]) #[F,F,F,F,F] (by kernel_rfl) rfl rfl ⟨blk_cell BK510.out 0,blk_cell BK510.out 1,blk_cell BK496.out 0,blk_cell BK496.out 1⟩ (fun hHeld=>?_)
      generalize wc.drew = w38 at HO_4 HO_7 HO_511001 BK496 BK510 HB hHeld ⊢
      refine take_ (i:=0) (N:=some 41) (v:=?_) (a':=?_) #[T,F,F,F,F] rfl rfl (by kernel_rfl) (fun _ _ _ h=>h) (Or.inl ⟨by rfl,?_⟩) hHeld ?_ ?_
      rotate_left
      ·rintro w' ⟨s0,s1,s2,s3⟩
       go_simp
       with_reducible rfl
      rotate_left;·simp only [Act.put,L_,M_,N_,i64_w,i32_w];rfl
      refine take_ (i:=1) (N:=some 42) (v:=?_) (a':=?_) #[T,T,F,F,F] rfl rfl (by kernel_rfl) (fun _ _ _ h=>h) (Or.inl ⟨by rfl,?_⟩) hHeld ?_ ?_
      rotate_left
      ·rintro w' ⟨s0,s1,s2,s3⟩
       go_simp
       with_reducible rfl
      rotate_left;·simp only [Act.put,L_,M_,N_,i64_w,i32_w];rfl
      refine one_ (i:=2) (N:=some 43) #[T,T,T,F,F] rfl rfl (by kernel_rfl) (by decide) (fun K hK=>?_)
      refine goes_ Tryd.func16 (by kernel_rfl) rfl #[.agg #[.int .i64 a0_0,.slice A0_1 l0_1.length c0_1]] (by rfl) rfl rfl au_ ?_
      with_reducible refine (laws_toOrder.calls kj10 a0_0 _ _ l0_1 t516 t517 _ ?side1 ?side2 A33.out).mono ?_
      (case side1=>exact cl_ (Kd.C_below HR0_1.out HB.out))
      (case side2=>exact HC0_1.out)
      rintro e w39 ⟨v518,rfl,ho0,hb⟩
      refine ⟨_,rfl,?_⟩
      have HO519:=A_ (Kd.R_lower (Kd.R_new' (Kd.R_new' (Kd.R_new' ho0 (Kd.R_lt (rl_ HO_4))) (Kd.R_lt (rl_ HO_7))) (Kd.R_lt (rl_ HO_511001))) (below_size bb_));replace HO_4:=A_ (Kd.R_elder' (rl_ HO_4) (Kd.R_base ho0) hb);replace HO_7:=A_ (Kd.R_elder' (rl_ HO_7) (Kd.R_base ho0) hb);replace HO_511001:=A_ (Kd.R_elder' (rl_ HO_511001) (Kd.R_base ho0) hb);replace BK496:=bz BK496 hb;replace BK510:=bz BK510 hb;replace HB:=A_ (below_step bb_ hb);(try clear hb);(try clear hb2);(try clear hk);(try clear hi);(try clear ho0);obtain ⟨Ao40,co40,eo40⟩:=Kd.R_slice HO519.out;(first|subst eo40|(injection eo40 with f1_ f2_ f3_;have f4_:=f1_.symm;have f5_:=f3_.symm;clear f1_ f2_ f3_;subst f4_;subst f5_))
      refine hK.out _ _ ⟨blk_cell BK510.out 0,blk_cell BK510.out 1,blk_cell BK496.out 0,blk_cell BK496.out 1⟩ (fun hHeld=>?_)
      clear hK K;refine norm_ (a':=?_) ?_ ?_
      rotate_left
      ·show Act.put _ (some 43) _ = _
       simp only [Act.put,L_,M_,N_,i64_w,i32_w]
       rfl
      refine one_ (i:=3) (N:=some 44) #[T,T,T,T,F] rfl rfl (by kernel_rfl) (by decide) (fun K hK=>?_)
      refine goes_ Tryd.func19 (by kernel_rfl) rfl #[.agg #[.int .i64 t506,.slice Ao24 t507.length co24],.agg #[.int .i64 t516,.slice Ao40 t517.length co40]] (by rfl) rfl rfl au_ ?_
      with_reducible refine (laws_eqOrder.calls kj10 t506 _ _ t507 t516 _ _ t517 true _ ?side1 ?side2 ?side3 ?side4 A34.out).mono ?_
      (case side1=>exact cl_ (Kd.R_reads' HO_511001.out).2.2)
      (case side2=>exact (Kd.R_reads' HO_511001.out).2.1)
      (case side3=>exact cl_ (Kd.R_reads' HO519.out).2.2)
      (case side4=>exact (Kd.R_reads' HO519.out).2.1)
      rintro e w41 ⟨rfl,hb⟩
      refine ⟨_,rfl,?_⟩
      replace HO_4:=rb_ HO_4 hb;replace HO_7:=rb_ HO_7 hb;replace HO_511001:=rb_ HO_511001 hb;replace HO519:=rb_ HO519 hb;replace BK496:=bz BK496 hb;replace BK510:=bz BK510 hb;replace HB:=A_ (below_step bb_ hb);(try clear hb);(try clear hb2);(try clear hk);(try clear hi);refine hK.out _ _ ⟨blk_cell BK510.out 0,blk_cell BK510.out 1,blk_cell BK496.out 0,blk_cell BK496.out 1⟩ (fun hHeld=>?_)
      clear hK K;refine norm_ (a':=?_) ?_ ?_
      rotate_left
      ·show Act.put _ (some 44) _ = _
       simp only [Act.put,L_,M_,N_,i64_w,i32_w]
       rfl
      refine pure_ (i:=4) (N:=some 45) (v:=?_) (a':=?_) #[T,T,T,T,T] rfl rfl (by kernel_rfl) (fun _ _ _ h=>h) (Or.inl ⟨by rfl,?_⟩) ?_ ?_
      rotate_left;·intro w';go_simp;with_reducible rfl
      rotate_left;·simp only [Act.put,L_,M_,N_,i64_w,i32_w];rfl
      refine done_ (by kernel_rfl) ?_
      have hnb42:=NB510_496.out;have hnc42:=NB496_510.out;have hcz43_0 : w41.cell? ⟨gb510,0,none⟩ = some (.int .i64 t506):=blk_cell BK510.out 0;have hcz43_1 : w41.cell? ⟨gb510,1,none⟩ = some (.slice Ao24 t507.length co24):=blk_cell BK510.out 1;have hfz43_0:=blk_frozen BK510.out 0;have hfz43_1:=blk_frozen BK510.out 1;go_upto_region 14 with (first|((with_reducible refine gate_callee (f:=20) rfl ?_);refine goesL_ (some 48) rfl rfl Tryd.func20 (by kernel_rfl) rfl #[.agg #[.int .i64 t506,.slice Ao24 t507.length co24],.int .i64 1] rfl au_ ?_;(with_reducible refine (laws_markOrder.calls kj10 t506 (fun k_=>some k_ = (.slice Ao24 t507.length co24 : Value).ownBlock) (.slice Ao24 t507.length co24) t507 1 t521 t522 w _ ?side1 ?side2 A36.out).mono ?_);(case side1=>repeat (first|(with_reducible first|exact HB.out|apply below_alloc|apply pw_below_drewN|apply below_drew1|refine below_set ?_ (Aside0.out (by assumption)))|exact HB.out));(case side2=>exact Kd.R_tight rfl HO_511001.out);rintro e w44 ⟨rfl,hy0,hb,hkp⟩;refine ⟨_,rfl,?_⟩;replace HO_4:=A_ (Kd.R_mono (ok':=fun k_=>some k_ ≠ (v512 : Value).ownBlock ∧ some k_ ≠ (.slice Ao24 t507.length co24 : Value).ownBlock ∧ some k_ ≠ (.slice Ao40 t517.length co40 : Value).ownBlock) (Kd.R_keptB (HO_4.out) hkp (fun k_ hk_ hs_=>(hk_.1.2) hs_)) (fun k_ hk_=>⟨hk_.1.1.1,hk_.1.1.2,hk_.1.2⟩));replace HO_7:=A_ (Kd.R_mono (ok':=fun k_=>some k_ ≠ (v503 : Value).ownBlock ∧ some k_ ≠ (.slice Ao24 t507.length co24 : Value).ownBlock ∧ some k_ ≠ (.slice Ao40 t517.length co40 : Value).ownBlock) (Kd.R_keptB (HO_7.out) hkp (fun k_ hk_ hs_=>(hk_.1.2) hs_)) (fun k_ hk_=>⟨hk_.1.1.1,hk_.1.1.2,hk_.1.2⟩));replace BK496:=A_ (blk_kept (bl_ BK496) hkp (fun hs_=>(fun e_=>(Kd.R_ne HO_511001.out BK496.out (by decide)) e_) hs_));replace BK510:=A_ (blk_kept (bl_ BK510) hkp (fun hs_=>(fun e_=>(Kd.R_ne HO_511001.out BK510.out (by decide)) e_) hs_));replace HO_511001:=A_ (Kd.R_reok rfl hy0 (fun k_ e_=>HO_511001.out.1 k_ e_));replace HO519:=A_ (Kd.R_mono (ok':=fun k_=>some k_ ≠ (v503 : Value).ownBlock ∧ some k_ ≠ (v512 : Value).ownBlock ∧ some k_ ≠ (.slice Ao24 t507.length co24 : Value).ownBlock) (Kd.R_keptB (HO519.out) hkp (fun k_ hk_ hs_=>(hk_.2) hs_)) (fun k_ hk_=>⟨hk_.1.1.1.2,hk_.1.1.2,hk_.1.2⟩));replace HB:=A_ (hb);(try clear hb);(try clear hkp);(try clear hy0)))
      (try simp only [Act.put,L_,M_,N_]);go_cut [61] (fun v61 wc=>∃ (kq : Nat) (x61_36 : Bool),v61 = .bool x61_36 ∧ Aside0 (laws_FnExactStairOf.j1 kq t502 t505 t511 x61_36 a0_0 l0_1 = some r) ∧ Aside0 (kq ≤ kj10) ∧ Aside0 (Kd.R (Kd.int .i64) 3 wc w.heap.size (fun k_=>some k_ ≠ (v512 : Value).ownBlock ∧ some k_ ≠ ((.slice Ao24 t507.length co24) : Value).ownBlock) v503 t502) ∧ Aside0 (Kd.R (Kd.int .i64) 3 wc w.heap.size (fun k_=>some k_ ≠ (v503 : Value).ownBlock ∧ some k_ ≠ ((.slice Ao24 t507.length co24) : Value).ownBlock) v512 t511) ∧ Aside0 (Kd.R (Kd.int .i64) 3 wc w.heap.size (fun k_=>some k_ ≠ (v503 : Value).ownBlock ∧ some k_ ≠ (v512 : Value).ownBlock) (.slice Ao24 t507.length co24) t522) ∧ Aside0 (wc.heap[gb496]? = some (.cells #[.int .i64 a0_0,(.slice A0_1 l0_1.length c0_1)] 24 (0,0))) ∧ Aside0 (wc.heap[gb510]? = some (.cells #[.int .i64 t506,(.slice Ao24 t507.length co24)] 28 (0,0))) ∧ Aside0 (Below w.heap.size w wc))
      case first =>
       have H:=HC37.out;clear HC37;by_cases c45 : t521 < 0
       ·rw [if_pos c45] at H;have c45b0 : decide (t521 < 0) = true:=decide_eq_true c45;clear c45;(first|rw [c45b0]|(simp only [i64_w,i32_w];rw [c45b0])|skip)
        have H':=A_ H;clear H;go_wp2
        go_meet
        case rel=>exact ⟨_,(true),(by first|rfl|(simp;done)|(simp [*];done)),H',⟨by have:=HJ10.out;first|omega|exact Nat.le_refl _⟩,⟨by (with_reducible repeat (first|apply Kd.R_alloc|apply Kd.R_drewN|apply Kd.R_drew));exact Kd.R_mono HO_4.out (fun _ hk=>⟨hk.1,hk.2.1⟩)⟩,⟨by (with_reducible repeat (first|apply Kd.R_alloc|apply Kd.R_drewN|apply Kd.R_drew));exact Kd.R_mono HO_7.out (fun _ hk=>⟨hk.1,hk.2.1⟩)⟩,⟨by (with_reducible repeat (first|apply Kd.R_alloc|apply Kd.R_drewN|apply Kd.R_drew));exact Kd.R_mono HO_511001.out (fun _ hk=>⟨hk.1.1,hk.1.2⟩)⟩,⟨bl_ BK496⟩,⟨bl_ BK510⟩,⟨bb_⟩⟩
       ·rw [if_neg c45] at H;have c45b0 : decide (t521 < 0) = false:=decide_eq_false c45;clear c45;(first|rw [c45b0]|(simp only [i64_w,i32_w];rw [c45b0])|skip)
        replace H:=Option.bind_eq_some_iff.mp H;obtain ⟨t523,A460,H⟩:=H;replace H : (if t523 = true then (laws_FnExactStairOf.j1 kj10 t502 t505 t511 (t514 != t505) a0_0 l0_1) else (laws_FnExactStairOf.j1 kj10 t502 t505 t511 true a0_0 l0_1)) = some r:=H;have A46:=A_ A460;clear A460;by_cases c47 : t523 = true
        ·subst c47;have H1 : (laws_FnExactStairOf.j1 kj10 t502 t505 t511 (t514 != t505) a0_0 l0_1) = some r:=by rw [if_pos rfl] at H;exact H
         clear H;have H:=H1;clear H1;have H':=A_ H;clear H;obtain ⟨Ao48,co48,eo48⟩:=Kd.R_slice HO_7.out;subst eo48;obtain ⟨Ao49,co49,eo49⟩:=Kd.R_slice HO_4.out;subst eo49;go_wp2_with (first|(go_at_call 18;(with_reducible refine (laws_eqIntS.calls kj10 _ _ t511 _ _ t502 true _ ?side1 ?side2 ?side3 ?side4 A46.out).mono ?_);(case side1=>exact cl_ (Kd.R_reads' HO_7.out).2.2);(case side2=>exact (Kd.R_reads' HO_7.out).2.1);(case side3=>exact cl_ (Kd.R_reads' HO_4.out).2.2);(case side4=>exact (Kd.R_reads' HO_4.out).2.1);rintro e w' ⟨rfl,⟨nd,rfl⟩⟩))
         go_meet
         case rel=>exact ⟨_,((t514 != t505)),(by first|rfl|(simp;done)|(simp [*];done)),H',⟨by have:=HJ10.out;first|omega|exact Nat.le_refl _⟩,⟨by (with_reducible repeat (first|apply Kd.R_alloc|apply Kd.R_drewN|apply Kd.R_drew));exact Kd.R_mono HO_4.out (fun _ hk=>⟨hk.1,hk.2.1⟩)⟩,⟨by (with_reducible repeat (first|apply Kd.R_alloc|apply Kd.R_drewN|apply Kd.R_drew));exact Kd.R_mono HO_7.out (fun _ hk=>⟨hk.1,hk.2.1⟩)⟩,⟨by (with_reducible repeat (first|apply Kd.R_alloc|apply Kd.R_drewN|apply Kd.R_drew));exact Kd.R_mono HO_511001.out (fun _ hk=>⟨hk.1.1,hk.1.2⟩)⟩,⟨bl_ BK496⟩,⟨bl_ BK510⟩,⟨bb_⟩⟩
        ·replace c47:=Bool.eq_false_iff.mpr c47;subst c47;have H1 : (laws_FnExactStairOf.j1 kj10 t502 t505 t511 true a0_0 l0_1) = some r:=by rw [if_neg (show ¬ (false = true) by decide)] at H;exact H
         clear H;have H:=H1;clear H1;have H':=A_ H;clear H;obtain ⟨Ao50,co50,eo50⟩:=Kd.R_slice HO_7.out;subst eo50;obtain ⟨Ao51,co51,eo51⟩:=Kd.R_slice HO_4.out;subst eo51;go_wp2_with (first|(go_at_call 18;(with_reducible refine (laws_eqIntS.calls kj10 _ _ t511 _ _ t502 false _ ?side1 ?side2 ?side3 ?side4 A46.out).mono ?_);(case side1=>exact cl_ (Kd.R_reads' HO_7.out).2.2);(case side2=>exact (Kd.R_reads' HO_7.out).2.1);(case side3=>exact cl_ (Kd.R_reads' HO_4.out).2.2);(case side4=>exact (Kd.R_reads' HO_4.out).2.1);rintro e w' ⟨rfl,⟨nd,rfl⟩⟩))
         go_meet
         case rel=>exact ⟨_,(true),(by first|rfl|(simp;done)|(simp [*];done)),H',⟨by have:=HJ10.out;first|omega|exact Nat.le_refl _⟩,⟨by (with_reducible repeat (first|apply Kd.R_alloc|apply Kd.R_drewN|apply Kd.R_drew));exact Kd.R_mono HO_4.out (fun _ hk=>⟨hk.1,hk.2.1⟩)⟩,⟨by (with_reducible repeat (first|apply Kd.R_alloc|apply Kd.R_drewN|apply Kd.R_drew));exact Kd.R_mono HO_7.out (fun _ hk=>⟨hk.1,hk.2.1⟩)⟩,⟨by (with_reducible repeat (first|apply Kd.R_alloc|apply Kd.R_drewN|apply Kd.R_drew));exact Kd.R_mono HO_511001.out (fun _ hk=>⟨hk.1.1,hk.1.2⟩)⟩,⟨bl_ BK496⟩,⟨bl_ BK510⟩,⟨bb_⟩⟩
      case rest =>
       clear HC37;try clear c1
       try clear c2
       try clear p2
       try clear c3
       try clear c3b0
       try clear c4
       try clear c14
       try clear c15
       try clear c16
       try clear c17
       try clear c18
       try clear c19
       try clear c20
       try clear c22
       try clear c27
       try clear c32
       try clear c35
       try clear c42
       try clear c45
       try clear c45b0
       try clear c47
       try clear hcz13_0
       try clear hcz13_1
       try clear hcz15_0
       try clear hcz15_1
       try clear hcz19_0
       try clear hcz19_1
       try clear hcz23_0
       try clear hcz23_1
       try clear hcz43_0
       try clear hcz43_1
       try clear hcz5_0
       try clear hcz5_1
       try clear hfz13_0
       try clear hfz13_1
       try clear hfz15_0
       try clear hfz15_1
       try clear hfz19_0
       try clear hfz19_1
       try clear hfz23_0
       try clear hfz23_1
       try clear hfz43_0
       try clear hfz43_1
       try clear hfz5_0
       try clear hfz5_1
       try clear p2
       obtain ⟨kq,x61_36,rfl,HA,HJ36,HO_4,HO_7,HO_511001,BK496,BK510,HB⟩:=hcut;have hl511001_36:=(Kd.R_reads' HO_511001.out).1;rw [hl511001_36] at HO_511001;(try simp only [hl511001_36]);(try simp only [hl511001_36] at BK496);(try simp only [hl511001_36] at BK510);(try simp only [hl511001_36] at HO_4);(try simp only [hl511001_36] at HO_7);cases kq with
       | zero=>exact absurd HA.out (by simp [laws_FnExactStairOf.j1])
       | succ kj36 =>
        have H:=HA.out;clear HA;simp only [laws_FnExactStairOf.j1] at H
        by_cases c52 : x61_36 = true
        ·subst c52;have H1 : (some false) = some r:=by rw [if_pos rfl] at H;exact H
         clear H;have H:=H1;clear H1;obtain rfl:=Option.some.inj H;go_wp2
         go_ret
         exact ⟨by first|rfl|(simp [errW_none,errW_some] <;> rfl)|(simp [*,errW_none,errW_some] <;> rfl),bb_⟩
        ·replace c52:=Bool.eq_false_iff.mpr c52;subst c52;have H1 : ((laws_markIntS.f kj36 t511 1).bind fun bt524=>((laws_heldIntS.f kj36 bt524.2 1).bind fun t526=>(if t526 < 0 then (some false) else (if t526 = bt524.1 then ((laws_toOrder.f kj36 a0_0 l0_1).bind fun bt527=>((impl_StairOf.f kj36 bt527.1 bt527.2).bind fun bt531=>((laws_eqIntS.f kj36 bt531.1 t502).bind fun t535=>(if t535 = true then (laws_FnExactStairOf.j2 kj36 bt524.2 bt524.1 (bt531.2 != t505)) else (laws_FnExactStairOf.j2 kj36 bt524.2 bt524.1 true))))) else (some false))))) = some r:=by rw [if_neg (show ¬ (false = true) by decide)] at H;exact H
         clear H;have H:=H1;clear H1;replace H:=Option.bind_eq_some_iff.mp H;obtain ⟨⟨t524,t525⟩,A530,H⟩:=H;replace H : ((laws_heldIntS.f kj36 t525 1).bind fun t526=>(if t526 < 0 then (some false) else (if t526 = t524 then ((laws_toOrder.f kj36 a0_0 l0_1).bind fun bt527=>((impl_StairOf.f kj36 bt527.1 bt527.2).bind fun bt531=>((laws_eqIntS.f kj36 bt531.1 t502).bind fun t535=>(if t535 = true then (laws_FnExactStairOf.j2 kj36 t525 t524 (bt531.2 != t505)) else (laws_FnExactStairOf.j2 kj36 t525 t524 true))))) else (some false)))) = some r:=H;have A53:=A_ A530;clear A530;replace H:=Option.bind_eq_some_iff.mp H;obtain ⟨t526,A540,H⟩:=H;replace H : (if t526 < 0 then (some false) else (if t526 = t524 then ((laws_toOrder.f kj36 a0_0 l0_1).bind fun bt527=>((impl_StairOf.f kj36 bt527.1 bt527.2).bind fun bt531=>((laws_eqIntS.f kj36 bt531.1 t502).bind fun t535=>(if t535 = true then (laws_FnExactStairOf.j2 kj36 t525 t524 (bt531.2 != t505)) else (laws_FnExactStairOf.j2 kj36 t525 t524 true))))) else (some false))) = some r:=H;have A54:=A_ A540;clear A540;by_cases c55 : t526 < 0
         ·rw [if_pos c55] at H;have c55b0 : decide (t526 < 0) = true:=decide_eq_true c55;clear c55;obtain rfl:=Option.some.inj H;obtain ⟨Ao56,co56,eo56⟩:=Kd.R_slice HO_7.out;subst eo56;go_wp2_with (first|((with_reducible refine gate_callee (f:=21) rfl ?_);refine goesL_ (some 64) rfl rfl Tryd.func21 (by kernel_rfl) rfl #[.slice Ao56 t511.length co56,.int .i64 1] rfl au_ ?_;(with_reducible refine (laws_markIntS.calls kj36 (fun k_=>some k_ = (.slice Ao56 t511.length co56 : Value).ownBlock) (.slice Ao56 t511.length co56) t511 1 t524 t525 w _ ?side1 ?side2 A53.out).mono ?_);(case side1=>repeat (first|(with_reducible first|exact HB.out|apply below_alloc|apply pw_below_drewN|apply below_drew1|refine below_set ?_ (Aside0.out (by assumption)))|exact HB.out));(case side2=>exact Kd.R_tight rfl HO_7.out);rintro e w57 ⟨rfl,hy0,hb,hkp⟩;refine ⟨_,rfl,?_⟩;replace HO_4:=A_ (Kd.R_mono (ok':=fun k_=>some k_ ≠ (.slice Ao56 t511.length co56 : Value).ownBlock ∧ some k_ ≠ (.slice Ao24 t522.length co24 : Value).ownBlock) (Kd.R_keptB (HO_4.out) hkp (fun k_ hk_ hs_=>(hk_.1) hs_)) (fun k_ hk_=>⟨hk_.1.1,hk_.1.2⟩));replace HO_511001:=A_ (Kd.R_mono (ok':=fun k_=>some k_ ≠ (v503 : Value).ownBlock ∧ some k_ ≠ (.slice Ao56 t511.length co56 : Value).ownBlock) (Kd.R_keptB (HO_511001.out) hkp (fun k_ hk_ hs_=>(hk_.2) hs_)) (fun k_ hk_=>⟨hk_.1.1,hk_.1.2⟩));replace BK496:=A_ (blk_kept (bl_ BK496) hkp (fun hs_=>(fun e_=>(Kd.R_ne HO_7.out BK496.out (by decide)) e_) hs_));replace BK510:=A_ (blk_kept (bl_ BK510) hkp (fun hs_=>(fun e_=>(Kd.R_ne HO_7.out BK510.out (by decide)) e_) hs_));replace HO_7:=A_ (Kd.R_reok rfl hy0 (fun k_ e_=>HO_7.out.1 k_ e_));replace HB:=A_ (hb);(try clear hb);(try clear hkp);(try clear hy0))|((with_reducible refine gate_callee (f:=22) rfl ?_);refine goesL_ (some 67) rfl rfl Tryd.func22 (by kernel_rfl) rfl #[.slice Ao56 t525.length co56,.int .i64 1] rfl (by (try simp only [P_,Q_,R_]);first|done|(rw [show t525.length = t511.length from (Kd.R_reads' HO_7.out).1.symm] <;> rfl)|rfl|(simp only [S_,U_];rfl)) ?_;(with_reducible refine (laws_heldIntS.calls kj36 _ _ t525 1 t526 _ ?side1 ?side2 A54.out).mono ?_);(case side1=>exact cl_ (Kd.R_reads' HO_7.out).2.2);(case side2=>rw [show t525.length = t511.length from (Kd.R_reads' HO_7.out).1.symm];exact (Kd.R_reads' HO_7.out).2.1);rintro e w' ⟨rfl,⟨nd,rfl⟩⟩;refine ⟨_,rfl,?_⟩))
          go_ret
          exact ⟨by first|rfl|(simp [errW_none,errW_some] <;> rfl)|(simp [*,errW_none,errW_some] <;> rfl),bb_⟩
         ·rw [if_neg c55] at H;have c55b0 : decide (t526 < 0) = false:=decide_eq_false c55;clear c55;by_cases c58 : t526 = t524
          ·rw [if_pos c58] at H;have c58b0 : (t526 == t524) = true:=beq_iff_eq.mpr c58;have c58b1 : (t526 != t524) = false:=bne_eq_false_iff_eq.mpr c58;clear c58;replace H:=Option.bind_eq_some_iff.mp H;obtain ⟨⟨t527,t528⟩,A590,H⟩:=H;replace H : ((impl_StairOf.f kj36 t527 t528).bind fun bt531=>((laws_eqIntS.f kj36 bt531.1 t502).bind fun t535=>(if t535 = true then (laws_FnExactStairOf.j2 kj36 t525 t524 (bt531.2 != t505)) else (laws_FnExactStairOf.j2 kj36 t525 t524 true)))) = some r:=H;have A59:=A_ A590;clear A590;replace H:=Option.bind_eq_some_iff.mp H;obtain ⟨⟨t531,t534⟩,A600,H⟩:=H;replace H : ((laws_eqIntS.f kj36 t531 t502).bind fun t535=>(if t535 = true then (laws_FnExactStairOf.j2 kj36 t525 t524 (t534 != t505)) else (laws_FnExactStairOf.j2 kj36 t525 t524 true))) = some r:=H;have A60:=A_ A600;clear A600;have HC61:=A_ H;clear H;obtain ⟨Ao62,co62,eo62⟩:=Kd.R_slice HO_7.out;subst eo62;go_upto_region 25 with (first|((with_reducible refine gate_callee (f:=21) rfl ?_);refine goesL_ (some 64) rfl rfl Tryd.func21 (by kernel_rfl) rfl #[.slice Ao62 t511.length co62,.int .i64 1] rfl au_ ?_;(with_reducible refine (laws_markIntS.calls kj36 (fun k_=>some k_ = (.slice Ao62 t511.length co62 : Value).ownBlock) (.slice Ao62 t511.length co62) t511 1 t524 t525 w _ ?side1 ?side2 A53.out).mono ?_);(case side1=>repeat (first|(with_reducible first|exact HB.out|apply below_alloc|apply pw_below_drewN|apply below_drew1|refine below_set ?_ (Aside0.out (by assumption)))|exact HB.out));(case side2=>exact Kd.R_tight rfl HO_7.out);rintro e w63 ⟨rfl,hy0,hb,hkp⟩;refine ⟨_,rfl,?_⟩;replace HO_4:=A_ (Kd.R_mono (ok':=fun k_=>some k_ ≠ (.slice Ao62 t511.length co62 : Value).ownBlock ∧ some k_ ≠ (.slice Ao24 t522.length co24 : Value).ownBlock) (Kd.R_keptB (HO_4.out) hkp (fun k_ hk_ hs_=>(hk_.1) hs_)) (fun k_ hk_=>⟨hk_.1.1,hk_.1.2⟩));replace HO_511001:=A_ (Kd.R_mono (ok':=fun k_=>some k_ ≠ (v503 : Value).ownBlock ∧ some k_ ≠ (.slice Ao62 t511.length co62 : Value).ownBlock) (Kd.R_keptB (HO_511001.out) hkp (fun k_ hk_ hs_=>(hk_.2) hs_)) (fun k_ hk_=>⟨hk_.1.1,hk_.1.2⟩));replace BK496:=A_ (blk_kept (bl_ BK496) hkp (fun hs_=>(fun e_=>(Kd.R_ne HO_7.out BK496.out (by decide)) e_) hs_));replace BK510:=A_ (blk_kept (bl_ BK510) hkp (fun hs_=>(fun e_=>(Kd.R_ne HO_7.out BK510.out (by decide)) e_) hs_));replace HO_7:=A_ (Kd.R_reok rfl hy0 (fun k_ e_=>HO_7.out.1 k_ e_));replace HB:=A_ (hb);(try clear hb);(try clear hkp);(try clear hy0))|((with_reducible refine gate_callee (f:=22) rfl ?_);refine goesL_ (some 67) rfl rfl Tryd.func22 (by kernel_rfl) rfl #[.slice Ao62 t525.length co62,.int .i64 1] rfl (by (try simp only [P_,Q_,R_]);first|done|(rw [show t525.length = t511.length from (Kd.R_reads' HO_7.out).1.symm] <;> rfl)|rfl|(simp only [S_,U_];rfl)) ?_;(with_reducible refine (laws_heldIntS.calls kj36 _ _ t525 1 t526 _ ?side1 ?side2 A54.out).mono ?_);(case side1=>exact cl_ (Kd.R_reads' HO_7.out).2.2);(case side2=>rw [show t525.length = t511.length from (Kd.R_reads' HO_7.out).1.symm];exact (Kd.R_reads' HO_7.out).2.1);rintro e w' ⟨rfl,⟨nd,rfl⟩⟩;refine ⟨_,rfl,?_⟩;have hnb64:=NB496_510.out;have hnc64:=NB510_496.out;have hcz65_0 : w63.cell? ⟨gb496,0,none⟩ = some (.int .i64 a0_0):=blk_cell BK496.out 0;have hcz65_1 : w63.cell? ⟨gb496,1,none⟩ = some (.slice A0_1 l0_1.length c0_1):=blk_cell BK496.out 1;have hfz65_0:=blk_frozen BK496.out 0;have hfz65_1:=blk_frozen BK496.out 1)|((with_reducible refine gate_callee (f:=16) rfl ?_);refine goesL_ (some 75) rfl rfl Tryd.func16 (by kernel_rfl) rfl #[.agg #[.int .i64 a0_0,.slice A0_1 l0_1.length c0_1]] rfl au_ ?_;(with_reducible refine (laws_toOrder.calls kj36 a0_0 _ _ l0_1 t527 t528 _ ?side1 ?side2 A59.out).mono ?_);(case side1=>exact cl_ (Kd.C_below HR0_1.out bb_));(case side2=>exact HC0_1.out);rintro e w66 ⟨v529,rfl,ho0,hb⟩;refine ⟨_,rfl,?_⟩;have HO530:=A_ (Kd.R_lower (Kd.R_new' (Kd.R_new' (Kd.R_new' ho0 (Kd.R_lt (rl_ HO_4))) (Kd.R_lt (rl_ HO_7))) (Kd.R_lt (rl_ HO_511001))) (below_size bb_));replace HO_4:=A_ (Kd.R_elder' (rl_ HO_4) (Kd.R_base ho0) hb);replace HO_7:=A_ (Kd.R_elder' (rl_ HO_7) (Kd.R_base ho0) hb);replace HO_511001:=A_ (Kd.R_elder' (rl_ HO_511001) (Kd.R_base ho0) hb);replace BK496:=bz BK496 hb;replace BK510:=bz BK510 hb;replace HB:=A_ (below_step bb_ hb);(try clear hb);(try clear hb2);(try clear hk);(try clear hi);(try clear ho0);obtain ⟨Ao67,co67,eo67⟩:=Kd.R_slice HO530.out;subst eo67)|((with_reducible refine gate_callee (f:=17) rfl ?_);refine goesL_ (some 76) rfl rfl Tryd.func17 (by kernel_rfl) rfl #[.agg #[.int .i64 t527,.slice Ao67 t528.length co67]] rfl au_ ?_;(with_reducible refine (impl_StairOf.calls kj36 t527 _ _ t528 t531 t534 _ ?side1 ?side2 ?side3 A60.out).mono ?_);(case side1=>exact cl_ (Kd.R_reads' HO530.out).2.2);(case side2=>exact (Kd.R_reads' HO530.out).2.1);(case side3=>first|exact HT.out|exact HT.out.below bb_|(repeat (first|exact HT.out|apply TabOK.drewN|apply TabOK.drew|apply TabOK.alloc)));rintro e w68 ⟨v532,rfl,ho0,hb⟩;refine ⟨_,rfl,?_⟩;have HO533:=A_ (Kd.R_lower (Kd.R_new' (Kd.R_new' (Kd.R_new' (Kd.R_new' ho0 (Kd.R_lt (rl_ HO_4))) (Kd.R_lt (rl_ HO_7))) (Kd.R_lt (rl_ HO_511001))) (Kd.R_lt (rl_ HO530))) (below_size bb_));replace HO_4:=A_ (Kd.R_elder' (rl_ HO_4) (Kd.R_base ho0) hb);replace HO_7:=A_ (Kd.R_elder' (rl_ HO_7) (Kd.R_base ho0) hb);replace HO_511001:=A_ (Kd.R_elder' (rl_ HO_511001) (Kd.R_base ho0) hb);replace HO530:=A_ (Kd.R_elder' (rl_ HO530) (Kd.R_base ho0) hb);replace BK496:=bz BK496 hb;replace BK510:=bz BK510 hb;replace HB:=A_ (below_step bb_ hb);(try clear hb);(try clear hb2);(try clear hk);(try clear hi);(try clear ho0)))
           (try simp only [Act.put,L_,M_,N_]);go_cut [87] (fun v87 wc=>∃ (kq : Nat) (x87_60 : Bool),v87 = .bool x87_60 ∧ Aside0 (laws_FnExactStairOf.j2 kq t525 t524 x87_60 = some r) ∧ Aside0 (kq ≤ kj36) ∧ Aside0 (Kd.R (Kd.int .i64) 3 wc w.heap.size (fun k_=>some k_ ≠ ((.slice Ao24 t522.length co24) : Value).ownBlock) (.slice Ao62 t511.length co62) t525) ∧ Aside0 (Kd.R (Kd.int .i64) 3 wc w.heap.size (fun k_=>some k_ ≠ ((.slice Ao62 t511.length co62) : Value).ownBlock) (.slice Ao24 t522.length co24) t522) ∧ Aside0 (wc.heap[gb496]? = some (.cells #[.int .i64 a0_0,(.slice A0_1 l0_1.length c0_1)] 24 (0,0))) ∧ Aside0 (wc.heap[gb510]? = some (.cells #[.int .i64 t506,(.slice Ao24 t522.length co24)] 28 (0,0))) ∧ Aside0 (Below w.heap.size w wc))
           case first =>
            have H:=HC61.out;clear HC61;replace H:=Option.bind_eq_some_iff.mp H;obtain ⟨t535,A690,H⟩:=H;replace H : (if t535 = true then (laws_FnExactStairOf.j2 kj36 t525 t524 (t534 != t505)) else (laws_FnExactStairOf.j2 kj36 t525 t524 true)) = some r:=H;have A69:=A_ A690;clear A690;by_cases c70 : t535 = true
            ·subst c70;have H1 : (laws_FnExactStairOf.j2 kj36 t525 t524 (t534 != t505)) = some r:=by rw [if_pos rfl] at H;exact H
             clear H;have H:=H1;clear H1;have H':=A_ H;clear H;obtain ⟨Ao71,co71,eo71⟩:=Kd.R_slice HO533.out;subst eo71;obtain ⟨Ao72,co72,eo72⟩:=Kd.R_slice HO_4.out;subst eo72;go_wp2_with (first|((with_reducible refine gate_callee (f:=18) rfl ?_);refine goesL_ (some 81) rfl rfl Tryd.func18 (by kernel_rfl) rfl #[.slice Ao71 t531.length co71,.slice Ao72 t502.length co72] rfl au_ ?_;(with_reducible refine (laws_eqIntS.calls kj36 _ _ t531 _ _ t502 true _ ?side1 ?side2 ?side3 ?side4 A69.out).mono ?_);(case side1=>exact cl_ (Kd.R_reads' HO533.out).2.2);(case side2=>exact (Kd.R_reads' HO533.out).2.1);(case side3=>exact cl_ (Kd.R_reads' HO_4.out).2.2);(case side4=>exact (Kd.R_reads' HO_4.out).2.1);rintro e w' ⟨rfl,⟨nd,rfl⟩⟩;refine ⟨_,rfl,?_⟩))
             go_meet
             case rel=>exact ⟨_,((t534 != t505)),(by first|rfl|(simp;done)|(simp [*];done)),H',⟨by have:=HJ10.out;have:=HJ36.out;first|omega|exact Nat.le_refl _⟩,⟨by (try simp only [hl511001_36]);(with_reducible repeat (first|apply Kd.R_alloc|apply Kd.R_drewN|apply Kd.R_drew));exact Kd.R_mono HO_7.out (fun _ hk=>hk.1.1.2)⟩,⟨by (try simp only [hl511001_36]);(with_reducible repeat (first|apply Kd.R_alloc|apply Kd.R_drewN|apply Kd.R_drew));exact Kd.R_mono HO_511001.out (fun _ hk=>hk.1.1.2)⟩,⟨by (try simp only [hl511001_36]);(with_reducible repeat (first|refine blk_drewN ?_ _|refine blk_drew ?_|refine blk_alloc ?_ _));exact BK496.out⟩,⟨by (try simp only [hl511001_36]);(with_reducible repeat (first|refine blk_drewN ?_ _|refine blk_drew ?_|refine blk_alloc ?_ _));exact BK510.out⟩,⟨bb_⟩⟩
            ·replace c70:=Bool.eq_false_iff.mpr c70;subst c70;have H1 : (laws_FnExactStairOf.j2 kj36 t525 t524 true) = some r:=by rw [if_neg (show ¬ (false = true) by decide)] at H;exact H
             clear H;have H:=H1;clear H1;have H':=A_ H;clear H;obtain ⟨Ao73,co73,eo73⟩:=Kd.R_slice HO533.out;subst eo73;obtain ⟨Ao74,co74,eo74⟩:=Kd.R_slice HO_4.out;subst eo74;go_wp2_with (first|((with_reducible refine gate_callee (f:=18) rfl ?_);refine goesL_ (some 81) rfl rfl Tryd.func18 (by kernel_rfl) rfl #[.slice Ao73 t531.length co73,.slice Ao74 t502.length co74] rfl au_ ?_;(with_reducible refine (laws_eqIntS.calls kj36 _ _ t531 _ _ t502 false _ ?side1 ?side2 ?side3 ?side4 A69.out).mono ?_);(case side1=>exact cl_ (Kd.R_reads' HO533.out).2.2);(case side2=>exact (Kd.R_reads' HO533.out).2.1);(case side3=>exact cl_ (Kd.R_reads' HO_4.out).2.2);(case side4=>exact (Kd.R_reads' HO_4.out).2.1);rintro e w' ⟨rfl,⟨nd,rfl⟩⟩;refine ⟨_,rfl,?_⟩))
             go_meet
             case rel=>exact ⟨_,(true),(by first|rfl|(simp;done)|(simp [*];done)),H',⟨by have:=HJ10.out;have:=HJ36.out;first|omega|exact Nat.le_refl _⟩,⟨by (try simp only [hl511001_36]);(with_reducible repeat (first|apply Kd.R_alloc|apply Kd.R_drewN|apply Kd.R_drew));exact Kd.R_mono HO_7.out (fun _ hk=>hk.1.1.2)⟩,⟨by (try simp only [hl511001_36]);(with_reducible repeat (first|apply Kd.R_alloc|apply Kd.R_drewN|apply Kd.R_drew));exact Kd.R_mono HO_511001.out (fun _ hk=>hk.1.1.2)⟩,⟨by (try simp only [hl511001_36]);(with_reducible repeat (first|refine blk_drewN ?_ _|refine blk_drew ?_|refine blk_alloc ?_ _));exact BK496.out⟩,⟨by (try simp only [hl511001_36]);(with_reducible repeat (first|refine blk_drewN ?_ _|refine blk_drew ?_|refine blk_alloc ?_ _));exact BK510.out⟩,⟨bb_⟩⟩
           case rest =>
            clear HC61;try clear c1
            try clear c2
            try clear p2
            try clear c3
            try clear c3b0
            try clear c4
            try clear c5
            try clear c6
            try clear c7
            try clear c14
            try clear c15
            try clear c16
            try clear c17
            try clear c18
            try clear c19
            try clear c20
            try clear c21
            try clear c22
            try clear c27
            try clear c32
            try clear c35
            try clear c42
            try clear c45
            try clear c45b0
            try clear c47
            try clear c52
            try clear c55
            try clear c55b0
            try clear c58
            try clear c58b0
            try clear c58b1
            try clear c64
            try clear c70
            try clear hcz13_0
            try clear hcz13_1
            try clear hcz15_0
            try clear hcz15_1
            try clear hcz19_0
            try clear hcz19_1
            try clear hcz23_0
            try clear hcz23_1
            try clear hcz43_0
            try clear hcz43_1
            try clear hcz5_0
            try clear hcz5_1
            try clear hcz65_0
            try clear hcz65_1
            try clear hfz13_0
            try clear hfz13_1
            try clear hfz15_0
            try clear hfz15_1
            try clear hfz19_0
            try clear hfz19_1
            try clear hfz23_0
            try clear hfz23_1
            try clear hfz43_0
            try clear hfz43_1
            try clear hfz5_0
            try clear hfz5_1
            try clear hfz65_0
            try clear hfz65_1
            try clear p2
            obtain ⟨kq,x87_60,rfl,HA,HJ60,HO_7,HO_511001,BK496,BK510,HB⟩:=hcut;have hl7_60:=(Kd.R_reads' HO_7.out).1;rw [hl7_60] at HO_7;(try simp only [hl7_60]);(try simp only [hl7_60] at BK496);(try simp only [hl7_60] at BK510);(try simp only [hl7_60] at HO_511001);cases kq with
            | zero=>exact absurd HA.out (by simp [laws_FnExactStairOf.j2])
            | succ kj60 =>
             have H:=HA.out;clear HA;simp only [laws_FnExactStairOf.j2] at H
             by_cases c75 : x87_60 = true
             ·subst c75;have H1 : (some false) = some r:=by rw [if_pos rfl] at H;exact H
              clear H;have H:=H1;clear H1;obtain rfl:=Option.some.inj H;go_wp2
              go_ret
              exact ⟨by first|rfl|(simp [errW_none,errW_some] <;> rfl)|(simp [*,errW_none,errW_some] <;> rfl),bb_⟩
             ·replace c75:=Bool.eq_false_iff.mpr c75;subst c75;have H1 : ((laws_heldIntS.f kj60 t525 1).bind fun t536=>(if t536 < 0 then (some false) else (if t536 = t524 then (some true) else (some false)))) = some r:=by rw [if_neg (show ¬ (false = true) by decide)] at H;exact H
              clear H;have H:=H1;clear H1;replace H:=Option.bind_eq_some_iff.mp H;obtain ⟨t536,A760,H⟩:=H;replace H : (if t536 < 0 then (some false) else (if t536 = t524 then (some true) else (some false))) = some r:=H;have A76:=A_ A760;clear A760;by_cases c77 : t536 < 0
              ·rw [if_pos c77] at H;have c77b0 : decide (t536 < 0) = true:=decide_eq_true c77;clear c77;obtain rfl:=Option.some.inj H;go_wp2_with (first|((with_reducible refine gate_callee (f:=22) rfl ?_);refine goesL_ (some 90) rfl rfl Tryd.func22 (by kernel_rfl) rfl #[.slice Ao62 t525.length co62,.int .i64 1] rfl au_ ?_;(with_reducible refine (laws_heldIntS.calls kj60 _ _ t525 1 t536 _ ?side1 ?side2 A76.out).mono ?_);(case side1=>exact cl_ (Kd.R_reads' HO_7.out).2.2);(case side2=>exact (Kd.R_reads' HO_7.out).2.1);rintro e w' ⟨rfl,⟨nd,rfl⟩⟩;refine ⟨_,rfl,?_⟩))
               go_ret
               exact ⟨by first|rfl|(simp [errW_none,errW_some] <;> rfl)|(simp [*,errW_none,errW_some] <;> rfl),bb_⟩
              ·rw [if_neg c77] at H;have c77b0 : decide (t536 < 0) = false:=decide_eq_false c77;clear c77;by_cases c78 : t536 = t524
               ·rw [if_pos c78] at H;have c78b0 : (t536 == t524) = true:=beq_iff_eq.mpr c78;have c78b1 : (t536 != t524) = false:=bne_eq_false_iff_eq.mpr c78;clear c78;obtain rfl:=Option.some.inj H;go_wp2_with (first|((with_reducible refine gate_callee (f:=22) rfl ?_);refine goesL_ (some 90) rfl rfl Tryd.func22 (by kernel_rfl) rfl #[.slice Ao62 t525.length co62,.int .i64 1] rfl au_ ?_;(with_reducible refine (laws_heldIntS.calls kj60 _ _ t525 1 t536 _ ?side1 ?side2 A76.out).mono ?_);(case side1=>exact cl_ (Kd.R_reads' HO_7.out).2.2);(case side2=>exact (Kd.R_reads' HO_7.out).2.1);rintro e w' ⟨rfl,⟨nd,rfl⟩⟩;refine ⟨_,rfl,?_⟩))
                go_ret
                exact ⟨by first|rfl|(simp [errW_none,errW_some] <;> rfl)|(simp [*,errW_none,errW_some] <;> rfl),bb_⟩
               ·rw [if_neg c78] at H;have c78b0 : (t536 == t524) = false:=beq_eq_false_iff_ne.mpr c78;have c78b1 : (t536 != t524) = true:=bne_iff_ne.mpr c78;obtain rfl:=Option.some.inj H;go_wp2_with (first|((with_reducible refine gate_callee (f:=22) rfl ?_);refine goesL_ (some 90) rfl rfl Tryd.func22 (by kernel_rfl) rfl #[.slice Ao62 t525.length co62,.int .i64 1] rfl au_ ?_;(with_reducible refine (laws_heldIntS.calls kj60 _ _ t525 1 t536 _ ?side1 ?side2 A76.out).mono ?_);(case side1=>exact cl_ (Kd.R_reads' HO_7.out).2.2);(case side2=>exact (Kd.R_reads' HO_7.out).2.1);rintro e w' ⟨rfl,⟨nd,rfl⟩⟩;refine ⟨_,rfl,?_⟩))
                go_ret
                exact ⟨by first|rfl|(simp [errW_none,errW_some] <;> rfl)|(simp [*,errW_none,errW_some] <;> rfl),bb_⟩
          ·rw [if_neg c58] at H;have c58b0 : (t526 == t524) = false:=beq_eq_false_iff_ne.mpr c58;have c58b1 : (t526 != t524) = true:=bne_iff_ne.mpr c58;obtain rfl:=Option.some.inj H;obtain ⟨Ao79,co79,eo79⟩:=Kd.R_slice HO_7.out;subst eo79;go_wp2_with (first|((with_reducible refine gate_callee (f:=21) rfl ?_);refine goesL_ (some 64) rfl rfl Tryd.func21 (by kernel_rfl) rfl #[.slice Ao79 t511.length co79,.int .i64 1] rfl au_ ?_;(with_reducible refine (laws_markIntS.calls kj36 (fun k_=>some k_ = (.slice Ao79 t511.length co79 : Value).ownBlock) (.slice Ao79 t511.length co79) t511 1 t524 t525 w _ ?side1 ?side2 A53.out).mono ?_);(case side1=>repeat (first|(with_reducible first|exact HB.out|apply below_alloc|apply pw_below_drewN|apply below_drew1|refine below_set ?_ (Aside0.out (by assumption)))|exact HB.out));(case side2=>exact Kd.R_tight rfl HO_7.out);rintro e w80 ⟨rfl,hy0,hb,hkp⟩;refine ⟨_,rfl,?_⟩;replace HO_4:=A_ (Kd.R_mono (ok':=fun k_=>some k_ ≠ (.slice Ao79 t511.length co79 : Value).ownBlock ∧ some k_ ≠ (.slice Ao24 t522.length co24 : Value).ownBlock) (Kd.R_keptB (HO_4.out) hkp (fun k_ hk_ hs_=>(hk_.1) hs_)) (fun k_ hk_=>⟨hk_.1.1,hk_.1.2⟩));replace HO_511001:=A_ (Kd.R_mono (ok':=fun k_=>some k_ ≠ (v503 : Value).ownBlock ∧ some k_ ≠ (.slice Ao79 t511.length co79 : Value).ownBlock) (Kd.R_keptB (HO_511001.out) hkp (fun k_ hk_ hs_=>(hk_.2) hs_)) (fun k_ hk_=>⟨hk_.1.1,hk_.1.2⟩));replace BK496:=A_ (blk_kept (bl_ BK496) hkp (fun hs_=>(fun e_=>(Kd.R_ne HO_7.out BK496.out (by decide)) e_) hs_));replace BK510:=A_ (blk_kept (bl_ BK510) hkp (fun hs_=>(fun e_=>(Kd.R_ne HO_7.out BK510.out (by decide)) e_) hs_));replace HO_7:=A_ (Kd.R_reok rfl hy0 (fun k_ e_=>HO_7.out.1 k_ e_));replace HB:=A_ (hb);(try clear hb);(try clear hkp);(try clear hy0))|((with_reducible refine gate_callee (f:=22) rfl ?_);refine goesL_ (some 67) rfl rfl Tryd.func22 (by kernel_rfl) rfl #[.slice Ao79 t525.length co79,.int .i64 1] rfl (by (try simp only [P_,Q_,R_]);first|done|(rw [show t525.length = t511.length from (Kd.R_reads' HO_7.out).1.symm] <;> rfl)|rfl|(simp only [S_,U_];rfl)) ?_;(with_reducible refine (laws_heldIntS.calls kj36 _ _ t525 1 t526 _ ?side1 ?side2 A54.out).mono ?_);(case side1=>exact cl_ (Kd.R_reads' HO_7.out).2.2);(case side2=>rw [show t525.length = t511.length from (Kd.R_reads' HO_7.out).1.symm];exact (Kd.R_reads' HO_7.out).2.1);rintro e w' ⟨rfl,⟨nd,rfl⟩⟩;refine ⟨_,rfl,?_⟩))
           go_ret
           exact ⟨by first|rfl|(simp [errW_none,errW_some] <;> rfl)|(simp [*,errW_none,errW_some] <;> rfl),bb_⟩
     ·replace c35:=Bool.eq_false_iff.mpr c35;subst c35;have H1 : (some false) = some r:=by rw [if_neg (show ¬ (false = true) by decide)] at H;exact H
      clear H;have H:=H1;clear H1;obtain rfl:=Option.some.inj H;try go_wp2
      replace HO_4:=A_ (Kd.R_drew HO_4.out);replace HO_7:=A_ (Kd.R_drew HO_7.out);replace HO_511001:=A_ (Kd.R_drew HO_511001.out);replace BK496:=A_ (blk_drew BK496.out);replace BK510:=A_ (blk_drew BK510.out);replace HB:=A_ (below_drew1 HB.out);refine start_ (n:=5) (S:=fun w'=>w'.cell? ⟨gb510,0,none⟩ = some (.int .i64 t506) ∧ w'.cell? ⟨gb510,1,none⟩ = some (.slice Ao24 t507.length co24) ∧ w'.cell? ⟨gb496,0,none⟩ = some (.int .i64 a0_0) ∧ w'.cell? ⟨gb496,1,none⟩ = some (.slice A0_1 l0_1.length c0_1)) (ds:=[]) #[F,F,F,F,F] (by kernel_rfl) rfl rfl ⟨blk_cell BK510.out 0,blk_cell BK510.out 1,blk_cell BK496.out 0,blk_cell BK496.out 1⟩ (fun hHeld=>?_)
      generalize wc.drew = w81 at HO_4 HO_7 HO_511001 BK496 BK510 HB hHeld ⊢
      refine take_ (i:=0) (N:=some 41) (v:=?_) (a':=?_) #[T,F,F,F,F] rfl rfl (by kernel_rfl) (fun _ _ _ h=>h) (Or.inl ⟨by rfl,?_⟩) hHeld ?_ ?_
      rotate_left
      ·rintro w' ⟨s0,s1,s2,s3⟩
       go_simp
       with_reducible rfl
      rotate_left;·simp only [Act.put,L_,M_,N_,i64_w,i32_w];rfl
      refine take_ (i:=1) (N:=some 42) (v:=?_) (a':=?_) #[T,T,F,F,F] rfl rfl (by kernel_rfl) (fun _ _ _ h=>h) (Or.inl ⟨by rfl,?_⟩) hHeld ?_ ?_
      rotate_left
      ·rintro w' ⟨s0,s1,s2,s3⟩
       go_simp
       with_reducible rfl
      rotate_left;·simp only [Act.put,L_,M_,N_,i64_w,i32_w];rfl
      refine one_ (i:=2) (N:=some 43) #[T,T,T,F,F] rfl rfl (by kernel_rfl) (by decide) (fun K hK=>?_)
      refine goes_ Tryd.func16 (by kernel_rfl) rfl #[.agg #[.int .i64 a0_0,.slice A0_1 l0_1.length c0_1]] (by rfl) rfl rfl au_ ?_
      with_reducible refine (laws_toOrder.calls kj10 a0_0 _ _ l0_1 t516 t517 _ ?side1 ?side2 A33.out).mono ?_
      (case side1=>exact cl_ (Kd.C_below HR0_1.out HB.out))
      (case side2=>exact HC0_1.out)
      rintro e w82 ⟨v518,rfl,ho0,hb⟩
      refine ⟨_,rfl,?_⟩
      have HO519:=A_ (Kd.R_lower (Kd.R_new' (Kd.R_new' (Kd.R_new' ho0 (Kd.R_lt (rl_ HO_4))) (Kd.R_lt (rl_ HO_7))) (Kd.R_lt (rl_ HO_511001))) (below_size bb_));replace HO_4:=A_ (Kd.R_elder' (rl_ HO_4) (Kd.R_base ho0) hb);replace HO_7:=A_ (Kd.R_elder' (rl_ HO_7) (Kd.R_base ho0) hb);replace HO_511001:=A_ (Kd.R_elder' (rl_ HO_511001) (Kd.R_base ho0) hb);replace BK496:=bz BK496 hb;replace BK510:=bz BK510 hb;replace HB:=A_ (below_step bb_ hb);(try clear hb);(try clear hb2);(try clear hk);(try clear hi);(try clear ho0);obtain ⟨Ao83,co83,eo83⟩:=Kd.R_slice HO519.out;(first|subst eo83|(injection eo83 with f1_ f2_ f3_;have f4_:=f1_.symm;have f5_:=f3_.symm;clear f1_ f2_ f3_;subst f4_;subst f5_))
      refine hK.out _ _ ⟨blk_cell BK510.out 0,blk_cell BK510.out 1,blk_cell BK496.out 0,blk_cell BK496.out 1⟩ (fun hHeld=>?_)
      clear hK K;refine norm_ (a':=?_) ?_ ?_
      rotate_left
      ·show Act.put _ (some 43) _ = _
       simp only [Act.put,L_,M_,N_,i64_w,i32_w]
       rfl
      refine one_ (i:=3) (N:=some 44) #[T,T,T,T,F] rfl rfl (by kernel_rfl) (by decide) (fun K hK=>?_)
      refine goes_ Tryd.func19 (by kernel_rfl) rfl #[.agg #[.int .i64 t506,.slice Ao24 t507.length co24],.agg #[.int .i64 t516,.slice Ao83 t517.length co83]] (by rfl) rfl rfl au_ ?_
      with_reducible refine (laws_eqOrder.calls kj10 t506 _ _ t507 t516 _ _ t517 false _ ?side1 ?side2 ?side3 ?side4 A34.out).mono ?_
      (case side1=>exact cl_ (Kd.R_reads' HO_511001.out).2.2)
      (case side2=>exact (Kd.R_reads' HO_511001.out).2.1)
      (case side3=>exact cl_ (Kd.R_reads' HO519.out).2.2)
      (case side4=>exact (Kd.R_reads' HO519.out).2.1)
      rintro e w84 ⟨rfl,hb⟩
      refine ⟨_,rfl,?_⟩
      replace HO_4:=rb_ HO_4 hb;replace HO_7:=rb_ HO_7 hb;replace HO_511001:=rb_ HO_511001 hb;replace HO519:=rb_ HO519 hb;replace BK496:=bz BK496 hb;replace BK510:=bz BK510 hb;replace HB:=A_ (below_step bb_ hb);(try clear hb);(try clear hb2);(try clear hk);(try clear hi);refine hK.out _ _ ⟨blk_cell BK510.out 0,blk_cell BK510.out 1,blk_cell BK496.out 0,blk_cell BK496.out 1⟩ (fun hHeld=>?_)
      clear hK K;refine norm_ (a':=?_) ?_ ?_
      rotate_left
      ·show Act.put _ (some 44) _ = _
       simp only [Act.put,L_,M_,N_,i64_w,i32_w]
       rfl
      refine pure_ (i:=4) (N:=some 45) (v:=?_) (a':=?_) #[T,T,T,T,T] rfl rfl (by kernel_rfl) (fun _ _ _ h=>h) (Or.inl ⟨by rfl,?_⟩) ?_ ?_
      rotate_left;·intro w';go_simp;with_reducible rfl
      rotate_left;·simp only [Act.put,L_,M_,N_,i64_w,i32_w];rfl
      refine done_ (by kernel_rfl) ?_
      try go_wp2
      go_ret
      exact ⟨by first|rfl|(simp [errW_none,errW_some] <;> rfl)|(simp [*,errW_none,errW_some] <;> rfl),bb_⟩
end Go.Proofs.YtimjblnglhmakaaDoor.P
namespace Go.Proofs.YtimjblnglhmakaaDoor.P
open Go.RowKit Go.Proofs.YtimjblnglhmakaaDoorW.PrintWords Go.Proofs.YtimjblnglhmakaaDoorW.PrintLast Go.Proofs.YtimjblnglhmakaaDoorW.PrintMore
open Bool renaming true → T, false → F
open List renaming setIfInBounds_toArray → L_, set_cons_zero → M_, set_cons_succ → N_, map_toArray → P_, map_cons → Q_, map_nil → R_, length_drop → S_, length_take → U_
open Aside0 renaming mk → A_
set_option linter.unusedVariables false
def laws_FnExactStairOf.Pure : Prop := ∀ (a0_0 : Int) (l0_1 : List Int), (Lit.int .i64 a0_0).wf = true → l0_1.length ≤ maxLen → (∀ x ∈ l0_1, (Lit.int .i64 x).wf = true) → ∃ k, laws_FnExactStairOf.f k a0_0 l0_1 = some true
theorem laws_FnExactStairOf.walk (P : laws_FnExactStairOf.Pure) (a0_0 : Int) (a0_1 : Option Addr) (len0_1 cap0_1 : Nat) (z0_1 : List Int) (w : World) (w0_0 : (Lit.int .i64 a0_0).wf = true) (w0_1 : (a0_1 = none ∧ len0_1 = 0 ∧ cap0_1 = 0 ∧ z0_1 = []) ∨ ∃ x, a0_1 = some x ∧ len0_1 ≤ cap0_1 ∧ cap0_1 ≤ maxLen ∧ z0_1.length = cap0_1 ∧ (∀ i, i < z0_1.length → w.cell? (x.add i) = some (.int .i64 (z0_1.getD i 0))) ∧ ∀ n ∈ z0_1, (Lit.int .i64 n).wf = true) (hT : TabOK w) :
    Calls Tryd.prog 3 #[.agg #[.int .i64 a0_0, .slice a0_1 len0_1 cap0_1]] w fun e w' => e = .returned (.bool true) ∧ Below w.heap.size w w' := by
  obtain ⟨l0_1, rfl, hr0_1, hm0_1, hw0_1, hc0_1⟩ := ReadsInt.ofRowC w0_1
  obtain ⟨k, h⟩ := P a0_0 l0_1 w0_0 hm0_1 hw0_1
  refine (laws_FnExactStairOf.calls k a0_0 _ _ l0_1 true w (Kd.C_of_reads (d := (0 : Int)) (h1 := fun _ => rfl) hr0_1) hc0_1 hT h).mono ?_
  rintro e w' ⟨rfl, hd⟩
  exact ⟨rfl, hd⟩
end Go.Proofs.YtimjblnglhmakaaDoor.P
namespace Go.Proofs.YtimjblnglhmakaaDoor.M
open Go.RowKit Go.Proofs.YtimjblnglhmakaaDoorW.PrintMore Go.Proofs.YtimjblnglhmakaaDoorW.PrintLast Go.Proofs.YtimjblnglhmakaaDoorW.PrintWords
theorem i64_small (n : Nat) (h : n < 9223372036854775808) : IntKind.i64.wrap (n : Int) = (n : Int) := by
  simp [IntKind.wrap, IntKind.signed, IntKind.bits]
  omega
theorem wrap64_id (x : Int) (h0 : -9223372036854775808 ≤ x) (h1 : x ≤ 9223372036854775807) : wrap64 x = x := by
  unfold wrap64
  omega
theorem ofInt64 (a : Nat) (ha : a < 18446744073709551616) : (BitVec.ofInt 64 (a : Int)).toNat = a := by
  rw [BitVec.ofInt_natCast, BitVec.toNat_ofNat]; exact Nat.mod_eq_of_lt (by omega)
theorem and_i64 (a b : Nat) (ha : a < 9223372036854775808) (hb : b < 9223372036854775808) : Go.bits .and .i64 (a : Int) (b : Int) = ((a &&& b : Nat) : Int) := by
  have hx : a &&& b < 2 ^ 63 := Nat.and_lt_two_pow _ (by omega)
  show IntKind.i64.wrap ((BitVec.ofInt 64 (a : Int) &&& BitVec.ofInt 64 (b : Int)).toNat : Int) = _
  rw [BitVec.toNat_and, ofInt64 a (by omega), ofInt64 b (by omega), i64_small _ (by omega)]
theorem or_i64 (a b : Nat) (ha : a < 9223372036854775808) (hb : b < 9223372036854775808) : Go.bits .or .i64 (a : Int) (b : Int) = ((a ||| b : Nat) : Int) := by
  have hx : a ||| b < 2 ^ 63 := Nat.or_lt_two_pow (by omega) (by omega)
  show IntKind.i64.wrap ((BitVec.ofInt 64 (a : Int) ||| BitVec.ofInt 64 (b : Int)).toNat : Int) = _
  rw [BitVec.toNat_or, ofInt64 a (by omega), ofInt64 b (by omega), i64_small _ (by omega)]
def diff (a b : Nat) : Nat := a &&& (a ^^^ b)
theorem testBit_diff (a b i : Nat) : (diff a b).testBit i = (a.testBit i && !b.testBit i) := by
  unfold diff
  rw [Nat.testBit_and, Nat.testBit_xor]
  cases a.testBit i <;> cases b.testBit i <;> rfl
theorem andNot_i64 (a b : Nat) (ha : a < 9223372036854775808) (hb : b < 9223372036854775808) : Go.bits .andNot .i64 (a : Int) (b : Int) = ((diff a b : Nat) : Int) := by
  have hx : diff a b < 2 ^ 63 := Nat.lt_of_le_of_lt Nat.and_le_left (by omega)
  show IntKind.i64.wrap ((BitVec.ofInt 64 (a : Int) &&& ~~~ BitVec.ofInt 64 (b : Int)).toNat : Int) = _
  have e : (BitVec.ofInt 64 (a : Int) &&& ~~~ BitVec.ofInt 64 (b : Int)).toNat = diff a b := by
    apply Nat.eq_of_testBit_eq
    intro i
    rw [BitVec.toNat_and, Nat.testBit_and, testBit_diff, ofInt64 a (by omega)]
    by_cases hi : i < 64
    · rw [show (~~~ BitVec.ofInt 64 (b : Int)).toNat.testBit i = !(BitVec.ofInt 64 (b : Int)).toNat.testBit i from by
        rw [BitVec.testBit_toNat, BitVec.testBit_toNat, BitVec.getLsbD_not]; simp [hi], ofInt64 b (by omega)]
    · rw [Nat.testBit_lt_two_pow (x := a) (i := i) (Nat.lt_of_lt_of_le (by omega : a < 2 ^ 64) (Nat.pow_le_pow_right (by decide) (by omega)))]
      rfl
  rw [e, i64_small _ (by omega)]
theorem shl1 (j : Nat) (h : j ≤ 62) : shl .i64 1 (j : Int) = ((2 ^ j : Nat) : Int) := by
  unfold shl
  have h2 : (2 : Nat) ^ j < 9223372036854775808 := Nat.lt_of_le_of_lt (Nat.pow_le_pow_right (by decide) h) (by decide)
  rw [Int.toNat_natCast, Nat.min_eq_left (by show j ≤ 64; omega), Int.one_mul]
  have := i64_small (2 ^ j) h2
  rwa [Int.natCast_pow] at this ⊢
theorem shr_nat (a j : Nat) (h : j ≤ 64) : shr .i64 (a : Int) (j : Int) = ((a / 2 ^ j : Nat) : Int) := by
  unfold shr
  rw [Int.toNat_natCast, Nat.min_eq_left (by exact h)]
  simp
def bit (s : Int) (j : Nat) : Bool := s.toNat.testBit j
theorem bit_cast (a j : Nat) : bit (a : Int) j = a.testBit j := by simp [bit]
theorem and_one (a : Nat) (j : Nat) : ((a / 2 ^ j) &&& 1 : Nat) = if a.testBit j then 1 else 0 := by
  rw [Nat.and_one_is_mod, Nat.testBit_eq_decide_div_mod_eq]
  rcases Nat.mod_two_eq_zero_or_one (a / 2 ^ j) with h | h <;> simp [h]
theorem has_and (s : Int) (j : Nat) (h0 : 0 ≤ s) (h1 : s < 9223372036854775808) (hj : j ≤ 64) : (Go.bits .and .i64 (shr .i64 s (j : Int)) 1 == 1) = bit s j := by
  obtain ⟨a, rfl⟩ := Int.eq_ofNat_of_zero_le h0
  have hl : a / 2 ^ j < 9223372036854775808 := Nat.lt_of_le_of_lt (Nat.div_le_self _ _) (by omega)
  rw [shr_nat a j hj, show (1 : Int) = ((1 : Nat) : Int) from rfl, and_i64 _ 1 hl (by decide), and_one, bit_cast]
  cases a.testBit j <;> rfl
theorem has_mod (s : Int) (j : Nat) (h0 : 0 ≤ s) (hj : j ≤ 64) : (Int.tmod (shr .i64 s (j : Int)) 2 == 1) = bit s j := by
  obtain ⟨a, rfl⟩ := Int.eq_ofNat_of_zero_le h0
  rw [shr_nat a j hj, bit_cast, Nat.testBit_eq_decide_div_mod_eq, Int.tmod_eq_emod_of_nonneg (Int.natCast_nonneg _)]
  rcases Nat.mod_two_eq_zero_or_one (a / 2 ^ j) with h | h
  · rw [show ((a / 2 ^ j : Nat) : Int) % 2 = 0 from by omega]; simp [h]
  · rw [show ((a / 2 ^ j : Nat) : Int) % 2 = 1 from by omega]; simp [h]
def setOf : Nat → (Nat → Bool) → Nat
  | 0, _ => 0
  | n + 1, q => setOf n q ||| (if q n then 2 ^ n else 0)
theorem testBit_setOf (n : Nat) (q : Nat → Bool) (j : Nat) : (setOf n q).testBit j = (decide (j < n) && q j) := by
  induction n with
  | zero => simp [setOf]
  | succ n ih =>
    unfold setOf
    rw [Nat.testBit_or, ih]
    by_cases hq : q n
    · rw [if_pos hq, Nat.testBit_two_pow]
      by_cases h : n = j
      · subst h; simp [hq]
      · have : (j < n + 1) ↔ j < n := by omega
        simp [h, this]
    · rw [if_neg hq]
      by_cases h : n = j
      · subst h; simp [hq]
      · have : (j < n + 1) ↔ j < n := by omega
        simp [this]
theorem setOf_lt (n : Nat) (q : Nat → Bool) : setOf n q < 2 ^ n := by
  induction n with
  | zero => simp [setOf]
  | succ n ih =>
    unfold setOf
    have h1 : setOf n q < 2 ^ (n + 1) := Nat.lt_of_lt_of_le ih (Nat.pow_le_pow_right (by decide) (by omega))
    refine Nat.or_lt_two_pow h1 ?_
    split
    · exact Nat.pow_lt_pow_right (by decide) (by omega)
    · exact Nat.two_pow_pos _
theorem lt62 {n s : Nat} (h : s < 2 ^ n) (hn : n ≤ 62) : s < 9223372036854775808 := Nat.lt_of_lt_of_le h (Nat.le_trans (Nat.pow_le_pow_right (by decide) hn) (by decide))
theorem setOf_62 (n : Nat) (q : Nat → Bool) (hn : n ≤ 62) : setOf n q < 9223372036854775808 := lt62 (setOf_lt n q) hn
end Go.Proofs.YtimjblnglhmakaaDoor.M
