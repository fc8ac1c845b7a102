/- A part of the proof that the law FnExactTraceOf holds at every input. Written by wip/pack.py: the kit's printed words that are used, the functions' walks as wip/gen.py prints them, and hand proofs. -/
import Derived.Test.YtimjblnglhmakaaDoorKFnExactTraceOf1
import Derived.RangeFuncBox
import Derived.RangeFuncLeaves
import Derived.Shelf.Abstract
import Derived.Shelf.AbstractIn
import Derived.WalkKit
import Derived.OwnWalkIn
import Derived.TacticsInMore
import Derived.LoopNIn
import Derived.LoopIn
import Derived.Maps.AppendAt
import Derived.Lib.SlKeysI
import Derived.Shelf.SortM.Plain
import Derived.Shelf.SortM.SortNone
import Derived.Shelf.SlicesG.CompactI
import Derived.Shelf.SlicesG.SearchI
import Derived.Test.YtimjblnglhmakaaDoorProg
namespace Go.Proofs.YtimjblnglhmakaaDoor.P
open Go.RowKit Go.Proofs.YtimjblnglhmakaaDoorW.PrintWords Go.Proofs.YtimjblnglhmakaaDoorW.PrintLast Go.Proofs.YtimjblnglhmakaaDoorW.PrintMore
open Bool renaming true → T, false → F
open List renaming setIfInBounds_toArray → L_, set_cons_zero → M_, set_cons_succ → N_, map_toArray → P_, map_cons → Q_, map_nil → R_, length_drop → S_, length_take → U_
open Aside0 renaming mk → A_
attribute [local go_sem] max2_int min2_int max_two min_two max_three min_three max_four min_four
set_option linter.unusedVariables false
set_option linter.unusedSimpArgs false
attribute [local go_sem] fldOrder_0 fldOrder_1
mutual
def impl_Order_twoTwo.l0 : Nat → Int → Int → Int → List Int → Option (List Int)
 | 0,_,_,_,_=>none
 | k + 1,x8,x9,x278000,x278001=>if x9 < x8 then (impl_Order_twoTwo.l1 k x9 x8 x9 x278000 0 x278000 x278001) else (some ([] : List Int))
def impl_Order_twoTwo.l1 : Nat → Int → Int → Int → Int → Int → Int → List Int → Option (List Int)
 | 0,_,_,_,_,_,_,_=>none
 | k + 1,x3,x8,x9,x13,x14,x278000,x278001=>if x14 < x13 then (impl_Order_twoTwo.l2 k x3 x14 x8 x9 x13 x14 x278000 0 x278000 x278001) else (impl_Order_twoTwo.l0 k x8 (wrap64 (x9 + 1)) x278000 x278001)
def impl_Order_twoTwo.l2 : Nat → Int → Int → Int → Int → Int → Int → Int → Int → Int → List Int → Option (List Int)
 | 0,_,_,_,_,_,_,_,_,_,_=>none
 | k + 1,x3,x4,x8,x9,x13,x14,x18,x19,x278000,x278001=>if x19 < x18 then (impl_Order_twoTwo.l3 k x3 x4 x19 x8 x9 x13 x14 x18 x19 x278000 0 x278000 x278001) else (impl_Order_twoTwo.l1 k x3 x8 x9 x13 (wrap64 (x14 + 1)) x278000 x278001)
def impl_Order_twoTwo.l3 : Nat → Int → Int → Int → Int → Int → Int → Int → Int → Int → Int → Int → Int → List Int → Option (List Int)
 | 0,_,_,_,_,_,_,_,_,_,_,_,_,_=>none
 | k + 1,x3,x4,x5,x8,x9,x13,x14,x18,x19,x23,x24,x278000,x278001=>if x24 < x23 then ((impl_Order_better.f x278000 x278001 x3 x4).bind fun t278=>(if t278 = true then ((impl_Order_better.f x278000 x278001 x5 x24).bind fun t279=>(if t279 = true then ((impl_Order_better.f x278000 x278001 x5 x4).bind fun t280=>(if t280 = true then (impl_Order_twoTwo.l3 k x3 x4 x5 x8 x9 x13 x14 x18 x19 x23 (wrap64 (x24 + 1)) x278000 x278001) else ((impl_Order_better.f x278000 x278001 x3 x24).bind fun t281=>(if t281 = true then (impl_Order_twoTwo.l3 k x3 x4 x5 x8 x9 x13 x14 x18 x19 x23 (wrap64 (x24 + 1)) x278000 x278001) else (some (([x3,x4,x5,x24] : List Int))))))) else (impl_Order_twoTwo.l3 k x3 x4 x5 x8 x9 x13 x14 x18 x19 x23 (wrap64 (x24 + 1)) x278000 x278001))) else (impl_Order_twoTwo.l3 k x3 x4 x5 x8 x9 x13 x14 x18 x19 x23 (wrap64 (x24 + 1)) x278000 x278001))) else (impl_Order_twoTwo.l2 k x3 x4 x8 x9 x13 x14 x18 (wrap64 (x19 + 1)) x278000 x278001)
end
def impl_Order_twoTwo.f (k : Nat) (a0_0 : Int) (l0_1 : List Int) : Option (List Int) := impl_Order_twoTwo.l0 k a0_0 0 a0_0 l0_1
set_option maxHeartbeats 8000000 in
set_option maxRecDepth 100000 in
theorem impl_Order_twoTwo.calls (k : Nat) (a0_0 : Int) (A0_1 : Option Addr) (c0_1 : Nat) (l0_1 : List Int) (r : List Int) (w : World) (hr0_1 : Kd.C (Kd.int .i64) w A0_1 l0_1.length l0_1) (hc0_1 : l0_1.length ≤ c0_1) (h : impl_Order_twoTwo.f k a0_0 l0_1 = some r) :
 Calls Tryd.prog 141 #[.agg #[.int .i64 a0_0,.slice A0_1 l0_1.length c0_1]] w fun e w'=>∃ v0_ : Value,e = .returned (v0_) ∧ Kd.R (Kd.int .i64) 3 w' w.heap.size (fun _=>True) v0_ r ∧ Below w.heap.size w w' ∧ (r = [] → v0_ = .slice none 0 0):=by
 have hu28:=Tryd.underlying28;have HR0_1:=A_ hr0_1;have HC0_1:=A_ hc0_1;clear hr0_1 hc0_1;have HB:=A_ (Below.refl w.heap.size w);have H : (impl_Order_twoTwo.l0 k a0_0 0 a0_0 l0_1) = some r:=h;clear h;have H':=A_ H;clear H;go_enter Tryd.func141,Tryd.ntmps141
 go_wp2_with (first|((with_reducible refine gate_dst (N:=1) rfl ?_);refine box_event ?hg (N:=1) ?hd (cs:=#[.int .i64 a0_0,.slice A0_1 l0_1.length c0_1]) (t:=28) ?hr ?_;(case hd=>rfl);(case hg=>rfl);(case hr=>first|(go_simp;done)|(go_simp;rfl));intro gb277 hg w2 hbox hb;have BK277:=A_ (hbox);have GW277:=A_ ((by rw [hg];exact (below_size bb_) : w.heap.size ≤ gb277));have GE277:=A_ ((by rw [hg];exact (below_size bb_) : w.heap.size ≤ gb277));replace HB:=A_ (below_step bb_ hb);clear hb hbox hg;have hcz3_0 : w2.cell? ⟨gb277,0,none⟩ = some (.int .i64 a0_0):=blk_cell BK277.out 0;have hcz3_1 : w2.cell? ⟨gb277,1,none⟩ = some (.slice A0_1 l0_1.length c0_1):=blk_cell BK277.out 1;have hfz3_0:=blk_frozen BK277.out 0;have hfz3_1:=blk_frozen BK277.out 1))
 go_loopg [9] k (fun kq v9 w'=>∃ (x9_1 : Int),v9 = .int .i64 x9_1 ∧ Aside0 (impl_Order_twoTwo.l0 kq a0_0 x9_1 a0_0 l0_1 = some r) ∧ Aside0 (kq ≤ k) ∧ Aside0 (w'.heap[gb277]? = some (.cells #[.int .i64 a0_0,(.slice A0_1 l0_1.length c0_1)] 28 (0,0))) ∧ Aside0 (Below w.heap.size w w'))
 case atStart=>exact ⟨(0),(by first|rfl|(simp;done)|(simp [*];done)),H',⟨Nat.le_refl _⟩,⟨bl_ BK277⟩,⟨bb_⟩⟩
 case round =>
  clear H';try clear c1
  try clear p2
  try clear hcz3_0
  try clear hcz3_1
  try clear hfz3_0
  try clear hfz3_1
  obtain ⟨x9_1,rfl,HA,HK1,BK277,HB⟩:=hrel;cases gk with
  | zero => exact absurd HA.out (by simp [impl_Order_twoTwo.l0])
  | succ k1 =>
   have H:=HA.out;clear HA;simp only [impl_Order_twoTwo.l0] at H
   by_cases c4 : x9_1 < a0_0
   ·rw [if_pos c4] at H;have c4b0 : decide (x9_1 < a0_0) = true:=decide_eq_true c4;clear c4;have H':=A_ H;clear H;have hcz5_0 : wr.cell? ⟨gb277,0,none⟩ = some (.int .i64 a0_0):=blk_cell BK277.out 0;have hcz5_1 : wr.cell? ⟨gb277,1,none⟩ = some (.slice A0_1 l0_1.length c0_1):=blk_cell BK277.out 1;have hfz5_0:=blk_frozen BK277.out 0;have hfz5_1:=blk_frozen BK277.out 1;go_wp2
    go_loopg [14] k1 (fun kq v14 w'=>∃ (x14_2 : Int),v14 = .int .i64 x14_2 ∧ Aside0 (impl_Order_twoTwo.l1 kq x9_1 a0_0 x9_1 a0_0 x14_2 a0_0 l0_1 = some r) ∧ Aside0 (kq ≤ k1) ∧ Aside0 (w'.heap[gb277]? = some (.cells #[.int .i64 a0_0,(.slice A0_1 l0_1.length c0_1)] 28 (0,0))) ∧ Aside0 (Below w.heap.size w w'))
    case atStart=>exact ⟨(0),(by first|rfl|(simp;done)|(simp [*];done)),H',⟨Nat.le_refl _⟩,⟨bl_ BK277⟩,⟨bb_⟩⟩
    case round =>
     clear H';try clear c1
     try clear p2
     try clear c4
     try clear c4b0
     try clear hcz3_0
     try clear hcz3_1
     try clear hcz5_0
     try clear hcz5_1
     try clear hfz3_0
     try clear hfz3_1
     try clear hfz5_0
     try clear hfz5_1
     try clear p2
     obtain ⟨x14_2,rfl,HA,HK2,BK277,HB⟩:=hrel;cases gk with
     | zero=>exact absurd HA.out (by simp [impl_Order_twoTwo.l1])
     | succ k2 =>
      have H:=HA.out;clear HA;simp only [impl_Order_twoTwo.l1] at H
      by_cases c6 : x14_2 < a0_0
      ·rw [if_pos c6] at H;have c6b0 : decide (x14_2 < a0_0) = true:=decide_eq_true c6;clear c6;have H':=A_ H;clear H;have hcz7_0 : wr.cell? ⟨gb277,0,none⟩ = some (.int .i64 a0_0):=blk_cell BK277.out 0;have hcz7_1 : wr.cell? ⟨gb277,1,none⟩ = some (.slice A0_1 l0_1.length c0_1):=blk_cell BK277.out 1;have hfz7_0:=blk_frozen BK277.out 0;have hfz7_1:=blk_frozen BK277.out 1;go_wp2
       go_loopg [19] k2 (fun kq v19 w'=>∃ (x19_3 : Int),v19 = .int .i64 x19_3 ∧ Aside0 (impl_Order_twoTwo.l2 kq x9_1 x14_2 a0_0 x9_1 a0_0 x14_2 a0_0 x19_3 a0_0 l0_1 = some r) ∧ Aside0 (kq ≤ k2) ∧ Aside0 (w'.heap[gb277]? = some (.cells #[.int .i64 a0_0,(.slice A0_1 l0_1.length c0_1)] 28 (0,0))) ∧ Aside0 (Below w.heap.size w w'))
       case atStart=>exact ⟨(0),(by first|rfl|(simp;done)|(simp [*];done)),H',⟨Nat.le_refl _⟩,⟨bl_ BK277⟩,⟨bb_⟩⟩
       case round =>
        clear H';try clear c1
        try clear p2
        try clear c4
        try clear c4b0
        try clear c6
        try clear c6b0
        try clear hcz3_0
        try clear hcz3_1
        try clear hcz5_0
        try clear hcz5_1
        try clear hcz7_0
        try clear hcz7_1
        try clear hfz3_0
        try clear hfz3_1
        try clear hfz5_0
        try clear hfz5_1
        try clear hfz7_0
        try clear hfz7_1
        try clear p2
        obtain ⟨x19_3,rfl,HA,HK3,BK277,HB⟩:=hrel;cases gk with
        | zero=>exact absurd HA.out (by simp [impl_Order_twoTwo.l2])
        | succ k3 =>
         have H:=HA.out;clear HA;simp only [impl_Order_twoTwo.l2] at H
         by_cases c8 : x19_3 < a0_0
         ·rw [if_pos c8] at H;have c8b0 : decide (x19_3 < a0_0) = true:=decide_eq_true c8;clear c8;have H':=A_ H;clear H;have hcz9_0 : wr.cell? ⟨gb277,0,none⟩ = some (.int .i64 a0_0):=blk_cell BK277.out 0;have hcz9_1 : wr.cell? ⟨gb277,1,none⟩ = some (.slice A0_1 l0_1.length c0_1):=blk_cell BK277.out 1;have hfz9_0:=blk_frozen BK277.out 0;have hfz9_1:=blk_frozen BK277.out 1;go_wp2
          go_loopg [24] k3 (fun kq v24 w'=>∃ (x24_4 : Int),v24 = .int .i64 x24_4 ∧ Aside0 (impl_Order_twoTwo.l3 kq x9_1 x14_2 x19_3 a0_0 x9_1 a0_0 x14_2 a0_0 x19_3 a0_0 x24_4 a0_0 l0_1 = some r) ∧ Aside0 (kq ≤ k3) ∧ Aside0 (w'.heap[gb277]? = some (.cells #[.int .i64 a0_0,(.slice A0_1 l0_1.length c0_1)] 28 (0,0))) ∧ Aside0 (Below w.heap.size w w'))
          case atStart=>exact ⟨(0),(by first|rfl|(simp;done)|(simp [*];done)),H',⟨Nat.le_refl _⟩,⟨bl_ BK277⟩,⟨bb_⟩⟩
          case round =>
           clear H';try clear c1
           try clear p2
           try clear c4
           try clear c4b0
           try clear c6
           try clear c6b0
           try clear c8
           try clear c8b0
           try clear hcz3_0
           try clear hcz3_1
           try clear hcz5_0
           try clear hcz5_1
           try clear hcz7_0
           try clear hcz7_1
           try clear hcz9_0
           try clear hcz9_1
           try clear hfz3_0
           try clear hfz3_1
           try clear hfz5_0
           try clear hfz5_1
           try clear hfz7_0
           try clear hfz7_1
           try clear hfz9_0
           try clear hfz9_1
           try clear p2
           obtain ⟨x24_4,rfl,HA,HK4,BK277,HB⟩:=hrel;cases gk with
           | zero=>exact absurd HA.out (by simp [impl_Order_twoTwo.l3])
           | succ k4 =>
            have H:=HA.out;clear HA;simp only [impl_Order_twoTwo.l3] at H
            by_cases c10 : x24_4 < a0_0
            ·rw [if_pos c10] at H;have c10b0 : decide (x24_4 < a0_0) = true:=decide_eq_true c10;clear c10;replace H:=Option.bind_eq_some_iff.mp H;obtain ⟨t278,A110,H⟩:=H;replace H : (if t278 = true then ((impl_Order_better.f a0_0 l0_1 x19_3 x24_4).bind fun t279=>(if t279 = true then ((impl_Order_better.f a0_0 l0_1 x19_3 x14_2).bind fun t280=>(if t280 = true then (impl_Order_twoTwo.l3 k4 x9_1 x14_2 x19_3 a0_0 x9_1 a0_0 x14_2 a0_0 x19_3 a0_0 (wrap64 (x24_4 + 1)) a0_0 l0_1) else ((impl_Order_better.f a0_0 l0_1 x9_1 x24_4).bind fun t281=>(if t281 = true then (impl_Order_twoTwo.l3 k4 x9_1 x14_2 x19_3 a0_0 x9_1 a0_0 x14_2 a0_0 x19_3 a0_0 (wrap64 (x24_4 + 1)) a0_0 l0_1) else (some (([x9_1,x14_2,x19_3,x24_4] : List Int))))))) else (impl_Order_twoTwo.l3 k4 x9_1 x14_2 x19_3 a0_0 x9_1 a0_0 x14_2 a0_0 x19_3 a0_0 (wrap64 (x24_4 + 1)) a0_0 l0_1))) else (impl_Order_twoTwo.l3 k4 x9_1 x14_2 x19_3 a0_0 x9_1 a0_0 x14_2 a0_0 x19_3 a0_0 (wrap64 (x24_4 + 1)) a0_0 l0_1)) = some r:=H;have A11:=A_ A110;clear A110;by_cases c12 : t278 = true
             ·subst c12;have H1 : ((impl_Order_better.f a0_0 l0_1 x19_3 x24_4).bind fun t279=>(if t279 = true then ((impl_Order_better.f a0_0 l0_1 x19_3 x14_2).bind fun t280=>(if t280 = true then (impl_Order_twoTwo.l3 k4 x9_1 x14_2 x19_3 a0_0 x9_1 a0_0 x14_2 a0_0 x19_3 a0_0 (wrap64 (x24_4 + 1)) a0_0 l0_1) else ((impl_Order_better.f a0_0 l0_1 x9_1 x24_4).bind fun t281=>(if t281 = true then (impl_Order_twoTwo.l3 k4 x9_1 x14_2 x19_3 a0_0 x9_1 a0_0 x14_2 a0_0 x19_3 a0_0 (wrap64 (x24_4 + 1)) a0_0 l0_1) else (some (([x9_1,x14_2,x19_3,x24_4] : List Int))))))) else (impl_Order_twoTwo.l3 k4 x9_1 x14_2 x19_3 a0_0 x9_1 a0_0 x14_2 a0_0 x19_3 a0_0 (wrap64 (x24_4 + 1)) a0_0 l0_1))) = some r:=by rw [if_pos rfl] at H;exact H
              clear H;have H:=H1;clear H1;replace H:=Option.bind_eq_some_iff.mp H;obtain ⟨t279,A130,H⟩:=H;replace H : (if t279 = true then ((impl_Order_better.f a0_0 l0_1 x19_3 x14_2).bind fun t280=>(if t280 = true then (impl_Order_twoTwo.l3 k4 x9_1 x14_2 x19_3 a0_0 x9_1 a0_0 x14_2 a0_0 x19_3 a0_0 (wrap64 (x24_4 + 1)) a0_0 l0_1) else ((impl_Order_better.f a0_0 l0_1 x9_1 x24_4).bind fun t281=>(if t281 = true then (impl_Order_twoTwo.l3 k4 x9_1 x14_2 x19_3 a0_0 x9_1 a0_0 x14_2 a0_0 x19_3 a0_0 (wrap64 (x24_4 + 1)) a0_0 l0_1) else (some (([x9_1,x14_2,x19_3,x24_4] : List Int))))))) else (impl_Order_twoTwo.l3 k4 x9_1 x14_2 x19_3 a0_0 x9_1 a0_0 x14_2 a0_0 x19_3 a0_0 (wrap64 (x24_4 + 1)) a0_0 l0_1)) = some r:=H;have A13:=A_ A130;clear A130;by_cases c14 : t279 = true
              ·subst c14;have H1 : ((impl_Order_better.f a0_0 l0_1 x19_3 x14_2).bind fun t280=>(if t280 = true then (impl_Order_twoTwo.l3 k4 x9_1 x14_2 x19_3 a0_0 x9_1 a0_0 x14_2 a0_0 x19_3 a0_0 (wrap64 (x24_4 + 1)) a0_0 l0_1) else ((impl_Order_better.f a0_0 l0_1 x9_1 x24_4).bind fun t281=>(if t281 = true then (impl_Order_twoTwo.l3 k4 x9_1 x14_2 x19_3 a0_0 x9_1 a0_0 x14_2 a0_0 x19_3 a0_0 (wrap64 (x24_4 + 1)) a0_0 l0_1) else (some (([x9_1,x14_2,x19_3,x24_4] : List Int))))))) = some r:=by rw [if_pos rfl] at H;exact H
               clear H;have H:=H1;clear H1;replace H:=Option.bind_eq_some_iff.mp H;obtain ⟨t280,A150,H⟩:=H;replace H : (if t280 = true then (impl_Order_twoTwo.l3 k4 x9_1 x14_2 x19_3 a0_0 x9_1 a0_0 x14_2 a0_0 x19_3 a0_0 (wrap64 (x24_4 + 1)) a0_0 l0_1) else ((impl_Order_better.f a0_0 l0_1 x9_1 x24_4).bind fun t281=>(if t281 = true then (impl_Order_twoTwo.l3 k4 x9_1 x14_2 x19_3 a0_0 x9_1 a0_0 x14_2 a0_0 x19_3 a0_0 (wrap64 (x24_4 + 1)) a0_0 l0_1) else (some (([x9_1,x14_2,x19_3,x24_4] : List Int)))))) = some r:=H;have A15:=A_ A150;clear A150;by_cases c16 : t280 = true
               ·subst c16;have H1 : (impl_Order_twoTwo.l3 k4 x9_1 x14_2 x19_3 a0_0 x9_1 a0_0 x14_2 a0_0 x19_3 a0_0 (wrap64 (x24_4 + 1)) a0_0 l0_1) = some r:=by rw [if_pos rfl] at H;exact H
                clear H;have H:=H1;clear H1;have H':=A_ H;clear H;have hcz17_0 : wr.cell? ⟨gb277,0,none⟩ = some (.int .i64 a0_0):=blk_cell BK277.out 0;have hcz17_1 : wr.cell? ⟨gb277,1,none⟩ = some (.slice A0_1 l0_1.length c0_1):=blk_cell BK277.out 1;have hfz17_0:=blk_frozen BK277.out 0;have hfz17_1:=blk_frozen BK277.out 1;go_wp2_with (first|((with_reducible refine gate_callee (f:=146) rfl ?_);refine goesL_ (some 30) rfl rfl Tryd.func146 (by kernel_rfl) rfl #[.agg #[.int .i64 a0_0,.slice A0_1 l0_1.length c0_1],.int .i64 x9_1,.int .i64 x14_2] rfl au_ ?_;(with_reducible refine (impl_Order_better.calls a0_0 _ _ l0_1 x9_1 x14_2 true _ ?side1 ?side2 A11.out).mono ?_);(case side1=>exact cl_ (Kd.C_below HR0_1.out HB.out));(case side2=>exact HC0_1.out);rintro e w18 ⟨rfl,hb⟩;refine ⟨_,rfl,?_⟩;replace BK277:=bz BK277 hb;replace HB:=A_ (below_step bb_ hb);(try clear hb);(try clear hb2);(try clear hk);(try clear hi);have hcz19_0 : w18.cell? ⟨gb277,0,none⟩ = some (.int .i64 a0_0):=blk_cell BK277.out 0;have hcz19_1 : w18.cell? ⟨gb277,1,none⟩ = some (.slice A0_1 l0_1.length c0_1):=blk_cell BK277.out 1;have hfz19_0:=blk_frozen BK277.out 0;have hfz19_1:=blk_frozen BK277.out 1)|(go_at_call 146;(with_reducible refine (impl_Order_better.calls a0_0 _ _ l0_1 x19_3 x24_4 true _ ?side1 ?side2 A13.out).mono ?_);(case side1=>exact cl_ (Kd.C_below HR0_1.out HB.out));(case side2=>exact HC0_1.out);rintro e w20 ⟨rfl,hb⟩;replace BK277:=bz BK277 hb;replace HB:=A_ (below_step bb_ hb);(try clear hb);(try clear hb2);(try clear hk);(try clear hi);have hcz21_0 : w20.cell? ⟨gb277,0,none⟩ = some (.int .i64 a0_0):=blk_cell BK277.out 0;have hcz21_1 : w20.cell? ⟨gb277,1,none⟩ = some (.slice A0_1 l0_1.length c0_1):=blk_cell BK277.out 1;have hfz21_0:=blk_frozen BK277.out 0;have hfz21_1:=blk_frozen BK277.out 1)|(go_at_call 146;(with_reducible refine (impl_Order_better.calls a0_0 _ _ l0_1 x19_3 x14_2 true _ ?side1 ?side2 A15.out).mono ?_);(case side1=>exact cl_ (Kd.C_below HR0_1.out HB.out));(case side2=>exact HC0_1.out);rintro e w22 ⟨rfl,hb⟩;replace BK277:=bz BK277 hb;replace HB:=A_ (below_step bb_ hb);(try clear hb);(try clear hb2);(try clear hk);(try clear hi)))
                go_roundg k4
                case measure=>have:=HK1.out;have:=HK2.out;have:=HK3.out;have:=HK4.out;omega
                case rel=>exact ⟨(wrap64 (x24_4 + 1)),(by first|rfl|(simp;done)|(simp [*];done)),H',⟨by have:=HK1.out;have:=HK2.out;have:=HK3.out;have:=HK4.out;omega⟩,⟨bl_ BK277⟩,⟨bb_⟩⟩
               ·replace c16:=Bool.eq_false_iff.mpr c16;subst c16;have H1 : ((impl_Order_better.f a0_0 l0_1 x9_1 x24_4).bind fun t281=>(if t281 = true then (impl_Order_twoTwo.l3 k4 x9_1 x14_2 x19_3 a0_0 x9_1 a0_0 x14_2 a0_0 x19_3 a0_0 (wrap64 (x24_4 + 1)) a0_0 l0_1) else (some (([x9_1,x14_2,x19_3,x24_4] : List Int))))) = some r:=by rw [if_neg (show ¬ (false = true) by decide)] at H;exact H
                clear H;have H:=H1;clear H1;replace H:=Option.bind_eq_some_iff.mp H;obtain ⟨t281,A230,H⟩:=H;replace H : (if t281 = true then (impl_Order_twoTwo.l3 k4 x9_1 x14_2 x19_3 a0_0 x9_1 a0_0 x14_2 a0_0 x19_3 a0_0 (wrap64 (x24_4 + 1)) a0_0 l0_1) else (some (([x9_1,x14_2,x19_3,x24_4] : List Int)))) = some r:=H;have A23:=A_ A230;clear A230;by_cases c24 : t281 = true
                ·subst c24;have H1 : (impl_Order_twoTwo.l3 k4 x9_1 x14_2 x19_3 a0_0 x9_1 a0_0 x14_2 a0_0 x19_3 a0_0 (wrap64 (x24_4 + 1)) a0_0 l0_1) = some r:=by rw [if_pos rfl] at H;exact H
                 clear H;have H:=H1;clear H1;have H':=A_ H;clear H;have hcz25_0 : wr.cell? ⟨gb277,0,none⟩ = some (.int .i64 a0_0):=blk_cell BK277.out 0;have hcz25_1 : wr.cell? ⟨gb277,1,none⟩ = some (.slice A0_1 l0_1.length c0_1):=blk_cell BK277.out 1;have hfz25_0:=blk_frozen BK277.out 0;have hfz25_1:=blk_frozen BK277.out 1;go_wp2_with (first|((with_reducible refine gate_callee (f:=146) rfl ?_);refine goesL_ (some 30) rfl rfl Tryd.func146 (by kernel_rfl) rfl #[.agg #[.int .i64 a0_0,.slice A0_1 l0_1.length c0_1],.int .i64 x9_1,.int .i64 x14_2] rfl au_ ?_;(with_reducible refine (impl_Order_better.calls a0_0 _ _ l0_1 x9_1 x14_2 true _ ?side1 ?side2 A11.out).mono ?_);(case side1=>exact cl_ (Kd.C_below HR0_1.out HB.out));(case side2=>exact HC0_1.out);rintro e w26 ⟨rfl,hb⟩;refine ⟨_,rfl,?_⟩;replace BK277:=bz BK277 hb;replace HB:=A_ (below_step bb_ hb);(try clear hb);(try clear hb2);(try clear hk);(try clear hi);have hcz27_0 : w26.cell? ⟨gb277,0,none⟩ = some (.int .i64 a0_0):=blk_cell BK277.out 0;have hcz27_1 : w26.cell? ⟨gb277,1,none⟩ = some (.slice A0_1 l0_1.length c0_1):=blk_cell BK277.out 1;have hfz27_0:=blk_frozen BK277.out 0;have hfz27_1:=blk_frozen BK277.out 1)|(go_at_call 146;(with_reducible refine (impl_Order_better.calls a0_0 _ _ l0_1 x19_3 x24_4 true _ ?side1 ?side2 A13.out).mono ?_);(case side1=>exact cl_ (Kd.C_below HR0_1.out HB.out));(case side2=>exact HC0_1.out);rintro e w28 ⟨rfl,hb⟩;replace BK277:=bz BK277 hb;replace HB:=A_ (below_step bb_ hb);(try clear hb);(try clear hb2);(try clear hk);(try clear hi);have hcz29_0 : w28.cell? ⟨gb277,0,none⟩ = some (.int .i64 a0_0):=blk_cell BK277.out 0;have hcz29_1 : w28.cell? ⟨gb277,1,none⟩ = some (.slice A0_1 l0_1.length c0_1):=blk_cell BK277.out 1;have hfz29_0:=blk_frozen BK277.out 0;have hfz29_1:=blk_frozen BK277.out 1)|(go_at_call 146;(with_reducible refine (impl_Order_better.calls a0_0 _ _ l0_1 x19_3 x14_2 false _ ?side1 ?side2 A15.out).mono ?_);(case side1=>exact cl_ (Kd.C_below HR0_1.out HB.out));(case side2=>exact HC0_1.out);rintro e w30 ⟨rfl,hb⟩;replace BK277:=bz BK277 hb;replace HB:=A_ (below_step bb_ hb);(try clear hb);(try clear hb2);(try clear hk);(try clear hi);have hcz31_0 : w30.cell? ⟨gb277,0,none⟩ = some (.int .i64 a0_0):=blk_cell BK277.out 0;have hcz31_1 : w30.cell? ⟨gb277,1,none⟩ = some (.slice A0_1 l0_1.length c0_1):=blk_cell BK277.out 1;have hfz31_0:=blk_frozen BK277.out 0;have hfz31_1:=blk_frozen BK277.out 1)|(go_at_call 146;(with_reducible refine (impl_Order_better.calls a0_0 _ _ l0_1 x9_1 x24_4 true _ ?side1 ?side2 A23.out).mono ?_);(case side1=>exact cl_ (Kd.C_below HR0_1.out HB.out));(case side2=>exact HC0_1.out);rintro e w32 ⟨rfl,hb⟩;replace BK277:=bz BK277 hb;replace HB:=A_ (below_step bb_ hb);(try clear hb);(try clear hb2);(try clear hk);(try clear hi)))
                 go_roundg k4
                 case measure=>have:=HK1.out;have:=HK2.out;have:=HK3.out;have:=HK4.out;omega
                 case rel=>exact ⟨(wrap64 (x24_4 + 1)),(by first|rfl|(simp;done)|(simp [*];done)),H',⟨by have:=HK1.out;have:=HK2.out;have:=HK3.out;have:=HK4.out;omega⟩,⟨bl_ BK277⟩,⟨bb_⟩⟩
                ·replace c24:=Bool.eq_false_iff.mpr c24;subst c24;have H1 : (some (([x9_1,x14_2,x19_3,x24_4] : List Int))) = some r:=by rw [if_neg (show ¬ (false = true) by decide)] at H;exact H
                 clear H;have H:=H1;clear H1;obtain ⟨y282,hy282⟩ : ∃ y_ : List Int,y_ = (([x9_1,x14_2,x19_3,x24_4] : List Int)):=⟨_,rfl⟩;replace H : (some y282) = some r:=by first|(rw [hy282];with_reducible exact H)|(have H2_:=(Option.bind_some _ _).symm.trans H;rw [hy282];with_reducible exact H2_)|(have H2_:=(Option.bind_some _ _).symm.trans H;with_reducible exact H2_)|with_reducible exact H|(rw [hy282];exact H)|exact H
                 have Ny282:=A_ hy282;clear hy282;obtain rfl:=Option.some.inj H;have hcz33_0 : wr.cell? ⟨gb277,0,none⟩ = some (.int .i64 a0_0):=blk_cell BK277.out 0;have hcz33_1 : wr.cell? ⟨gb277,1,none⟩ = some (.slice A0_1 l0_1.length c0_1):=blk_cell BK277.out 1;have hfz33_0:=blk_frozen BK277.out 0;have hfz33_1:=blk_frozen BK277.out 1;go_wp2_with (first|((with_reducible refine gate_callee (f:=146) rfl ?_);refine goesL_ (some 30) rfl rfl Tryd.func146 (by kernel_rfl) rfl #[.agg #[.int .i64 a0_0,.slice A0_1 l0_1.length c0_1],.int .i64 x9_1,.int .i64 x14_2] rfl au_ ?_;(with_reducible refine (impl_Order_better.calls a0_0 _ _ l0_1 x9_1 x14_2 true _ ?side1 ?side2 A11.out).mono ?_);(case side1=>exact cl_ (Kd.C_below HR0_1.out HB.out));(case side2=>exact HC0_1.out);rintro e w34 ⟨rfl,hb⟩;refine ⟨_,rfl,?_⟩;replace BK277:=bz BK277 hb;replace HB:=A_ (below_step bb_ hb);(try clear hb);(try clear hb2);(try clear hk);(try clear hi);have hcz35_0 : w34.cell? ⟨gb277,0,none⟩ = some (.int .i64 a0_0):=blk_cell BK277.out 0;have hcz35_1 : w34.cell? ⟨gb277,1,none⟩ = some (.slice A0_1 l0_1.length c0_1):=blk_cell BK277.out 1;have hfz35_0:=blk_frozen BK277.out 0;have hfz35_1:=blk_frozen BK277.out 1)|(go_at_call 146;(with_reducible refine (impl_Order_better.calls a0_0 _ _ l0_1 x19_3 x24_4 true _ ?side1 ?side2 A13.out).mono ?_);(case side1=>exact cl_ (Kd.C_below HR0_1.out HB.out));(case side2=>exact HC0_1.out);rintro e w36 ⟨rfl,hb⟩;replace BK277:=bz BK277 hb;replace HB:=A_ (below_step bb_ hb);(try clear hb);(try clear hb2);(try clear hk);(try clear hi);have hcz37_0 : w36.cell? ⟨gb277,0,none⟩ = some (.int .i64 a0_0):=blk_cell BK277.out 0;have hcz37_1 : w36.cell? ⟨gb277,1,none⟩ = some (.slice A0_1 l0_1.length c0_1):=blk_cell BK277.out 1;have hfz37_0:=blk_frozen BK277.out 0;have hfz37_1:=blk_frozen BK277.out 1)|(go_at_call 146;(with_reducible refine (impl_Order_better.calls a0_0 _ _ l0_1 x19_3 x14_2 false _ ?side1 ?side2 A15.out).mono ?_);(case side1=>exact cl_ (Kd.C_below HR0_1.out HB.out));(case side2=>exact HC0_1.out);rintro e w38 ⟨rfl,hb⟩;replace BK277:=bz BK277 hb;replace HB:=A_ (below_step bb_ hb);(try clear hb);(try clear hb2);(try clear hk);(try clear hi);have hcz39_0 : w38.cell? ⟨gb277,0,none⟩ = some (.int .i64 a0_0):=blk_cell BK277.out 0;have hcz39_1 : w38.cell? ⟨gb277,1,none⟩ = some (.slice A0_1 l0_1.length c0_1):=blk_cell BK277.out 1;have hfz39_0:=blk_frozen BK277.out 0;have hfz39_1:=blk_frozen BK277.out 1)|(go_at_call 146;(with_reducible refine (impl_Order_better.calls a0_0 _ _ l0_1 x9_1 x24_4 false _ ?side1 ?side2 A23.out).mono ?_);(case side1=>exact cl_ (Kd.C_below HR0_1.out HB.out));(case side2=>exact HC0_1.out);rintro e w40 ⟨rfl,hb⟩;replace BK277:=bz BK277 hb;replace HB:=A_ (below_step bb_ hb);(try clear hb);(try clear hb2);(try clear hk);(try clear hi))|((with_reducible refine gate_dst (N:=55) rfl ?_);refine Kd.R_lit (Kd.int .i64) _ 3 ?hg (N:=55) ?hd (xs:=([x9_1,x14_2,x19_3,x24_4] : List Int)) (inner:=[.int .i64 x9_1,.int .i64 x14_2,.int .i64 x19_3,.int .i64 x24_4]) (ok:=fun _=>True) (okp:=fun _=>True) ?hr ?hp (fun _ hk=>hk) trivial (Below.refl _ _) (Nat.le_refl _) (by simp) ?_;(case hd=>rfl);(case hg=>rfl);(case hr=>first|(go_simp;done)|(go_simp;rfl));(case hp=>exact (Reps.one (show Kd.M (Kd.int .i64) _ _ _ x9_1 [.int .i64 x9_1] from rfl) (Reps.one (show Kd.M (Kd.int .i64) _ _ _ x14_2 [.int .i64 x14_2] from rfl) (Reps.one (show Kd.M (Kd.int .i64) _ _ _ x19_3 [.int .i64 x19_3] from rfl) (Reps.one (show Kd.M (Kd.int .i64) _ _ _ x24_4 [.int .i64 x24_4] from rfl) (Reps.none _ _))))));intro v283 w41 ho42 hb hg_ hnew_;clear hg_ hnew_;(first|rw [← Ny282.out] at ho42|(simp only [Int.reduceToNat] at ho42;rw [← Ny282.out] at ho42));have HO284:=A_ (Kd.R_lower ho42 (below_size bb_));replace BK277:=bz BK277 hb;replace HB:=A_ (below_step bb_ hb);clear hb ho42))
                 go_ret
                 exact ⟨_,by first|rfl|(simp [errW_none,errW_some] <;> rfl)|(simp [*,errW_none,errW_some] <;> rfl),by (with_reducible repeat (first|apply Kd.R_alloc|apply Kd.R_drewN|apply Kd.R_drew));exact HO284.out,bb_,by first|trivial|rfl|(intro he_;first|rfl|(rw [Ny282.out] at he_;cases he_)|(cases he_))⟩
              ·replace c14:=Bool.eq_false_iff.mpr c14;subst c14;have H1 : (impl_Order_twoTwo.l3 k4 x9_1 x14_2 x19_3 a0_0 x9_1 a0_0 x14_2 a0_0 x19_3 a0_0 (wrap64 (x24_4 + 1)) a0_0 l0_1) = some r:=by rw [if_neg (show ¬ (false = true) by decide)] at H;exact H
               clear H;have H:=H1;clear H1;have H':=A_ H;clear H;have hcz43_0 : wr.cell? ⟨gb277,0,none⟩ = some (.int .i64 a0_0):=blk_cell BK277.out 0;have hcz43_1 : wr.cell? ⟨gb277,1,none⟩ = some (.slice A0_1 l0_1.length c0_1):=blk_cell BK277.out 1;have hfz43_0:=blk_frozen BK277.out 0;have hfz43_1:=blk_frozen BK277.out 1;go_wp2_with (first|((with_reducible refine gate_callee (f:=146) rfl ?_);refine goesL_ (some 30) rfl rfl Tryd.func146 (by kernel_rfl) rfl #[.agg #[.int .i64 a0_0,.slice A0_1 l0_1.length c0_1],.int .i64 x9_1,.int .i64 x14_2] rfl au_ ?_;(with_reducible refine (impl_Order_better.calls a0_0 _ _ l0_1 x9_1 x14_2 true _ ?side1 ?side2 A11.out).mono ?_);(case side1=>exact cl_ (Kd.C_below HR0_1.out HB.out));(case side2=>exact HC0_1.out);rintro e w44 ⟨rfl,hb⟩;refine ⟨_,rfl,?_⟩;replace BK277:=bz BK277 hb;replace HB:=A_ (below_step bb_ hb);(try clear hb);(try clear hb2);(try clear hk);(try clear hi);have hcz45_0 : w44.cell? ⟨gb277,0,none⟩ = some (.int .i64 a0_0):=blk_cell BK277.out 0;have hcz45_1 : w44.cell? ⟨gb277,1,none⟩ = some (.slice A0_1 l0_1.length c0_1):=blk_cell BK277.out 1;have hfz45_0:=blk_frozen BK277.out 0;have hfz45_1:=blk_frozen BK277.out 1)|(go_at_call 146;(with_reducible refine (impl_Order_better.calls a0_0 _ _ l0_1 x19_3 x24_4 false _ ?side1 ?side2 A13.out).mono ?_);(case side1=>exact cl_ (Kd.C_below HR0_1.out HB.out));(case side2=>exact HC0_1.out);rintro e w46 ⟨rfl,hb⟩;replace BK277:=bz BK277 hb;replace HB:=A_ (below_step bb_ hb);(try clear hb);(try clear hb2);(try clear hk);(try clear hi)))
               go_roundg k4
               case measure=>have:=HK1.out;have:=HK2.out;have:=HK3.out;have:=HK4.out;omega
               case rel=>exact ⟨(wrap64 (x24_4 + 1)),(by first|rfl|(simp;done)|(simp [*];done)),H',⟨by have:=HK1.out;have:=HK2.out;have:=HK3.out;have:=HK4.out;omega⟩,⟨bl_ BK277⟩,⟨bb_⟩⟩
             ·replace c12:=Bool.eq_false_iff.mpr c12;subst c12;have H1 : (impl_Order_twoTwo.l3 k4 x9_1 x14_2 x19_3 a0_0 x9_1 a0_0 x14_2 a0_0 x19_3 a0_0 (wrap64 (x24_4 + 1)) a0_0 l0_1) = some r:=by rw [if_neg (show ¬ (false = true) by decide)] at H;exact H
              clear H;have H:=H1;clear H1;have H':=A_ H;clear H;have hcz47_0 : wr.cell? ⟨gb277,0,none⟩ = some (.int .i64 a0_0):=blk_cell BK277.out 0;have hcz47_1 : wr.cell? ⟨gb277,1,none⟩ = some (.slice A0_1 l0_1.length c0_1):=blk_cell BK277.out 1;have hfz47_0:=blk_frozen BK277.out 0;have hfz47_1:=blk_frozen BK277.out 1;go_wp2_with (first|((with_reducible refine gate_callee (f:=146) rfl ?_);refine goesL_ (some 30) rfl rfl Tryd.func146 (by kernel_rfl) rfl #[.agg #[.int .i64 a0_0,.slice A0_1 l0_1.length c0_1],.int .i64 x9_1,.int .i64 x14_2] rfl au_ ?_;(with_reducible refine (impl_Order_better.calls a0_0 _ _ l0_1 x9_1 x14_2 false _ ?side1 ?side2 A11.out).mono ?_);(case side1=>exact cl_ (Kd.C_below HR0_1.out HB.out));(case side2=>exact HC0_1.out);rintro e w48 ⟨rfl,hb⟩;refine ⟨_,rfl,?_⟩;replace BK277:=bz BK277 hb;replace HB:=A_ (below_step bb_ hb);(try clear hb);(try clear hb2);(try clear hk);(try clear hi)))
              go_roundg k4
              case measure=>have:=HK1.out;have:=HK2.out;have:=HK3.out;have:=HK4.out;omega
              case rel=>exact ⟨(wrap64 (x24_4 + 1)),(by first|rfl|(simp;done)|(simp [*];done)),H',⟨by have:=HK1.out;have:=HK2.out;have:=HK3.out;have:=HK4.out;omega⟩,⟨bl_ BK277⟩,⟨bb_⟩⟩
            ·rw [if_neg c10] at H;have c10b0 : decide (x24_4 < a0_0) = false:=decide_eq_false c10;clear c10;have H':=A_ H;clear H;go_wp2
             go_roundg k4
             case measure=>have:=HK1.out;have:=HK2.out;have:=HK3.out;have:=HK4.out;omega
             case rel=>exact ⟨(wrap64 (x19_3 + 1)),(by first|rfl|(simp;done)|(simp [*];done)),H',⟨by have:=HK1.out;have:=HK2.out;have:=HK3.out;have:=HK4.out;omega⟩,⟨bl_ BK277⟩,⟨bb_⟩⟩
         ·rw [if_neg c8] at H;have c8b0 : decide (x19_3 < a0_0) = false:=decide_eq_false c8;clear c8;have H':=A_ H;clear H;go_wp2
          go_roundg k3
          case measure=>have:=HK1.out;have:=HK2.out;have:=HK3.out;omega
          case rel=>exact ⟨(wrap64 (x14_2 + 1)),(by first|rfl|(simp;done)|(simp [*];done)),H',⟨by have:=HK1.out;have:=HK2.out;have:=HK3.out;omega⟩,⟨bl_ BK277⟩,⟨bb_⟩⟩
      ·rw [if_neg c6] at H;have c6b0 : decide (x14_2 < a0_0) = false:=decide_eq_false c6;clear c6;have H':=A_ H;clear H;go_wp2
       go_roundg k2
       case measure=>have:=HK1.out;have:=HK2.out;omega
       case rel=>exact ⟨(wrap64 (x9_1 + 1)),(by first|rfl|(simp;done)|(simp [*];done)),H',⟨by have:=HK1.out;have:=HK2.out;omega⟩,⟨bl_ BK277⟩,⟨bb_⟩⟩
   ·rw [if_neg c4] at H;have c4b0 : decide (x9_1 < a0_0) = false:=decide_eq_false c4;clear c4;obtain rfl:=Option.some.inj H;go_wp2
    go_ret
    exact ⟨_,by first|rfl|(simp [errW_none,errW_some] <;> rfl)|(simp [*,errW_none,errW_some] <;> rfl),by first|exact Kd.R_nil _ _ _ _ _|exact Kd.N_nil _ _ _ _ _|exact Kd.V_nil _ _ _ _ _|exact Kd.Q_nil _ _ _ _ _|exact Kd.S_nil _ _ _ _ _,bb_,by first|trivial|rfl|(intro he_;first|rfl|(rw [Ny282.out] at he_;cases he_)|(cases he_))⟩
theorem impl_isInterval.nilAt {P : Program} (w : World) (d : Nat) (t e : TypeId) (a : Option Addr) (l c : Nat) (h : P.underlying t = some (.slice e)) : (Op.equalIn (d + 1) t (.slice a l c) (.slice none 0 0)).run P w = .ok a.isNone w:=by
 cases a <;> simp [Op.equalIn,run_underlying h]
theorem impl_isInterval.nilOf {P : Program} (w : World) (t e : TypeId) (a : Option Addr) (l c : Nat) (h : P.underlying t = some (.slice e)) : (binOp .eql t (.slice a l c) (.slice none 0 0)).run P w = .ok (.bool a.isNone) w:=by
 have h1 : (Op.equal t (.slice a l c) (.slice none 0 0)).run P w = .ok a.isNone w:=impl_isInterval.nilAt w 9999 t e a l c h;simp [binOp,h1]
theorem impl_isInterval.nilNo {P : Program} (w : World) (t e : TypeId) (a : Option Addr) (l c : Nat) (h : P.underlying t = some (.slice e)) : (binOp .neq t (.slice a l c) (.slice none 0 0)).run P w = .ok (.bool (!a.isNone)) w:=by
 have h1 : (Op.equal t (.slice a l c) (.slice none 0 0)).run P w = .ok a.isNone w:=impl_isInterval.nilAt w 9999 t e a l c h;simp [binOp,h1]
theorem impl_isInterval.nilE (w : World) (a : Option Addr) (l c : Nat) : (binOp .eql 22 (.slice a l c) (.slice none 0 0)).run Tryd.prog w = .ok (.bool a.isNone) w:=impl_isInterval.nilOf w _ _ a l c Tryd.underlying22
theorem impl_isInterval.nilN (w : World) (a : Option Addr) (l c : Nat) : (binOp .neq 22 (.slice a l c) (.slice none 0 0)).run Tryd.prog w = .ok (.bool (!a.isNone)) w:=impl_isInterval.nilNo w _ _ a l c Tryd.underlying22
theorem impl_isInterval.nilFact {w : World} {base e : Nat} {ok : Nat → Prop} {A : Option Addr} {n c : Nat} {xs : List Int} (h : Kd.R (Kd.int .i64) e w base ok (.slice A n c) xs) (hz : xs = [] → (.slice A n c : Value) = .slice none 0 0) : A.isNone = (xs == ([] : List Int)):=by
 by_cases hx : xs = []
 ·have:=hz hx;injection this with h1;rw [h1,hx];rfl
 ·obtain ⟨hn,_,hC⟩:=Kd.R_reads' h;have hpos : 0 < xs.length:=List.length_pos_iff.2 hx;obtain ⟨ad,e1,_⟩:=hC.2.2 hpos;rw [e1];cases xs with
  | nil => exact absurd rfl hx
  | cons x l => rfl
attribute [local go_sem] impl_isInterval.nilE impl_isInterval.nilN
def impl_isInterval.f (k : Nat) (a0_0 : Int) (l0_1 : List Int) : Option (Bool) := (impl_IsOrder.f k a0_0 l0_1).bind fun t286 => (if t286 = true then ((impl_Order_twoTwo.f k a0_0 l0_1).bind fun t287 => (some (t287 == ([] : List Int)))) else (some false))
set_option maxHeartbeats 8000000 in
set_option maxRecDepth 100000 in
theorem impl_isInterval.calls (k : Nat) (a0_0 : Int) (A0_1 : Option Addr) (c0_1 : Nat) (l0_1 : List Int) (r : Bool) (w : World) (hr0_1 : Kd.C (Kd.int .i64) w A0_1 l0_1.length l0_1) (hc0_1 : l0_1.length ≤ c0_1) (hT : TabOK w) (h : impl_isInterval.f k a0_0 l0_1 = some r) :
 Calls Tryd.prog 134 #[.agg #[.int .i64 a0_0,.slice A0_1 l0_1.length c0_1]] w fun e w'=>e = .returned (.bool r) ∧ Below w.heap.size w w':=by
 have hu28:=Tryd.underlying28;have HT:=A_ hT;clear hT;have HR0_1:=A_ hr0_1;have HC0_1:=A_ hc0_1;clear hr0_1 hc0_1;have HB:=A_ (Below.refl w.heap.size w);have H : ((impl_IsOrder.f k a0_0 l0_1).bind fun t286=>(if t286 = true then ((impl_Order_twoTwo.f k a0_0 l0_1).bind fun t287=>(some (t287 == ([] : List Int)))) else (some false))) = some r:=h;clear h;replace H:=Option.bind_eq_some_iff.mp H;obtain ⟨t286,A20,H⟩:=H;replace H : (if t286 = true then ((impl_Order_twoTwo.f k a0_0 l0_1).bind fun t287=>(some (t287 == ([] : List Int)))) else (some false)) = some r:=H;have A2:=A_ A20;clear A20;by_cases c3 : t286 = true
 ·subst c3;have H1 : ((impl_Order_twoTwo.f k a0_0 l0_1).bind fun t287=>(some (t287 == ([] : List Int)))) = some r:=by rw [if_pos rfl] at H;exact H
  clear H;have H:=H1;clear H1;replace H:=Option.bind_eq_some_iff.mp H;obtain ⟨t287,A40,H⟩:=H;replace H : (some (t287 == ([] : List Int))) = some r:=H;have A4:=A_ A40;clear A40;obtain rfl:=Option.some.inj H;go_enter Tryd.func134,Tryd.ntmps134
  go_wp2_with (first|((with_reducible refine gate_dst (N:=1) rfl ?_);refine box_event ?hg (N:=1) ?hd (cs:=#[.int .i64 a0_0,.slice A0_1 l0_1.length c0_1]) (t:=28) ?hr ?_;(case hd=>rfl);(case hg=>rfl);(case hr=>first|(go_simp;done)|(go_simp;rfl));intro gb285 hg w5 hbox hb;have BK285:=A_ (hbox);have GW285:=A_ ((by rw [hg];exact (below_size bb_) : w.heap.size ≤ gb285));have GE285:=A_ ((by rw [hg];exact (below_size bb_) : w.heap.size ≤ gb285));replace HB:=A_ (below_step bb_ hb);clear hb hbox hg;have hcz6_0 : w5.cell? ⟨gb285,0,none⟩ = some (.int .i64 a0_0):=blk_cell BK285.out 0;have hcz6_1 : w5.cell? ⟨gb285,1,none⟩ = some (.slice A0_1 l0_1.length c0_1):=blk_cell BK285.out 1;have hfz6_0:=blk_frozen BK285.out 0;have hfz6_1:=blk_frozen BK285.out 1)|((with_reducible refine gate_callee (f:=61) rfl ?_);refine goesL_ (some 4) rfl rfl Tryd.func61 (by kernel_rfl) rfl #[.agg #[.int .i64 a0_0,.slice A0_1 l0_1.length c0_1]] rfl au_ ?_;(with_reducible refine (impl_IsOrder.calls k a0_0 _ _ l0_1 true _ ?side1 ?side2 ?side3 A2.out).mono ?_);(case side1=>exact cl_ (Kd.C_below HR0_1.out HB.out));(case side2=>exact HC0_1.out);(case side3=>first|exact HT.out|exact HT.out.below bb_|(repeat (first|exact HT.out|apply TabOK.drewN|apply TabOK.drew|apply TabOK.alloc)));rintro e w7 ⟨rfl,hb⟩;refine ⟨_,rfl,?_⟩;replace BK285:=bz BK285 hb;replace HB:=A_ (below_step bb_ hb);(try clear hb);(try clear hb2);(try clear hk);(try clear hi);have hcz8_0 : w7.cell? ⟨gb285,0,none⟩ = some (.int .i64 a0_0):=blk_cell BK285.out 0;have hcz8_1 : w7.cell? ⟨gb285,1,none⟩ = some (.slice A0_1 l0_1.length c0_1):=blk_cell BK285.out 1;have hfz8_0:=blk_frozen BK285.out 0;have hfz8_1:=blk_frozen BK285.out 1)|(go_at_call 141;(with_reducible refine (impl_Order_twoTwo.calls k a0_0 _ _ l0_1 t287 _ ?side1 ?side2 A4.out).mono ?_);(case side1=>exact cl_ (Kd.C_below HR0_1.out HB.out));(case side2=>exact HC0_1.out);rintro e w9 ⟨v288,rfl,ho0,hb,hz_⟩;have HO289:=A_ (Kd.R_lower ho0 (below_size bb_));replace BK285:=bz BK285 hb;replace HB:=A_ (below_step bb_ hb);(try clear hb);(try clear hb2);(try clear hk);(try clear hi);(try clear ho0);obtain ⟨Ao10,co10,eo10⟩:=Kd.R_slice HO289.out;subst eo10;(try have hnl10:=impl_isInterval.nilFact HO289.out hz_);(try clear hz_)))
  go_ret
  exact ⟨by first|rfl|(rw [hnl10] <;> rfl)|(simp [*,errW_none,errW_some] <;> exact ⟨rfl,impl_isInterval.nilB _⟩)|(simp [errW_none,errW_some] <;> rfl)|(simp [*,errW_none,errW_some] <;> rfl),bb_⟩
 ·replace c3:=Bool.eq_false_iff.mpr c3;subst c3;have H1 : (some false) = some r:=by rw [if_neg (show ¬ (false = true) by decide)] at H;exact H
  clear H;have H:=H1;clear H1;obtain rfl:=Option.some.inj H;go_enter Tryd.func134,Tryd.ntmps134
  go_wp2_with (first|((with_reducible refine gate_dst (N:=1) rfl ?_);refine box_event ?hg (N:=1) ?hd (cs:=#[.int .i64 a0_0,.slice A0_1 l0_1.length c0_1]) (t:=28) ?hr ?_;(case hd=>rfl);(case hg=>rfl);(case hr=>first|(go_simp;done)|(go_simp;rfl));intro gb285 hg w11 hbox hb;have BK285:=A_ (hbox);have GW285:=A_ ((by rw [hg];exact (below_size bb_) : w.heap.size ≤ gb285));have GE285:=A_ ((by rw [hg];exact (below_size bb_) : w.heap.size ≤ gb285));replace HB:=A_ (below_step bb_ hb);clear hb hbox hg;have hcz12_0 : w11.cell? ⟨gb285,0,none⟩ = some (.int .i64 a0_0):=blk_cell BK285.out 0;have hcz12_1 : w11.cell? ⟨gb285,1,none⟩ = some (.slice A0_1 l0_1.length c0_1):=blk_cell BK285.out 1;have hfz12_0:=blk_frozen BK285.out 0;have hfz12_1:=blk_frozen BK285.out 1)|((with_reducible refine gate_callee (f:=61) rfl ?_);refine goesL_ (some 4) rfl rfl Tryd.func61 (by kernel_rfl) rfl #[.agg #[.int .i64 a0_0,.slice A0_1 l0_1.length c0_1]] rfl au_ ?_;(with_reducible refine (impl_IsOrder.calls k a0_0 _ _ l0_1 false _ ?side1 ?side2 ?side3 A2.out).mono ?_);(case side1=>exact cl_ (Kd.C_below HR0_1.out HB.out));(case side2=>exact HC0_1.out);(case side3=>first|exact HT.out|exact HT.out.below bb_|(repeat (first|exact HT.out|apply TabOK.drewN|apply TabOK.drew|apply TabOK.alloc)));rintro e w13 ⟨rfl,hb⟩;refine ⟨_,rfl,?_⟩;replace BK285:=bz BK285 hb;replace HB:=A_ (below_step bb_ hb);(try clear hb);(try clear hb2);(try clear hk);(try clear hi)))
  go_ret
  exact ⟨by first|rfl|(rw [hnl10] <;> rfl)|(simp [*,errW_none,errW_some] <;> exact ⟨rfl,impl_isInterval.nilB _⟩)|(simp [errW_none,errW_some] <;> rfl)|(simp [*,errW_none,errW_some] <;> rfl),bb_⟩
def impl_Order_all.f (a0_0 : Int) (l0_1 : List Int) : Option (Int) := if 0 ≤ a0_0 then (some (wrap64 ((shl .i64 1 a0_0) - 1))) else (none)
set_option maxHeartbeats 8000000 in
set_option maxRecDepth 100000 in
theorem impl_Order_all.calls (a0_0 : Int) (A0_1 : Option Addr) (c0_1 : Nat) (l0_1 : List Int) (r : Int) (w : World) (hr0_1 : Kd.C (Kd.int .i64) w A0_1 l0_1.length l0_1) (hc0_1 : l0_1.length ≤ c0_1) (h : impl_Order_all.f a0_0 l0_1 = some r) :
 Calls Tryd.prog 160 #[.agg #[.int .i64 a0_0,.slice A0_1 l0_1.length c0_1]] w fun e w'=>e = .returned (.int .i64 r) ∧ Below w.heap.size w w':=by
 have hu28:=Tryd.underlying28;have HR0_1:=A_ hr0_1;have HC0_1:=A_ hc0_1;clear hr0_1 hc0_1;have HB:=A_ (Below.refl w.heap.size w);have H : (if 0 ≤ a0_0 then (some (wrap64 ((shl .i64 1 a0_0) - 1))) else (none)) = some r:=h;clear h;by_cases c2 : 0 ≤ a0_0
 ·rw [if_pos c2] at H;have c2b0:=eq_true c2;have c2b1 : decide (0 ≤ a0_0) = true:=decide_eq_true c2;clear c2;obtain ⟨ji3,hji3⟩ : ∃ j_ : Int,(shl .i64 1 a0_0) = j_:=⟨_,rfl⟩;replace H : (some (wrap64 ((ji3) - 1))) = some r:=by first|(rw [hji3] at H;exact H)|(simp only [hji3] at H ⊢;exact H)
  have hji3_ : (IntKind.i64.wrap (1 * 2 ^ min a0_0.toNat 64)) = ji3:=hji3;have hji3z : a0_0 ≤ 64 → (IntKind.i64.wrap (1 * 2 ^ a0_0.toNat)) = ji3:=shl_small hji3;have hji3u : (IntKind.i64.wrap (2 ^ min a0_0.toNat 64)) = ji3:=by have h_:=hji3_;rw [Int.one_mul] at h_;exact h_
  have hji3v : a0_0 ≤ 64 → (IntKind.i64.wrap (2 ^ a0_0.toNat)) = ji3:=fun hle_=>by have h_:=hji3z hle_;rw [Int.one_mul] at h_;exact h_
  have hji3y : (wrap64 (1 * 2 ^ min a0_0.toNat 64)) = ji3:=(i64_w _).symm.trans hji3_;have hji3x : a0_0 ≤ 64 → (wrap64 (1 * 2 ^ a0_0.toNat)) = ji3:=fun h_=>(i64_w _).symm.trans (hji3z h_)
  obtain rfl:=Option.some.inj H;go_enter Tryd.func160,Tryd.ntmps160
  go_wp2_with (first|((with_reducible refine gate_dst (N:=1) rfl ?_);refine box_event ?hg (N:=1) ?hd (cs:=#[.int .i64 a0_0,.slice A0_1 l0_1.length c0_1]) (t:=28) ?hr ?_;(case hd=>rfl);(case hg=>rfl);(case hr=>first|(go_simp;done)|(go_simp;rfl));intro gb298 hg w4 hbox hb;have BK298:=A_ (hbox);have GW298:=A_ ((by rw [hg];exact (below_size bb_) : w.heap.size ≤ gb298));have GE298:=A_ ((by rw [hg];exact (below_size bb_) : w.heap.size ≤ gb298));replace HB:=A_ (below_step bb_ hb);clear hb hbox hg;have hcz5_0 : w4.cell? ⟨gb298,0,none⟩ = some (.int .i64 a0_0):=blk_cell BK298.out 0;have hcz5_1 : w4.cell? ⟨gb298,1,none⟩ = some (.slice A0_1 l0_1.length c0_1):=blk_cell BK298.out 1;have hfz5_0:=blk_frozen BK298.out 0;have hfz5_1:=blk_frozen BK298.out 1))
  go_ret
  exact ⟨by first|rfl|(simp [errW_none,errW_some] <;> rfl)|(simp only [← hji3];first|rfl|(simp [errW_none,errW_some] <;> rfl))|(simp [*,errW_none,errW_some] <;> rfl),bb_⟩
 ·rw [if_neg c2] at H;exact absurd H (by simp)
def impl_Order_indifferent.l0 : Nat → List Int → Int → Int → Int → List Int → Int → List Int → Option (List Int)
 | 0,_,_,_,_,_,_,_=>none
 | k + 1,x3,x10,x11,x300000,x300001,x308000,x308001=>if x11 < x10 then ((impl_Order_all.f x300000 x300001).bind fun t308=>(if 0 ≤ x11 then (if x11 < (x300001.length : Int) then (if x11 < (x308001.length : Int) then (if x3.length < 17592186044416 then (impl_Order_indifferent.l0 k (x3 ++ [Go.bits .andNot .i64 (Go.bits .andNot .i64 (Go.bits .andNot .i64 t308 (rd x300001 x11)) (rd x308001 x11)) (shl .i64 1 x11)]) x10 (wrap64 (x11 + 1)) x300000 x300001 x308000 x308001) else (none)) else (none)) else (none)) else (none))) else (some x3)
def impl_Order_indifferent.f (k : Nat) (a0_0 : Int) (l0_1 : List Int) : Option (List Int) := (impl_Order_mirror.f k a0_0 l0_1).bind fun bt303 => (impl_Order_indifferent.l0 k (([] : List Int)) a0_0 0 a0_0 l0_1 bt303.1 bt303.2)
def impl_Order_indifferent.T5 : Bool × List (List Nat × List Nat) := (true, [([], []), ([], []), ([1], [1]), ([], []), ([3], [3]), ([], []), ([4, 5], [4, 5]), ([6], [6]), ([2, 7], [2, 7]), ([], []), ([9], [9]), ([], []), ([10, 11], [10, 11]), ([12], [12]), ([8, 13], [8, 13]), ([], []), ([15], [15]), ([14, 16], [14, 16]), ([17], [17]), ([0, 18, 2], [0, 18]), ([19, 19, 0, 1, 2, 3, 4, 5, 6, 7, 8, 9, 10, 11, 12, 13, 14, 15, 16, 17, 18, 19], [0, 19])])
def impl_Order_indifferent.B5 : List Nat := [0, 0, 2, 0, 8, 0, 56, 120, 254, 0, 512, 0, 3584, 7680, 16382, 0, 32768, 131070, 262142, 524287, 1048575]
theorem impl_Order_indifferent.tab5 : rtab .any (opsOf Tryd.f184 5) = impl_Order_indifferent.T5:=by kernel_rfl
theorem impl_Order_indifferent.bits5 : waitsOk impl_Order_indifferent.T5.2 impl_Order_indifferent.B5 = true:=by kernel_rfl
set_option maxHeartbeats 8000000 in
set_option maxRecDepth 100000 in
theorem impl_Order_indifferent.calls (k : Nat) (a0_0 : Int) (A0_1 : Option Addr) (c0_1 : Nat) (l0_1 : List Int) (r : List Int) (w : World) (hr0_1 : Kd.C (Kd.int .i64) w A0_1 l0_1.length l0_1) (hc0_1 : l0_1.length ≤ c0_1) (h : impl_Order_indifferent.f k a0_0 l0_1 = some r) :
 Calls Tryd.prog 184 #[.agg #[.int .i64 a0_0,.slice A0_1 l0_1.length c0_1]] w fun e w'=>∃ v0_ : Value,e = .returned (v0_) ∧ Kd.R (Kd.int .i64) 3 w' w.heap.size (fun _=>True) v0_ r ∧ Below w.heap.size w w':=by
 have hu28:=Tryd.underlying28;have HR0_1:=A_ hr0_1;have HC0_1:=A_ hc0_1;clear hr0_1 hc0_1;have HB:=A_ (Below.refl w.heap.size w);have H : ((impl_Order_mirror.f k a0_0 l0_1).bind fun bt303=>(impl_Order_indifferent.l0 k (([] : List Int)) a0_0 0 a0_0 l0_1 bt303.1 bt303.2)) = some r:=h;clear h;obtain ⟨y300,hy300⟩ : ∃ y_ : List Int,y_ = (([] : List Int)):=⟨_,rfl⟩;replace H : ((impl_Order_mirror.f k a0_0 l0_1).bind fun bt303=>(impl_Order_indifferent.l0 k y300 a0_0 0 a0_0 l0_1 bt303.1 bt303.2)) = some r:=by first|(rw [hy300];with_reducible exact H)|(have H2_:=(Option.bind_some _ _).symm.trans H;rw [hy300];with_reducible exact H2_)|(have H2_:=(Option.bind_some _ _).symm.trans H;with_reducible exact H2_)|with_reducible exact H|(rw [hy300];exact H)|exact H
 have Ny300:=A_ hy300;clear hy300;replace H:=Option.bind_eq_some_iff.mp H;obtain ⟨⟨t303,t304⟩,A20,H⟩:=H;replace H : (impl_Order_indifferent.l0 k y300 a0_0 0 a0_0 l0_1 t303 t304) = some r:=H;have A2:=A_ A20;clear A20;have H':=A_ H;clear H;go_enter Tryd.func184,Tryd.ntmps184
 go_wp2_with (first|((with_reducible refine gate_dst (N:=1) rfl ?_);refine box_event ?hg (N:=1) ?hd (cs:=#[.int .i64 a0_0,.slice A0_1 l0_1.length c0_1]) (t:=28) ?hr ?_;(case hd=>rfl);(case hg=>rfl);(case hr=>first|(go_simp;done)|(go_simp;rfl));intro gb299 hg w3 hbox hb;have BK299:=A_ (hbox);have GW299:=A_ ((by rw [hg];exact (below_size bb_) : w.heap.size ≤ gb299));have GE299:=A_ ((by rw [hg];exact (below_size bb_) : w.heap.size ≤ gb299));replace HB:=A_ (below_step bb_ hb);clear hb hbox hg)|((with_reducible refine gate_dst (N:=6) rfl ?_);refine Kd.R_lit (Kd.int .i64) _ 3 ?hg (N:=6) ?hd (xs:=([] : List Int)) (inner:=[]) (ok:=fun _=>True) (okp:=fun _=>True) ?hr ?hp (fun _ hk=>hk) trivial (Below.refl _ _) (Nat.le_refl _) (by simp) ?_;(case hd=>rfl);(case hg=>rfl);(case hr=>first|(go_simp;done)|(go_simp;rfl));(case hp=>exact (Reps.none _ _));intro v301 w4 ho5 hb hg_ hnew_;clear hg_ hnew_;(first|rw [← Ny300.out] at ho5|(simp only [Int.reduceToNat] at ho5;rw [← Ny300.out] at ho5));have HO302:=A_ (Kd.R_lower ho5 (below_size bb_));replace BK299:=bz BK299 hb;replace HB:=A_ (below_step bb_ hb);clear hb ho5;have hcz6_0 : w4.cell? ⟨gb299,0,none⟩ = some (.int .i64 a0_0):=blk_cell BK299.out 0;have hcz6_1 : w4.cell? ⟨gb299,1,none⟩ = some (.slice A0_1 l0_1.length c0_1):=blk_cell BK299.out 1;have hfz6_0:=blk_frozen BK299.out 0;have hfz6_1:=blk_frozen BK299.out 1)|((with_reducible refine gate_callee (f:=113) rfl ?_);refine goesL_ (some 8) rfl rfl Tryd.func113 (by kernel_rfl) rfl #[.agg #[.int .i64 a0_0,.slice A0_1 l0_1.length c0_1]] rfl au_ ?_;(with_reducible refine (impl_Order_mirror.calls k a0_0 _ _ l0_1 t303 t304 _ ?side1 ?side2 A2.out).mono ?_);(case side1=>exact cl_ (Kd.C_below HR0_1.out HB.out));(case side2=>exact HC0_1.out);rintro e w7 ⟨v305,rfl,ho0,hb⟩;refine ⟨_,rfl,?_⟩;have HO306:=A_ (Kd.R_lower (Kd.R_new' ho0 (Kd.R_lt (rl_ HO302))) (below_size bb_));replace HO302:=A_ (Kd.R_elder' (rl_ HO302) (Kd.R_base ho0) hb);replace BK299:=bz BK299 hb;replace HB:=A_ (below_step bb_ hb);(try clear hb);(try clear hb2);(try clear hk);(try clear hi);(try clear ho0))|((with_reducible refine gate_dst (N:=4) rfl ?_);refine box_event ?hg (N:=4) ?hd (cs:=#[.int .i64 0,.slice none 0 0]) (t:=28) ?hr ?_;(case hd=>rfl);(case hg=>rfl);(case hr=>first|(go_simp;done)|(go_simp;rfl));intro gb307 hg w8 hbox hb;replace HO302:=rb_ HO302 hb;replace HO306:=rb_ HO306 hb;have BK307:=A_ (hbox);have GW307:=A_ ((by rw [hg];exact (below_size bb_) : w.heap.size ≤ gb307));have GE307:=A_ ((by rw [hg];exact (below_size bb_) : w.heap.size ≤ gb307));replace HB:=A_ (below_step bb_ hb);have NB299_307:=A_ ((by rw [hg];exact Nat.ne_of_lt (blk_lt (bl_ BK299)) : gb299 ≠ gb307));have NB307_299:=A_ ((by rw [hg];exact Nat.ne_of_gt (blk_lt (bl_ BK299)) : gb307 ≠ gb299));replace BK299:=bz BK299 hb;clear hb hbox hg;have hnb9:=NB307_299.out;have hnc9:=NB299_307.out;have hcz10_0 : w8.cell? ⟨gb307,0,none⟩ = some (.int .i64 0):=blk_cell BK307.out 0;have hcz10_1 : w8.cell? ⟨gb307,1,none⟩ = some (.slice none 0 0):=blk_cell BK307.out 1;have hfz10_0:=blk_frozen BK307.out 0;have hfz10_1:=blk_frozen BK307.out 1;obtain ⟨Ao11,co11,eo11⟩:=Kd.R_slice HO306.out;subst eo11;have hcz12_0 : w8.cell? ⟨gb299,0,none⟩ = some (.int .i64 a0_0):=blk_cell BK299.out 0;have hcz12_1 : w8.cell? ⟨gb299,1,none⟩ = some (.slice A0_1 l0_1.length c0_1):=blk_cell BK299.out 1;have hfz12_0:=blk_frozen BK299.out 0;have hfz12_1:=blk_frozen BK299.out 1))
 go_loopg [3,11] k (fun kq v3 v11 w'=>∃ (x3_1 : List Int) (x11_1 : Int),v11 = .int .i64 x11_1 ∧ Aside0 (impl_Order_indifferent.l0 kq x3_1 a0_0 x11_1 a0_0 l0_1 t303 t304 = some r) ∧ Aside0 (kq ≤ k) ∧ Aside0 (Kd.R (Kd.int .i64) 3 w' w.heap.size (fun k_=>some k_ ≠ ((.slice Ao11 t304.length co11) : Value).ownBlock) v3 x3_1) ∧ Aside0 (Kd.R (Kd.int .i64) 3 w' w.heap.size (fun k_=>some k_ ≠ (v3 : Value).ownBlock) (.slice Ao11 t304.length co11) t304) ∧ Aside0 (w'.heap[gb299]? = some (.cells #[.int .i64 a0_0,(.slice A0_1 l0_1.length c0_1)] 28 (0,0))) ∧ Aside0 (w'.heap[gb307]? = some (.cells #[.int .i64 t303,(.slice Ao11 t304.length co11)] 28 (0,0))) ∧ Aside0 (Below w.heap.size w w'))
 case atStart=>exact ⟨(y300),(0),(by first|rfl|(simp;done)|(simp [*];done)),H',⟨Nat.le_refl _⟩,⟨by (with_reducible repeat (first|apply Kd.R_alloc|apply Kd.R_drewN|apply Kd.R_drew));exact Kd.R_mono (Kd.R_far (p:=⟨gb307,1,none⟩) (Kd.R_far (p:=⟨gb307,0,none⟩) (Kd.R_types HO302.out BK307.out (by decide)) (fun _ hk=>hk.2) (.int .i64 t303)) (fun _ hk=>hk.2) (.slice Ao11 t304.length co11)) (fun _ hk=>hk.1.2)⟩,⟨by (with_reducible repeat (first|apply Kd.R_alloc|apply Kd.R_drewN|apply Kd.R_drew));exact Kd.R_mono (Kd.R_far (p:=⟨gb307,1,none⟩) (Kd.R_far (p:=⟨gb307,0,none⟩) (Kd.R_types HO306.out BK307.out (by decide)) (fun _ hk=>hk.2) (.int .i64 t303)) (fun _ hk=>hk.2) (.slice Ao11 t304.length co11)) (fun _ hk=>hk.1.2)⟩,⟨by (with_reducible repeat (first|refine blk_drewN ?_ _|refine blk_drew ?_|refine blk_alloc ?_ _));refine blk_far ?_ NB299_307.out _;(with_reducible repeat (first|refine blk_drewN ?_ _|refine blk_drew ?_|refine blk_alloc ?_ _));refine blk_far ?_ NB299_307.out _;(with_reducible repeat (first|refine blk_drewN ?_ _|refine blk_drew ?_|refine blk_alloc ?_ _));exact BK299.out⟩,⟨by (with_reducible repeat (first|refine blk_drewN ?_ _|refine blk_drew ?_|refine blk_alloc ?_ _));refine blk_put (cs:=#[.int .i64 t303,.slice none 0 0]) ?_ 1 _ rfl;(with_reducible repeat (first|refine blk_drewN ?_ _|refine blk_drew ?_|refine blk_alloc ?_ _));refine blk_put (cs:=#[.int .i64 0,.slice none 0 0]) ?_ 0 _ rfl;(with_reducible repeat (first|refine blk_drewN ?_ _|refine blk_drew ?_|refine blk_alloc ?_ _));exact BK307.out⟩,⟨bb_⟩⟩
 case round =>
  clear H';try clear c1
  try clear p2
  try clear c9
  try clear c11
  try clear hcz10_0
  try clear hcz10_1
  try clear hcz12_0
  try clear hcz12_1
  try clear hcz6_0
  try clear hcz6_1
  try clear hfz10_0
  try clear hfz10_1
  try clear hfz12_0
  try clear hfz12_1
  try clear hfz6_0
  try clear hfz6_1
  obtain ⟨x3_1,x11_1,rfl,HA,HK1,HO_3,HO_308001,BK299,BK307,HB⟩:=hrel;cases gk with
  | zero => exact absurd HA.out (by simp [impl_Order_indifferent.l0])
  | succ k1 =>
   have H:=HA.out;clear HA;simp only [impl_Order_indifferent.l0] at H
   by_cases c13 : x11_1 < a0_0
   ·rw [if_pos c13] at H;have c13b0 : decide (x11_1 < a0_0) = true:=decide_eq_true c13;clear c13;replace H:=Option.bind_eq_some_iff.mp H;obtain ⟨t308,A140,H⟩:=H;replace H : (if 0 ≤ x11_1 then (if x11_1 < (l0_1.length : Int) then (if x11_1 < (t304.length : Int) then (if x3_1.length < 17592186044416 then (impl_Order_indifferent.l0 k1 (x3_1 ++ [Go.bits .andNot .i64 (Go.bits .andNot .i64 (Go.bits .andNot .i64 t308 (rd l0_1 x11_1)) (rd t304 x11_1)) (shl .i64 1 x11_1)]) a0_0 (wrap64 (x11_1 + 1)) a0_0 l0_1 t303 t304) else (none)) else (none)) else (none)) else (none)) = some r:=H;have A14:=A_ A140;clear A140;by_cases c15 : 0 ≤ x11_1
    ·rw [if_pos c15] at H;have c15b0 : decide (0 ≤ x11_1) = true:=decide_eq_true c15;clear c15;by_cases c16 : x11_1 < (l0_1.length : Int)
     ·rw [if_pos c16] at H;have c16b0 : decide (x11_1 < (l0_1.length : Int)) = true:=decide_eq_true c16;clear c16;by_cases c17 : x11_1 < (t304.length : Int)
      ·rw [if_pos c17] at H;have c17b0 : decide (x11_1 < (t304.length : Int)) = true:=decide_eq_true c17;clear c17;have c18b0:=eq_true (of_decide_eq_true (by first|(with_reducible assumption)|assumption) : 0 ≤ x11_1);obtain ⟨ji19,hji19⟩ : ∃ j_ : Int,(shl .i64 1 x11_1) = j_:=⟨_,rfl⟩;replace H : (if x3_1.length < 17592186044416 then (impl_Order_indifferent.l0 k1 (x3_1 ++ [Go.bits .andNot .i64 (Go.bits .andNot .i64 (Go.bits .andNot .i64 t308 (rd l0_1 x11_1)) (rd t304 x11_1)) (ji19)]) a0_0 (wrap64 (x11_1 + 1)) a0_0 l0_1 t303 t304) else (none)) = some r:=by first|(rw [hji19] at H;exact H)|(simp only [hji19] at H ⊢;exact H)
       (try rw [hji19] at A14);have hji19_ : (IntKind.i64.wrap (1 * 2 ^ min x11_1.toNat 64)) = ji19:=hji19;have hji19z : x11_1 ≤ 64 → (IntKind.i64.wrap (1 * 2 ^ x11_1.toNat)) = ji19:=shl_small hji19;have hji19u : (IntKind.i64.wrap (2 ^ min x11_1.toNat 64)) = ji19:=by have h_:=hji19_;rw [Int.one_mul] at h_;exact h_
       have hji19v : x11_1 ≤ 64 → (IntKind.i64.wrap (2 ^ x11_1.toNat)) = ji19:=fun hle_=>by have h_:=hji19z hle_;rw [Int.one_mul] at h_;exact h_
       have hji19y : (wrap64 (1 * 2 ^ min x11_1.toNat 64)) = ji19:=(i64_w _).symm.trans hji19_;have hji19x : x11_1 ≤ 64 → (wrap64 (1 * 2 ^ x11_1.toNat)) = ji19:=fun h_=>(i64_w _).symm.trans (hji19z h_)
       by_cases c20 : x3_1.length < 17592186044416
       ·rw [if_pos c20] at H;have LMc20:=A_ c20;clear c20;obtain ⟨y311,hy311⟩ : ∃ y_ : List Int,y_ = (x3_1 ++ [Go.bits .andNot .i64 (Go.bits .andNot .i64 (Go.bits .andNot .i64 t308 (rd l0_1 x11_1)) (rd t304 x11_1)) (ji19)]):=⟨_,rfl⟩;replace H : (impl_Order_indifferent.l0 k1 y311 a0_0 (wrap64 (x11_1 + 1)) a0_0 l0_1 t303 t304) = some r:=by first|(rw [hy311];with_reducible exact H)|(have H2_:=(Option.bind_some _ _).symm.trans H;rw [hy311];with_reducible exact H2_)|(have H2_:=(Option.bind_some _ _).symm.trans H;with_reducible exact H2_)|with_reducible exact H|(rw [hy311];exact H)|exact H
        have Ny311:=A_ hy311;clear hy311;have H':=A_ H;clear H;try go_wp2
        replace HO_3:=A_ (Kd.R_drew HO_3.out);replace HO_308001:=A_ (Kd.R_drew HO_308001.out);replace BK299:=A_ (blk_drew BK299.out);replace BK307:=A_ (blk_drew BK307.out);replace HB:=A_ (below_drew1 HB.out);have p309 : 0 ≤ (x11_1 : Int):=of_decide_eq_true (by first|(with_reducible assumption)|assumption);have q309 : x11_1 < (l0_1.length : Int):=of_decide_eq_true (by first|(with_reducible assumption)|assumption);obtain ⟨ad309,e309,hx309_0⟩:=Kd.at_int HR0_1.out x11_1 p309 q309;have hw309_0:=hx309_0;cases e309
        (try replace hx309_0:=(HB.out.cell (World.block_lt_of_cell? w _ hx309_0)).trans hx309_0);replace p309:=eq_true p309;replace q309:=eq_true q309;have p310 : 0 ≤ (x11_1 : Int):=of_decide_eq_true (by first|(with_reducible assumption)|assumption);have q310 : x11_1 < (t304.length : Int):=of_decide_eq_true (by first|(with_reducible assumption)|assumption);obtain ⟨ad310,e310,hx310_0⟩:=Kd.at_int (Kd.R_reads' HO_308001.out).2.2 x11_1 p310 q310;cases e310
        replace p310:=eq_true p310;replace q310:=eq_true q310;refine start_ (n:=21) (S:=fun w'=>w'.cell? ⟨gb299,0,none⟩ = some (.int .i64 a0_0) ∧ w'.cell? ⟨gb299,1,none⟩ = some (.slice (some ad309) l0_1.length c0_1) ∧ w'.cell? ⟨gb307,0,none⟩ = some (.int .i64 t303) ∧ w'.cell? ⟨gb307,1,none⟩ = some (.slice (some ad310) t304.length co11) ∧ w'.cell? (ad309.add (x11_1).toNat) = some (.int .i64 (rd l0_1 x11_1)) ∧ w'.cell? (ad310.add (x11_1).toNat) = some (.int .i64 (rd t304 x11_1))) (ds:=[18,19]) #[F,F,F,F,F,F,F,F,F,F,F,F,F,F,F,F,F,F,F,F,F] (by kernel_rfl) rfl rfl ⟨blk_cell BK299.out 0,blk_cell BK299.out 1,blk_cell BK307.out 0,blk_cell BK307.out 1,((HB.out.cell (World.block_lt_of_cell? w _ hw309_0)).trans hw309_0),hx310_0⟩ (fun hHeld=>?_);refine with_tabW impl_Order_indifferent.tab5 impl_Order_indifferent.bits5 (fun HT_ HW_=>?_)
        generalize wr.drew = w21 at HO_3 HO_308001 BK299 BK307 HB hx309_0 hx310_0 hHeld ⊢
        refine pure_ (i:=0) (N:=some 14) (v:=?_) (a':=?_) #[T,F,F,F,F,F,F,F,F,F,F,F,F,F,F,F,F,F,F,F,F] rfl rfl (any_of HT_.out (by kernel_rfl)) (fun _ _ _ h=>h) (Or.inl ⟨by rfl,?_⟩) ?_ ?_
        rotate_left;·intro w';go_simp;with_reducible rfl
        rotate_left;·simp only [Act.put,L_,M_,N_,i64_w,i32_w];rfl
        refine pure_ (i:=3) (N:=some 17) (v:=?_) (a':=?_) #[T,F,F,T,F,F,F,F,F,F,F,F,F,F,F,F,F,F,F,F,F] rfl rfl (any_of HT_.out (by kernel_rfl)) (fun _ _ _ h=>h) (Or.inl ⟨by rfl,?_⟩) ?_ ?_
        rotate_left;·intro w';go_simp;with_reducible rfl
        rotate_left;·simp only [Act.put,L_,M_,N_,i64_w,i32_w];rfl
        refine pure_ (i:=5) (N:=some 19) (v:=?_) (a':=?_) #[T,F,F,T,F,T,F,F,F,F,F,F,F,F,F,F,F,F,F,F,F] rfl rfl (any_of HT_.out (by kernel_rfl)) (fun _ _ _ h=>h) (Or.inl ⟨by rfl,?_⟩) ?_ ?_
        rotate_left;·intro w';go_simp;with_reducible rfl
        rotate_left;·simp only [Act.put,L_,M_,N_,i64_w,i32_w];rfl
        refine pure_ (i:=9) (N:=some 23) (v:=?_) (a':=?_) #[T,F,F,T,F,T,F,F,F,T,F,F,F,F,F,F,F,F,F,F,F] rfl rfl (any_of HT_.out (by kernel_rfl)) (fun _ _ _ h=>h) (Or.inl ⟨by rfl,?_⟩) ?_ ?_
        rotate_left;·intro w';go_simp;with_reducible rfl
        rotate_left;·simp only [Act.put,L_,M_,N_,i64_w,i32_w];rfl
        refine pure_ (i:=11) (N:=some 25) (v:=?_) (a':=?_) #[T,F,F,T,F,T,F,F,F,T,F,T,F,F,F,F,F,F,F,F,F] rfl rfl (any_of HT_.out (by kernel_rfl)) (fun _ _ _ h=>h) (Or.inl ⟨by rfl,?_⟩) ?_ ?_
        rotate_left;·intro w';go_simp;with_reducible rfl
        rotate_left;·simp only [Act.put,L_,M_,N_,i64_w,i32_w];rfl
        refine pure_ (i:=15) (N:=some 29) (v:=?_) (a':=?_) #[T,F,F,T,F,T,F,F,F,T,F,T,F,F,F,T,F,F,F,F,F] rfl rfl (any_of HT_.out (by kernel_rfl)) (fun _ _ _ h=>h) (Or.inl ⟨by rfl,?_⟩) ?_ ?_
        rotate_left;·intro w';go_simp;with_reducible rfl
        rotate_left;·simp only [Act.put,L_,M_,N_,i64_w,i32_w];rfl
        refine pure_ (i:=16) (N:=some 30) (v:=?_) (a':=?_) #[T,F,F,T,F,T,F,F,F,T,F,T,F,F,F,T,T,F,F,F,F] rfl rfl (any_of HT_.out (by kernel_rfl)) (fun _ _ _ h=>h) (Or.inl ⟨by rfl,?_⟩) ?_ ?_
        rotate_left;·intro w';go_simp;with_reducible rfl
        rotate_left;·simp only [Act.put,L_,M_,N_,i64_w,i32_w];rfl
        refine take_ (i:=1) (N:=some 15) (v:=?_) (a':=?_) #[T,T,F,T,F,T,F,F,F,T,F,T,F,F,F,T,T,F,F,F,F] rfl rfl (take_ofW HT_.out HW_.out (by kernel_rfl)) (fun _ _ _ h=>h) (Or.inl ⟨by rfl,?_⟩) hHeld ?_ ?_
        rotate_left
        ·rintro w' ⟨s0,s1,s2,s3,s4,s5⟩
         go_simp
         with_reducible rfl
        rotate_left;·simp only [Act.put,L_,M_,N_,i64_w,i32_w];rfl
        refine take_ (i:=4) (N:=some 18) (v:=?_) (a':=?_) #[T,T,F,T,T,T,F,F,F,T,F,T,F,F,F,T,T,F,F,F,F] rfl rfl (take_ofW HT_.out HW_.out (by kernel_rfl)) (fun _ _ _ h=>h) (Or.inl ⟨by rfl,?_⟩) hHeld ?_ ?_
        rotate_left
        ·rintro w' ⟨s0,s1,s2,s3,s4,s5⟩
         go_simp
         with_reducible rfl
        rotate_left;·simp only [Act.put,L_,M_,N_,i64_w,i32_w];rfl
        refine pure_ (i:=6) (N:=some 20) (v:=?_) (a':=?_) #[T,T,F,T,T,T,T,F,F,T,F,T,F,F,F,T,T,F,F,F,F] rfl rfl (any_of HT_.out (by kernel_rfl)) (fun _ _ _ h=>h) (Or.inl ⟨by rfl,?_⟩) ?_ ?_
        rotate_left;·intro w';go_simp;with_reducible rfl
        rotate_left;·simp only [Act.put,L_,M_,N_,i64_w,i32_w];rfl
        refine take_ (i:=7) (N:=some 21) (v:=?_) (a':=?_) #[T,T,F,T,T,T,T,T,F,T,F,T,F,F,F,T,T,F,F,F,F] rfl rfl (take_ofW HT_.out HW_.out (by kernel_rfl)) (fun _ _ _ h=>h) (Or.inl ⟨by rfl,?_⟩) hHeld ?_ ?_
        rotate_left
        ·rintro w' ⟨s0,s1,s2,s3,s4,s5⟩
         go_simp
         with_reducible rfl
        rotate_left;·simp only [Act.put,L_,M_,N_,i64_w,i32_w];rfl
        refine take_ (i:=10) (N:=some 24) (v:=?_) (a':=?_) #[T,T,F,T,T,T,T,T,F,T,T,T,F,F,F,T,T,F,F,F,F] rfl rfl (take_ofW HT_.out HW_.out (by kernel_rfl)) (fun _ _ _ h=>h) (Or.inl ⟨by rfl,?_⟩) hHeld ?_ ?_
        rotate_left
        ·rintro w' ⟨s0,s1,s2,s3,s4,s5⟩
         go_simp
         with_reducible rfl
        rotate_left;·simp only [Act.put,L_,M_,N_,i64_w,i32_w];rfl
        refine pure_ (i:=12) (N:=some 26) (v:=?_) (a':=?_) #[T,T,F,T,T,T,T,T,F,T,T,T,T,F,F,T,T,F,F,F,F] rfl rfl (any_of HT_.out (by kernel_rfl)) (fun _ _ _ h=>h) (Or.inl ⟨by rfl,?_⟩) ?_ ?_
        rotate_left;·intro w';go_simp;with_reducible rfl
        rotate_left;·simp only [Act.put,L_,M_,N_,i64_w,i32_w];rfl
        refine take_ (i:=13) (N:=some 27) (v:=?_) (a':=?_) #[T,T,F,T,T,T,T,T,F,T,T,T,T,T,F,T,T,F,F,F,F] rfl rfl (take_ofW HT_.out HW_.out (by kernel_rfl)) (fun _ _ _ h=>h) (Or.inl ⟨by rfl,?_⟩) hHeld ?_ ?_
        rotate_left
        ·rintro w' ⟨s0,s1,s2,s3,s4,s5⟩
         go_simp
         with_reducible rfl
        rotate_left;·simp only [Act.put,L_,M_,N_,i64_w,i32_w];rfl
        refine one_ (i:=2) (N:=some 16) #[T,T,T,T,T,T,T,T,F,T,T,T,T,T,F,T,T,F,F,F,F] rfl rfl (one_of HT_.out (by kernel_rfl)) (by decide) (fun K hK=>?_)
        refine goes_ Tryd.func160 (by kernel_rfl) rfl #[.agg #[.int .i64 a0_0,.slice (some ad309) l0_1.length c0_1]] (by rfl) rfl rfl au_ ?_
        with_reducible refine (impl_Order_all.calls a0_0 _ _ l0_1 t308 _ ?side1 ?side2 A14.out).mono ?_
        (case side1=>exact cl_ (Kd.C_below HR0_1.out HB.out))
        (case side2=>exact HC0_1.out)
        rintro e w22 ⟨rfl,hb⟩
        have HS5_:=(hb.cell (World.block_lt_of_cell? _ _ (hHeld.2.2.2.2.2))).trans (hHeld.2.2.2.2.2);refine ⟨_,rfl,?_⟩
        replace HO_3:=rb_ HO_3 hb;replace HO_308001:=rb_ HO_308001 hb;replace BK299:=bz BK299 hb;replace BK307:=bz BK307 hb;replace HB:=A_ (below_step bb_ hb);(try clear hb);(try clear hb2);(try clear hk);(try clear hi);refine hK.out _ _ ⟨blk_cell BK299.out 0,blk_cell BK299.out 1,blk_cell BK307.out 0,blk_cell BK307.out 1,((HB.out.cell (World.block_lt_of_cell? w _ hw309_0)).trans hw309_0),HS5_⟩ (fun hHeld=>?_)
        clear hK K;refine norm_ (a':=?_) ?_ ?_
        rotate_left
        ·show Act.put _ (some 16) _ = _
         simp only [Act.put,L_,M_,N_,i64_w,i32_w]
         rfl
        refine pure_ (i:=8) (N:=some 22) (v:=?_) (a':=?_) #[T,T,T,T,T,T,T,T,T,T,T,T,T,T,F,T,T,F,F,F,F] rfl rfl (any_of HT_.out (by kernel_rfl)) (fun _ _ _ h=>h) (Or.inl ⟨by rfl,?_⟩) ?_ ?_
        rotate_left;·intro w';go_simp;with_reducible rfl
        rotate_left;·simp only [Act.put,L_,M_,N_,i64_w,i32_w];rfl
        refine pure_ (i:=14) (N:=some 28) (v:=?_) (a':=?_) #[T,T,T,T,T,T,T,T,T,T,T,T,T,T,T,T,T,F,F,F,F] rfl rfl (any_of HT_.out (by kernel_rfl)) (fun _ _ _ h=>h) (Or.inl ⟨by rfl,?_⟩) ?_ ?_
        rotate_left;·intro w';go_simp;with_reducible rfl
        rotate_left;·simp only [Act.put,L_,M_,N_,i64_w,i32_w];rfl
        refine pure_ (i:=17) (N:=some 31) (v:=?_) (a':=?_) #[T,T,T,T,T,T,T,T,T,T,T,T,T,T,T,T,T,T,F,F,F] rfl rfl (any_of HT_.out (by kernel_rfl)) (fun _ _ _ h=>h) (Or.inl ⟨by rfl,?_⟩) ?_ ?_
        rotate_left;·intro w';go_simp;with_reducible rfl
        rotate_left;·simp only [Act.put,L_,M_,N_,i64_w,i32_w];rfl
        refine last_ (i:=18) (N:=some 32) #[T,T,T,T,T,T,T,T,T,T,T,T,T,T,T,T,T,T,T,F,F] rfl rfl (one_of HT_.out (by kernel_rfl)) (by decide) (fun K hK=>?_)
        refine value_ (w1:=?_) (v:=?_) (by rfl) rfl ?_ ?_
        rotate_left 2
        ·go_simp
         constructor
         ·rfl
         ·rfl
        refine hK.out _ _ ?_
        clear hK K;refine norm_ (a':=?_) ?_ ?_
        rotate_left
        ·show Act.put _ (some 32) _ = _
         simp only [Act.put,L_,M_,N_,i64_w,i32_w]
         rfl
        refine last_ (i:=19) (N:=some 33) #[T,T,T,T,T,T,T,T,T,T,T,T,T,T,T,T,T,T,T,T,F] rfl rfl (one_of HT_.out (by kernel_rfl)) (by decide) (fun K hK=>?_)
        refine Kd.R_append_step (Kd.int .i64) (w0:=w) w.heap.size (by rfl) (.tmp 14) (.tmp 32) 22 3 (.int .i64 0) 8 rfl Tryd.underlying22 info3 rfl (by decide) (by omega) u3 x3_1 (Go.bits .andNot .i64 (Go.bits .andNot .i64 (Go.bits .andNot .i64 t308 (rd l0_1 x11_1)) (rd t304 x11_1)) (ji19)) [.int .i64 (Go.bits .andNot .i64 (Go.bits .andNot .i64 (Go.bits .andNot .i64 t308 (rd l0_1 x11_1)) (rd t304 x11_1)) (ji19))] (fun k_=>some k_ ≠ (.slice (some ad310) t304.length co11 : Value).ownBlock) (fun _=>False) rfl rfl ?aP (fun _ hk=>hk.elim) ?aF ?aO ?aB ?aS ?aL ?_
        (case aP=>exact rfl)
        (case aB=>exact bb_)
        (case aF=>exact (fun k_ hk=>Kd.fresh' (Kd.R_lt (rl_ HO_308001)) k_ hk))
        (case aO=>exact (rl_ HO_3))
        (case aS=>exact (below_size bb_))
        (case aL=>have:=LMc20.out;omega)
        intro v312 w23 ho hb hg hat
        rw [← Ny311.out] at ho;replace HO_308001:=A_ (Kd.R_after (ok:=(fun _=>True)) (by (with_reducible repeat (first|apply Kd.R_alloc|apply Kd.R_drewN|apply Kd.R_drew));exact Kd.R_mono HO_308001.out (fun _ hk=>⟨trivial,hk⟩)) hg hat);replace BK299:=A_ (blk_grown (g:=gb299) (o:=.cells #[.int .i64 a0_0,.slice (some ad309) l0_1.length c0_1] 28 (0,0)) (bl_ BK299) hg (Kd.R_ne HO_3.out BK299.out (by decide)));replace BK307:=A_ (blk_grown (g:=gb307) (o:=.cells #[.int .i64 t303,.slice (some ad310) t304.length co11] 28 (0,0)) (bl_ BK307) hg (Kd.R_ne HO_3.out BK307.out (by decide)));replace HB:=A_ (hb);have HO313:=A_ (ho);clear HO_3;clear ho hb hg hat;refine hK.out _ _ ?_
        clear hK K;refine norm_ (a':=?_) ?_ ?_
        rotate_left
        ·show Act.put _ (some 33) _ = _
         simp only [Act.put,L_,M_,N_,i64_w,i32_w]
         rfl
        refine pure_ (i:=20) (N:=some 3) (v:=?_) (a':=?_) #[T,T,T,T,T,T,T,T,T,T,T,T,T,T,T,T,T,T,T,T,T] rfl rfl (any_of HT_.out (by kernel_rfl)) (fun _ _ _ h=>h) (Or.inl ⟨by rfl,?_⟩) ?_ ?_
        rotate_left;·intro w';go_simp;with_reducible rfl
        rotate_left;·simp only [Act.put,L_,M_,N_,i64_w,i32_w];rfl
        refine done_ (done_of HT_.out (by kernel_rfl)) ?_
        try go_wp2
        go_roundg k1
        case measure=>have:=HK1.out;omega
        case rel=>exact ⟨(y311),(wrap64 (x11_1 + 1)),(by first|rfl|(simp;done)|(simp [*];done)),H',⟨by have:=HK1.out;omega⟩,⟨by (with_reducible repeat (first|apply Kd.R_alloc|apply Kd.R_drewN|apply Kd.R_drew));exact HO313.out⟩,⟨by (with_reducible repeat (first|apply Kd.R_alloc|apply Kd.R_drewN|apply Kd.R_drew));exact Kd.R_mono HO_308001.out (fun _ hk=>hk.2)⟩,⟨bl_ BK299⟩,⟨bl_ BK307⟩,⟨bb_⟩⟩
       ·rw [if_neg c20] at H;exact absurd H (by simp)
      ·rw [if_neg c17] at H;exact absurd H (by simp)
     ·rw [if_neg c16] at H;exact absurd H (by simp)
    ·rw [if_neg c15] at H;exact absurd H (by simp)
   ·rw [if_neg c13] at H;have c13b0 : decide (x11_1 < a0_0) = false:=decide_eq_false c13;clear c13;obtain rfl:=Option.some.inj H;go_wp2
    go_ret
    exact ⟨_,by first|rfl|(simp [errW_none,errW_some] <;> rfl)|(simp [*,errW_none,errW_some] <;> rfl),by (with_reducible repeat (first|apply Kd.R_alloc|apply Kd.R_drewN|apply Kd.R_drew));exact Kd.R_mono HO_3.out (fun _ hk=>trivial),bb_⟩
mutual
def impl_Order_threeOne.l0 : Nat → List Int → Int → Int → Int → List Int → Option (List Int)
 | 0,_,_,_,_,_=>none
 | k + 1,x3,x13,x14,x315000,x315001=>if x14 < x13 then (if 0 ≤ x14 then (if x14 < (x315001.length : Int) then ((impl_members.f k (rd x315001 x14)).bind fun t319=>(impl_Order_threeOne.l1 k x3 x14 x13 x14 t319 (t319.length : Int) 0 x315000 x315001)) else (none)) else (none)) else (some ([] : List Int))
def impl_Order_threeOne.l1 : Nat → List Int → Int → Int → Int → List Int → Int → Int → Int → List Int → Option (List Int)
 | 0,_,_,_,_,_,_,_,_,_=>none
 | k + 1,x3,x4,x13,x14,x22,x23,x24,x315000,x315001=>if x24 < x23 then (if 0 ≤ x24 then (if x24 < (x22.length : Int) then (if 0 ≤ (rd x22 x24) then (if (rd x22 x24) < (x315001.length : Int) then ((impl_members.f k (rd x315001 (rd x22 x24))).bind fun t324=>(impl_Order_threeOne.l2 k x3 x4 (rd x22 x24) x13 x14 x22 x23 x24 t324 (t324.length : Int) 0 x315000 x315001)) else (none)) else (none)) else (none)) else (none)) else (impl_Order_threeOne.l0 k x3 x13 (wrap64 (x14 + 1)) x315000 x315001)
def impl_Order_threeOne.l2 : Nat → List Int → Int → Int → Int → Int → List Int → Int → Int → List Int → Int → Int → Int → List Int → Option (List Int)
 | 0,_,_,_,_,_,_,_,_,_,_,_,_,_=>none
 | k + 1,x3,x4,x6,x13,x14,x22,x23,x24,x33,x34,x35,x315000,x315001=>if x35 < x34 then (if 0 ≤ x35 then (if x35 < (x33.length : Int) then (if 0 ≤ x4 then (if x4 < (x3.length : Int) then (if 0 ≤ x6 then (if x6 < (x3.length : Int) then (if 0 ≤ (rd x33 x35) then (if (rd x33 x35) < (x3.length : Int) then (if (Go.bits .and .i64 (Go.bits .and .i64 (rd x3 x4) (rd x3 x6)) (rd x3 (rd x33 x35))) = 0 then (impl_Order_threeOne.l2 k x3 x4 x6 x13 x14 x22 x23 x24 x33 x34 (wrap64 (x35 + 1)) x315000 x315001) else ((impl_members.f k (Go.bits .and .i64 (Go.bits .and .i64 (rd x3 x4) (rd x3 x6)) (rd x3 (rd x33 x35)))).bind fun t331=>(if 0 < (t331.length : Int) then (some (([x4,x6,rd x33 x35,rd t331 0] : List Int))) else (none)))) else (none)) else (none)) else (none)) else (none)) else (none)) else (none)) else (none)) else (none)) else (impl_Order_threeOne.l1 k x3 x4 x13 x14 x22 x23 (wrap64 (x24 + 1)) x315000 x315001)
end
def impl_Order_threeOne.f (k : Nat) (a0_0 : Int) (l0_1 : List Int) : Option (List Int) := (impl_Order_indifferent.f k a0_0 l0_1).bind fun t315 => (impl_Order_threeOne.l0 k t315 a0_0 0 a0_0 l0_1)
set_option maxHeartbeats 8000000 in
set_option maxRecDepth 100000 in
theorem impl_Order_threeOne.calls (k : Nat) (a0_0 : Int) (A0_1 : Option Addr) (c0_1 : Nat) (l0_1 : List Int) (r : List Int) (w : World) (hr0_1 : Kd.C (Kd.int .i64) w A0_1 l0_1.length l0_1) (hc0_1 : l0_1.length ≤ c0_1) (hT : TabOK w) (h : impl_Order_threeOne.f k a0_0 l0_1 = some r) :
 Calls Tryd.prog 188 #[.agg #[.int .i64 a0_0,.slice A0_1 l0_1.length c0_1]] w fun e w'=>∃ v0_ : Value,e = .returned (v0_) ∧ Kd.R (Kd.int .i64) 3 w' w.heap.size (fun _=>True) v0_ r ∧ Below w.heap.size w w' ∧ (r = [] → v0_ = .slice none 0 0):=by
 have hu28:=Tryd.underlying28;have HT:=A_ hT;clear hT;have HR0_1:=A_ hr0_1;have HC0_1:=A_ hc0_1;clear hr0_1 hc0_1;have HB:=A_ (Below.refl w.heap.size w);have H : ((impl_Order_indifferent.f k a0_0 l0_1).bind fun t315=>(impl_Order_threeOne.l0 k t315 a0_0 0 a0_0 l0_1)) = some r:=h;clear h;replace H:=Option.bind_eq_some_iff.mp H;obtain ⟨t315,A20,H⟩:=H;replace H : (impl_Order_threeOne.l0 k t315 a0_0 0 a0_0 l0_1) = some r:=H;have A2:=A_ A20;clear A20;have H':=A_ H;clear H;go_enter Tryd.func188,Tryd.ntmps188
 go_wp2_with (first|((with_reducible refine gate_dst (N:=1) rfl ?_);refine box_event ?hg (N:=1) ?hd (cs:=#[.int .i64 a0_0,.slice A0_1 l0_1.length c0_1]) (t:=28) ?hr ?_;(case hd=>rfl);(case hg=>rfl);(case hr=>first|(go_simp;done)|(go_simp;rfl));intro gb314 hg w3 hbox hb;have BK314:=A_ (hbox);have GW314:=A_ ((by rw [hg];exact (below_size bb_) : w.heap.size ≤ gb314));have GE314:=A_ ((by rw [hg];exact (below_size bb_) : w.heap.size ≤ gb314));replace HB:=A_ (below_step bb_ hb);clear hb hbox hg;have hcz4_0 : w3.cell? ⟨gb314,0,none⟩ = some (.int .i64 a0_0):=blk_cell BK314.out 0;have hcz4_1 : w3.cell? ⟨gb314,1,none⟩ = some (.slice A0_1 l0_1.length c0_1):=blk_cell BK314.out 1;have hfz4_0:=blk_frozen BK314.out 0;have hfz4_1:=blk_frozen BK314.out 1)|(go_at_call 184;(with_reducible refine (impl_Order_indifferent.calls k a0_0 _ _ l0_1 t315 _ ?side1 ?side2 A2.out).mono ?_);(case side1=>exact cl_ (Kd.C_below HR0_1.out HB.out));(case side2=>exact HC0_1.out);rintro e w5 ⟨v316,rfl,ho0,hb⟩;have HO317:=A_ (Kd.R_lower ho0 (below_size bb_));replace BK314:=bz BK314 hb;replace HB:=A_ (below_step bb_ hb);(try clear hb);(try clear hb2);(try clear hk);(try clear hi);(try clear ho0);have hcz6_0 : w5.cell? ⟨gb314,0,none⟩ = some (.int .i64 a0_0):=blk_cell BK314.out 0;have hcz6_1 : w5.cell? ⟨gb314,1,none⟩ = some (.slice A0_1 l0_1.length c0_1):=blk_cell BK314.out 1;have hfz6_0:=blk_frozen BK314.out 0;have hfz6_1:=blk_frozen BK314.out 1))
 repeat (go_quiet (first|((with_reducible refine gate_dst (N:=1) rfl ?_);refine box_event ?hg (N:=1) ?hd (cs:=#[.int .i64 a0_0,.slice A0_1 l0_1.length c0_1]) (t:=28) ?hr ?_;(case hd=>rfl);(case hg=>rfl);(case hr=>first|(go_simp;done)|(go_simp;rfl));intro gb314 hg w3 hbox hb;have BK314:=A_ (hbox);have GW314:=A_ ((by rw [hg];exact (below_size bb_) : w.heap.size ≤ gb314));have GE314:=A_ ((by rw [hg];exact (below_size bb_) : w.heap.size ≤ gb314));replace HB:=A_ (below_step bb_ hb);clear hb hbox hg;have hcz4_0 : w3.cell? ⟨gb314,0,none⟩ = some (.int .i64 a0_0):=blk_cell BK314.out 0;have hcz4_1 : w3.cell? ⟨gb314,1,none⟩ = some (.slice A0_1 l0_1.length c0_1):=blk_cell BK314.out 1;have hfz4_0:=blk_frozen BK314.out 0;have hfz4_1:=blk_frozen BK314.out 1)|(go_at_call 184;(with_reducible refine (impl_Order_indifferent.calls k a0_0 _ _ l0_1 t315 _ ?side1 ?side2 A2.out).mono ?_);(case side1=>exact cl_ (Kd.C_below HR0_1.out HB.out));(case side2=>exact HC0_1.out);rintro e w5 ⟨v316,rfl,ho0,hb⟩;have HO317:=A_ (Kd.R_lower ho0 (below_size bb_));replace BK314:=bz BK314 hb;replace HB:=A_ (below_step bb_ hb);(try clear hb);(try clear hb2);(try clear hk);(try clear hi);(try clear ho0);have hcz6_0 : w5.cell? ⟨gb314,0,none⟩ = some (.int .i64 a0_0):=blk_cell BK314.out 0;have hcz6_1 : w5.cell? ⟨gb314,1,none⟩ = some (.slice A0_1 l0_1.length c0_1):=blk_cell BK314.out 1;have hfz6_0:=blk_frozen BK314.out 0;have hfz6_1:=blk_frozen BK314.out 1));try go_wp2_with (first|((with_reducible refine gate_dst (N:=1) rfl ?_);refine box_event ?hg (N:=1) ?hd (cs:=#[.int .i64 a0_0,.slice A0_1 l0_1.length c0_1]) (t:=28) ?hr ?_;(case hd=>rfl);(case hg=>rfl);(case hr=>first|(go_simp;done)|(go_simp;rfl));intro gb314 hg w3 hbox hb;have BK314:=A_ (hbox);have GW314:=A_ ((by rw [hg];exact (below_size bb_) : w.heap.size ≤ gb314));have GE314:=A_ ((by rw [hg];exact (below_size bb_) : w.heap.size ≤ gb314));replace HB:=A_ (below_step bb_ hb);clear hb hbox hg;have hcz4_0 : w3.cell? ⟨gb314,0,none⟩ = some (.int .i64 a0_0):=blk_cell BK314.out 0;have hcz4_1 : w3.cell? ⟨gb314,1,none⟩ = some (.slice A0_1 l0_1.length c0_1):=blk_cell BK314.out 1;have hfz4_0:=blk_frozen BK314.out 0;have hfz4_1:=blk_frozen BK314.out 1)|(go_at_call 184;(with_reducible refine (impl_Order_indifferent.calls k a0_0 _ _ l0_1 t315 _ ?side1 ?side2 A2.out).mono ?_);(case side1=>exact cl_ (Kd.C_below HR0_1.out HB.out));(case side2=>exact HC0_1.out);rintro e w5 ⟨v316,rfl,ho0,hb⟩;have HO317:=A_ (Kd.R_lower ho0 (below_size bb_));replace BK314:=bz BK314 hb;replace HB:=A_ (below_step bb_ hb);(try clear hb);(try clear hb2);(try clear hk);(try clear hi);(try clear ho0);have hcz6_0 : w5.cell? ⟨gb314,0,none⟩ = some (.int .i64 a0_0):=blk_cell BK314.out 0;have hcz6_1 : w5.cell? ⟨gb314,1,none⟩ = some (.slice A0_1 l0_1.length c0_1):=blk_cell BK314.out 1;have hfz6_0:=blk_frozen BK314.out 0;have hfz6_1:=blk_frozen BK314.out 1)))
 go_loopg [14] k (fun kq v14 w'=>∃ (x14_1 : Int),v14 = .int .i64 x14_1 ∧ Aside0 (impl_Order_threeOne.l0 kq t315 a0_0 x14_1 a0_0 l0_1 = some r) ∧ Aside0 (kq ≤ k) ∧ Aside0 (Kd.R (Kd.int .i64) 3 w' w.heap.size (fun _=>True) v316 t315) ∧ Aside0 (w'.heap[gb314]? = some (.cells #[.int .i64 a0_0,(.slice A0_1 l0_1.length c0_1)] 28 (0,0))) ∧ Aside0 (Below w.heap.size w w'))
 case atStart=>exact ⟨(0),(by first|rfl|(simp;done)|(simp [*];done)),H',⟨Nat.le_refl _⟩,⟨by (with_reducible repeat (first|apply Kd.R_alloc|apply Kd.R_drewN|apply Kd.R_drew));exact HO317.out⟩,⟨bl_ BK314⟩,⟨bb_⟩⟩
 case round =>
  clear H';try clear c1
  try clear p2
  try clear hcz4_0
  try clear hcz4_1
  try clear hcz6_0
  try clear hcz6_1
  try clear hfz4_0
  try clear hfz4_1
  try clear hfz6_0
  try clear hfz6_1
  obtain ⟨x14_1,rfl,HA,HK1,HO_3,BK314,HB⟩:=hrel;cases gk with
  | zero => exact absurd HA.out (by simp [impl_Order_threeOne.l0])
  | succ k1 =>
   have H:=HA.out;clear HA;simp only [impl_Order_threeOne.l0] at H
   by_cases c7 : x14_1 < a0_0
   ·rw [if_pos c7] at H;have c7b0 : decide (x14_1 < a0_0) = true:=decide_eq_true c7;clear c7;by_cases c8 : 0 ≤ x14_1
    ·rw [if_pos c8] at H;have c8b0 : decide (0 ≤ x14_1) = true:=decide_eq_true c8;clear c8;by_cases c9 : x14_1 < (l0_1.length : Int)
     ·rw [if_pos c9] at H;have c9b0 : decide (x14_1 < (l0_1.length : Int)) = true:=decide_eq_true c9;clear c9;replace H:=Option.bind_eq_some_iff.mp H;obtain ⟨t319,A100,H⟩:=H;replace H : (impl_Order_threeOne.l1 k1 t315 x14_1 a0_0 x14_1 t319 (t319.length : Int) 0 a0_0 l0_1) = some r:=H;have A10:=A_ A100;clear A100;have H':=A_ H;clear H;have hcz11_0 : wr.cell? ⟨gb314,0,none⟩ = some (.int .i64 a0_0):=blk_cell BK314.out 0;have hcz11_1 : wr.cell? ⟨gb314,1,none⟩ = some (.slice A0_1 l0_1.length c0_1):=blk_cell BK314.out 1;have hfz11_0:=blk_frozen BK314.out 0;have hfz11_1:=blk_frozen BK314.out 1;have p318 : 0 ≤ (x14_1 : Int):=of_decide_eq_true (by first|(with_reducible assumption)|assumption);have q318 : x14_1 < (l0_1.length : Int):=of_decide_eq_true (by first|(with_reducible assumption)|assumption);obtain ⟨ad318,e318,hx318_0⟩:=Kd.at_int HR0_1.out x14_1 p318 q318;cases e318
      (try replace hx318_0:=(HB.out.cell (World.block_lt_of_cell? w _ hx318_0)).trans hx318_0);replace p318:=eq_true p318;replace q318:=eq_true q318;go_wp2_with (first|(go_at_call 124;(with_reducible refine (impl_members.calls k1 (rd l0_1 x14_1) t319 _ ?side1 A10.out).mono ?_);(case side1=>first|exact HT.out|exact HT.out.below bb_|(repeat (first|exact HT.out|apply TabOK.drewN|apply TabOK.drew|apply TabOK.alloc)));rintro e w12 ⟨v320,rfl,ho0,hb⟩;have HO321:=A_ (Kd.R_lower (Kd.R_new' ho0 (Kd.R_lt (rl_ HO_3))) (below_size bb_));replace HO_3:=A_ (Kd.R_elder' (rl_ HO_3) (Kd.R_base ho0) hb);replace BK314:=bz BK314 hb;replace HB:=A_ (below_step bb_ hb);(try clear hb);(try clear hb2);(try clear hk);(try clear hi);(try clear ho0);obtain ⟨Ao13,co13,eo13⟩:=Kd.R_slice HO321.out;subst eo13))
      repeat (go_quiet (first|(go_at_call 124;(with_reducible refine (impl_members.calls k1 (rd l0_1 x14_1) t319 _ ?side1 A10.out).mono ?_);(case side1=>first|exact HT.out|exact HT.out.below bb_|(repeat (first|exact HT.out|apply TabOK.drewN|apply TabOK.drew|apply TabOK.alloc)));rintro e w12 ⟨v320,rfl,ho0,hb⟩;have HO321:=A_ (Kd.R_lower (Kd.R_new' ho0 (Kd.R_lt (rl_ HO_3))) (below_size bb_));replace HO_3:=A_ (Kd.R_elder' (rl_ HO_3) (Kd.R_base ho0) hb);replace BK314:=bz BK314 hb;replace HB:=A_ (below_step bb_ hb);(try clear hb);(try clear hb2);(try clear hk);(try clear hi);(try clear ho0);obtain ⟨Ao13,co13,eo13⟩:=Kd.R_slice HO321.out;subst eo13));try go_wp2_with (first|(go_at_call 124;(with_reducible refine (impl_members.calls k1 (rd l0_1 x14_1) t319 _ ?side1 A10.out).mono ?_);(case side1=>first|exact HT.out|exact HT.out.below bb_|(repeat (first|exact HT.out|apply TabOK.drewN|apply TabOK.drew|apply TabOK.alloc)));rintro e w12 ⟨v320,rfl,ho0,hb⟩;have HO321:=A_ (Kd.R_lower (Kd.R_new' ho0 (Kd.R_lt (rl_ HO_3))) (below_size bb_));replace HO_3:=A_ (Kd.R_elder' (rl_ HO_3) (Kd.R_base ho0) hb);replace BK314:=bz BK314 hb;replace HB:=A_ (below_step bb_ hb);(try clear hb);(try clear hb2);(try clear hk);(try clear hi);(try clear ho0);obtain ⟨Ao13,co13,eo13⟩:=Kd.R_slice HO321.out;subst eo13)))
      go_loopg [24] k1 (fun kq v24 w'=>∃ (x24_2 : Int),v24 = .int .i64 x24_2 ∧ Aside0 (impl_Order_threeOne.l1 kq t315 x14_1 a0_0 x14_1 t319 (t319.length : Int) x24_2 a0_0 l0_1 = some r) ∧ Aside0 (kq ≤ k1) ∧ Aside0 (Kd.R (Kd.int .i64) 3 w' w.heap.size (fun k_=>some k_ ≠ ((.slice Ao13 t319.length co13) : Value).ownBlock) v316 t315) ∧ Aside0 (Kd.R (Kd.int .i64) 3 w' w.heap.size (fun k_=>some k_ ≠ (v316 : Value).ownBlock) (.slice Ao13 t319.length co13) t319) ∧ Aside0 (w'.heap[gb314]? = some (.cells #[.int .i64 a0_0,(.slice (some ad318) l0_1.length c0_1)] 28 (0,0))) ∧ Aside0 (Below w.heap.size w w'))
      case atStart=>exact ⟨(0),(by first|rfl|(simp;done)|(simp [*];done)),H',⟨Nat.le_refl _⟩,⟨by (with_reducible repeat (first|apply Kd.R_alloc|apply Kd.R_drewN|apply Kd.R_drew));exact Kd.R_mono HO_3.out (fun _ hk=>hk.2)⟩,⟨by (with_reducible repeat (first|apply Kd.R_alloc|apply Kd.R_drewN|apply Kd.R_drew));exact Kd.R_mono HO321.out (fun _ hk=>hk.2)⟩,⟨bl_ BK314⟩,⟨bb_⟩⟩
      case round =>
       clear H';try clear c1
       try clear p2
       try clear p3
       try clear q3
       try clear hx3
       try clear c7
       try clear c7b0
       try clear c8
       try clear c8b0
       try clear c9
       try clear c9b0
       try clear hcz11_0
       try clear hcz11_1
       try clear hcz4_0
       try clear hcz4_1
       try clear hcz6_0
       try clear hcz6_1
       try clear hfz11_0
       try clear hfz11_1
       try clear hfz4_0
       try clear hfz4_1
       try clear hfz6_0
       try clear hfz6_1
       try clear hx318_0
       try clear p2
       try clear p318
       try clear q318
       obtain ⟨x24_2,rfl,HA,HK2,HO_3,HO_22,BK314,HB⟩:=hrel;cases gk with
       | zero=>exact absurd HA.out (by simp [impl_Order_threeOne.l1])
       | succ k2 =>
        have H:=HA.out;clear HA;simp only [impl_Order_threeOne.l1] at H
        by_cases c14 : x24_2 < (t319.length : Int)
        ·rw [if_pos c14] at H;have c14b0 : decide (x24_2 < (t319.length : Int)) = true:=decide_eq_true c14;clear c14;by_cases c15 : 0 ≤ x24_2
         ·rw [if_pos c15] at H;have c15b0 : decide (0 ≤ x24_2) = true:=decide_eq_true c15;clear c15;by_cases c16 : x24_2 < (t319.length : Int)
          ·rw [if_pos c16] at H;have c16b0 : decide (x24_2 < (t319.length : Int)) = true:=decide_eq_true c16;clear c16;by_cases c17 : 0 ≤ (rd t319 x24_2)
           ·rw [if_pos c17] at H;have c17b0 : decide (0 ≤ (rd t319 x24_2)) = true:=decide_eq_true c17;clear c17;by_cases c18 : (rd t319 x24_2) < (l0_1.length : Int)
            ·rw [if_pos c18] at H;have c18b0 : decide ((rd t319 x24_2) < (l0_1.length : Int)) = true:=decide_eq_true c18;clear c18;replace H:=Option.bind_eq_some_iff.mp H;obtain ⟨t324,A190,H⟩:=H;replace H : (impl_Order_threeOne.l2 k2 t315 x14_1 (rd t319 x24_2) a0_0 x14_1 t319 (t319.length : Int) x24_2 t324 (t324.length : Int) 0 a0_0 l0_1) = some r:=H;have A19:=A_ A190;clear A190;have H':=A_ H;clear H;have p322 : 0 ≤ (x24_2 : Int):=of_decide_eq_true (by first|(with_reducible assumption)|assumption);have q322 : x24_2 < (t319.length : Int):=of_decide_eq_true (by first|(with_reducible assumption)|assumption);obtain ⟨ad322,e322,hx322_0⟩:=Kd.at_int (Kd.R_reads' HO_22.out).2.2 x24_2 p322 q322;cases e322
             replace p322:=eq_true p322;replace q322:=eq_true q322;have hcz20_0 : wr.cell? ⟨gb314,0,none⟩ = some (.int .i64 a0_0):=blk_cell BK314.out 0;have hcz20_1 : wr.cell? ⟨gb314,1,none⟩ = some (.slice (some ad318) l0_1.length c0_1):=blk_cell BK314.out 1;have hfz20_0:=blk_frozen BK314.out 0;have hfz20_1:=blk_frozen BK314.out 1;have p323 : 0 ≤ ((rd t319 x24_2) : Int):=of_decide_eq_true (by first|(with_reducible assumption)|assumption);have q323 : (rd t319 x24_2) < (l0_1.length : Int):=of_decide_eq_true (by first|(with_reducible assumption)|assumption);obtain ⟨ad323,e323,hx323_0⟩:=Kd.at_int HR0_1.out (rd t319 x24_2) p323 q323;obtain rfl : ad318 = ad323:=(by injection e323);(try replace hx323_0:=(HB.out.cell (World.block_lt_of_cell? w _ hx323_0)).trans hx323_0);replace p323:=eq_true p323;replace q323:=eq_true q323;go_wp2_with (first|(go_at_call 124;(with_reducible refine (impl_members.calls k2 (rd l0_1 (rd t319 x24_2)) t324 _ ?side1 A19.out).mono ?_);(case side1=>first|exact HT.out|exact HT.out.below bb_|(repeat (first|exact HT.out|apply TabOK.drewN|apply TabOK.drew|apply TabOK.alloc)));rintro e w21 ⟨v325,rfl,ho0,hb⟩;have HO326:=A_ (Kd.R_lower (Kd.R_new' (Kd.R_new' ho0 (Kd.R_lt (rl_ HO_3))) (Kd.R_lt (rl_ HO_22))) (below_size bb_));replace HO_3:=A_ (Kd.R_elder' (rl_ HO_3) (Kd.R_base ho0) hb);replace HO_22:=A_ (Kd.R_elder' (rl_ HO_22) (Kd.R_base ho0) hb);replace BK314:=bz BK314 hb;replace HB:=A_ (below_step bb_ hb);(try clear hb);(try clear hb2);(try clear hk);(try clear hi);(try clear ho0);obtain ⟨Ao22,co22,eo22⟩:=Kd.R_slice HO326.out;subst eo22))
             repeat (go_quiet (first|(go_at_call 124;(with_reducible refine (impl_members.calls k2 (rd l0_1 (rd t319 x24_2)) t324 _ ?side1 A19.out).mono ?_);(case side1=>first|exact HT.out|exact HT.out.below bb_|(repeat (first|exact HT.out|apply TabOK.drewN|apply TabOK.drew|apply TabOK.alloc)));rintro e w21 ⟨v325,rfl,ho0,hb⟩;have HO326:=A_ (Kd.R_lower (Kd.R_new' (Kd.R_new' ho0 (Kd.R_lt (rl_ HO_3))) (Kd.R_lt (rl_ HO_22))) (below_size bb_));replace HO_3:=A_ (Kd.R_elder' (rl_ HO_3) (Kd.R_base ho0) hb);replace HO_22:=A_ (Kd.R_elder' (rl_ HO_22) (Kd.R_base ho0) hb);replace BK314:=bz BK314 hb;replace HB:=A_ (below_step bb_ hb);(try clear hb);(try clear hb2);(try clear hk);(try clear hi);(try clear ho0);obtain ⟨Ao22,co22,eo22⟩:=Kd.R_slice HO326.out;subst eo22));try go_wp2_with (first|(go_at_call 124;(with_reducible refine (impl_members.calls k2 (rd l0_1 (rd t319 x24_2)) t324 _ ?side1 A19.out).mono ?_);(case side1=>first|exact HT.out|exact HT.out.below bb_|(repeat (first|exact HT.out|apply TabOK.drewN|apply TabOK.drew|apply TabOK.alloc)));rintro e w21 ⟨v325,rfl,ho0,hb⟩;have HO326:=A_ (Kd.R_lower (Kd.R_new' (Kd.R_new' ho0 (Kd.R_lt (rl_ HO_3))) (Kd.R_lt (rl_ HO_22))) (below_size bb_));replace HO_3:=A_ (Kd.R_elder' (rl_ HO_3) (Kd.R_base ho0) hb);replace HO_22:=A_ (Kd.R_elder' (rl_ HO_22) (Kd.R_base ho0) hb);replace BK314:=bz BK314 hb;replace HB:=A_ (below_step bb_ hb);(try clear hb);(try clear hb2);(try clear hk);(try clear hi);(try clear ho0);obtain ⟨Ao22,co22,eo22⟩:=Kd.R_slice HO326.out;subst eo22)))
             go_loopg [35] k2 (fun kq v35 w'=>∃ (x35_3 : Int),v35 = .int .i64 x35_3 ∧ Aside0 (impl_Order_threeOne.l2 kq t315 x14_1 (rd t319 x24_2) a0_0 x14_1 t319 (t319.length : Int) x24_2 t324 (t324.length : Int) x35_3 a0_0 l0_1 = some r) ∧ Aside0 (kq ≤ k2) ∧ Aside0 (Kd.R (Kd.int .i64) 3 w' w.heap.size (fun k_=>some k_ ≠ ((.slice (some ad322) t319.length co13) : Value).ownBlock ∧ some k_ ≠ ((.slice Ao22 t324.length co22) : Value).ownBlock) v316 t315) ∧ Aside0 (Kd.R (Kd.int .i64) 3 w' w.heap.size (fun k_=>some k_ ≠ (v316 : Value).ownBlock ∧ some k_ ≠ ((.slice Ao22 t324.length co22) : Value).ownBlock) (.slice (some ad322) t319.length co13) t319) ∧ Aside0 (Kd.R (Kd.int .i64) 3 w' w.heap.size (fun k_=>some k_ ≠ (v316 : Value).ownBlock ∧ some k_ ≠ ((.slice (some ad322) t319.length co13) : Value).ownBlock) (.slice Ao22 t324.length co22) t324) ∧ Aside0 (w'.heap[gb314]? = some (.cells #[.int .i64 a0_0,(.slice (some ad318) l0_1.length c0_1)] 28 (0,0))) ∧ Aside0 (Below w.heap.size w w'))
             case atStart=>exact ⟨(0),(by first|rfl|(simp;done)|(simp [*];done)),H',⟨Nat.le_refl _⟩,⟨by (with_reducible repeat (first|apply Kd.R_alloc|apply Kd.R_drewN|apply Kd.R_drew));exact HO_3.out⟩,⟨by (with_reducible repeat (first|apply Kd.R_alloc|apply Kd.R_drewN|apply Kd.R_drew));exact HO_22.out⟩,⟨by (with_reducible repeat (first|apply Kd.R_alloc|apply Kd.R_drewN|apply Kd.R_drew));exact Kd.R_mono HO326.out (fun _ hk=>⟨hk.1.2,hk.2⟩)⟩,⟨bl_ BK314⟩,⟨bb_⟩⟩
             case round =>
              clear H';try clear c1
              try clear p2
              try clear p3
              try clear q3
              try clear hx3
              try clear c7
              try clear c7b0
              try clear c8
              try clear c8b0
              try clear c9
              try clear c9b0
              try clear c14
              try clear c14b0
              try clear c15
              try clear c15b0
              try clear c16
              try clear c16b0
              try clear c17
              try clear c17b0
              try clear c18
              try clear c18b0
              try clear hcz11_0
              try clear hcz11_1
              try clear hcz20_0
              try clear hcz20_1
              try clear hcz4_0
              try clear hcz4_1
              try clear hcz6_0
              try clear hcz6_1
              try clear hfz11_0
              try clear hfz11_1
              try clear hfz20_0
              try clear hfz20_1
              try clear hfz4_0
              try clear hfz4_1
              try clear hfz6_0
              try clear hfz6_1
              try clear hx318_0
              try clear hx322_0
              try clear hx323_0
              try clear p2
              try clear p3
              try clear p318
              try clear p322
              try clear p323
              try clear q3
              try clear q318
              try clear q322
              try clear q323
              obtain ⟨x35_3,rfl,HA,HK3,HO_3,HO_22,HO_33,BK314,HB⟩:=hrel;cases gk with
              | zero=>exact absurd HA.out (by simp [impl_Order_threeOne.l2])
              | succ k3 =>
               have H:=HA.out;clear HA;simp only [impl_Order_threeOne.l2] at H
               by_cases c23 : x35_3 < (t324.length : Int)
               ·rw [if_pos c23] at H;have c23b0 : decide (x35_3 < (t324.length : Int)) = true:=decide_eq_true c23;clear c23;by_cases c24 : 0 ≤ x35_3
                ·rw [if_pos c24] at H;have c24b0 : decide (0 ≤ x35_3) = true:=decide_eq_true c24;clear c24;by_cases c25 : x35_3 < (t324.length : Int)
                 ·rw [if_pos c25] at H;have c25b0 : decide (x35_3 < (t324.length : Int)) = true:=decide_eq_true c25;clear c25;by_cases c26 : 0 ≤ x14_1
                  ·rw [if_pos c26] at H;have c26b0 : decide (0 ≤ x14_1) = true:=decide_eq_true c26;clear c26;by_cases c27 : x14_1 < (t315.length : Int)
                   ·rw [if_pos c27] at H;have c27b0 : decide (x14_1 < (t315.length : Int)) = true:=decide_eq_true c27;clear c27;by_cases c28 : 0 ≤ (rd t319 x24_2)
                    ·rw [if_pos c28] at H;have c28b0 : decide (0 ≤ (rd t319 x24_2)) = true:=decide_eq_true c28;clear c28;by_cases c29 : (rd t319 x24_2) < (t315.length : Int)
                     ·rw [if_pos c29] at H;have c29b0 : decide ((rd t319 x24_2) < (t315.length : Int)) = true:=decide_eq_true c29;clear c29;by_cases c30 : 0 ≤ (rd t324 x35_3)
                      ·rw [if_pos c30] at H;have c30b0 : decide (0 ≤ (rd t324 x35_3)) = true:=decide_eq_true c30;clear c30;by_cases c31 : (rd t324 x35_3) < (t315.length : Int)
                       ·rw [if_pos c31] at H;have c31b0 : decide ((rd t324 x35_3) < (t315.length : Int)) = true:=decide_eq_true c31;clear c31;by_cases c32 : (Go.bits .and .i64 (Go.bits .and .i64 (rd t315 x14_1) (rd t315 (rd t319 x24_2))) (rd t315 (rd t324 x35_3))) = 0
                        ·rw [if_pos c32] at H;have c32b0 : ((Go.bits .and .i64 (Go.bits .and .i64 (rd t315 x14_1) (rd t315 (rd t319 x24_2))) (rd t315 (rd t324 x35_3))) == 0) = true:=beq_iff_eq.mpr c32;have c32b1 : ((Go.bits .and .i64 (Go.bits .and .i64 (rd t315 x14_1) (rd t315 (rd t319 x24_2))) (rd t315 (rd t324 x35_3))) != 0) = false:=bne_eq_false_iff_eq.mpr c32;clear c32;have H':=A_ H;clear H;have p327 : 0 ≤ (x35_3 : Int):=of_decide_eq_true (by first|(with_reducible assumption)|assumption);have q327 : x35_3 < (t324.length : Int):=of_decide_eq_true (by first|(with_reducible assumption)|assumption);obtain ⟨ad327,e327,hx327_0⟩:=Kd.at_int (Kd.R_reads' HO_33.out).2.2 x35_3 p327 q327;cases e327
                         replace p327:=eq_true p327;replace q327:=eq_true q327;obtain ⟨Ao33,co33,eo33⟩:=Kd.R_slice HO_3.out;subst eo33;have p328 : 0 ≤ (x14_1 : Int):=of_decide_eq_true (by first|(with_reducible assumption)|assumption);have q328 : x14_1 < (t315.length : Int):=of_decide_eq_true (by first|(with_reducible assumption)|assumption);obtain ⟨ad328,e328,hx328_0⟩:=Kd.at_int (Kd.R_reads' HO_3.out).2.2 x14_1 p328 q328;cases e328
                         replace p328:=eq_true p328;replace q328:=eq_true q328;have p329 : 0 ≤ ((rd t319 x24_2) : Int):=of_decide_eq_true (by first|(with_reducible assumption)|assumption);have q329 : (rd t319 x24_2) < (t315.length : Int):=of_decide_eq_true (by first|(with_reducible assumption)|assumption);obtain ⟨ad329,e329,hx329_0⟩:=Kd.at_int (Kd.R_reads' HO_3.out).2.2 (rd t319 x24_2) p329 q329;obtain rfl : ad328 = ad329:=(by injection e329);replace p329:=eq_true p329;replace q329:=eq_true q329;have p330 : 0 ≤ ((rd t324 x35_3) : Int):=of_decide_eq_true (by first|(with_reducible assumption)|assumption);have q330 : (rd t324 x35_3) < (t315.length : Int):=of_decide_eq_true (by first|(with_reducible assumption)|assumption);obtain ⟨ad330,e330,hx330_0⟩:=Kd.at_int (Kd.R_reads' HO_3.out).2.2 (rd t324 x35_3) p330 q330;obtain rfl : ad328 = ad330:=(by injection e330);replace p330:=eq_true p330;replace q330:=eq_true q330;go_wp2
                         repeat (go_quiet (fail);try go_wp2)
                         go_roundg k3
                         case measure=>have:=HK1.out;have:=HK2.out;have:=HK3.out;omega
                         case rel=>exact ⟨(wrap64 (x35_3 + 1)),(by first|rfl|(simp;done)|(simp [*];done)),H',⟨by have:=HK1.out;have:=HK2.out;have:=HK3.out;omega⟩,⟨by (with_reducible repeat (first|apply Kd.R_alloc|apply Kd.R_drewN|apply Kd.R_drew));exact HO_3.out⟩,⟨by (with_reducible repeat (first|apply Kd.R_alloc|apply Kd.R_drewN|apply Kd.R_drew));exact HO_22.out⟩,⟨by (with_reducible repeat (first|apply Kd.R_alloc|apply Kd.R_drewN|apply Kd.R_drew));exact HO_33.out⟩,⟨bl_ BK314⟩,⟨bb_⟩⟩
                        ·rw [if_neg c32] at H;have c32b0 : ((Go.bits .and .i64 (Go.bits .and .i64 (rd t315 x14_1) (rd t315 (rd t319 x24_2))) (rd t315 (rd t324 x35_3))) == 0) = false:=beq_eq_false_iff_ne.mpr c32;have c32b1 : ((Go.bits .and .i64 (Go.bits .and .i64 (rd t315 x14_1) (rd t315 (rd t319 x24_2))) (rd t315 (rd t324 x35_3))) != 0) = true:=bne_iff_ne.mpr c32;replace H:=Option.bind_eq_some_iff.mp H;obtain ⟨t331,A340,H⟩:=H;replace H : (if 0 < (t331.length : Int) then (some (([x14_1,(rd t319 x24_2),rd t324 x35_3,rd t331 0] : List Int))) else (none)) = some r:=H;have A34:=A_ A340;clear A340;by_cases c35 : 0 < (t331.length : Int)
                         ·rw [if_pos c35] at H;have c35b0 : decide (0 < (t331.length : Int)) = true:=decide_eq_true c35;have c35b1 : decide (0 < t331.length) = true:=decide_eq_true (by omega);clear c35;obtain ⟨y335,hy335⟩ : ∃ y_ : List Int,y_ = (([x14_1,(rd t319 x24_2),rd t324 x35_3,rd t331 0] : List Int)):=⟨_,rfl⟩;replace H : (some y335) = some r:=by first|(rw [hy335];with_reducible exact H)|(have H2_:=(Option.bind_some _ _).symm.trans H;rw [hy335];with_reducible exact H2_)|(have H2_:=(Option.bind_some _ _).symm.trans H;with_reducible exact H2_)|with_reducible exact H|(rw [hy335];exact H)|exact H
                          have Ny335:=A_ hy335;clear hy335;obtain rfl:=Option.some.inj H;have p327 : 0 ≤ (x35_3 : Int):=of_decide_eq_true (by first|(with_reducible assumption)|assumption);have q327 : x35_3 < (t324.length : Int):=of_decide_eq_true (by first|(with_reducible assumption)|assumption);obtain ⟨ad327,e327,hx327_0⟩:=Kd.at_int (Kd.R_reads' HO_33.out).2.2 x35_3 p327 q327;cases e327
                          replace p327:=eq_true p327;replace q327:=eq_true q327;obtain ⟨Ao36,co36,eo36⟩:=Kd.R_slice HO_3.out;subst eo36;have p328 : 0 ≤ (x14_1 : Int):=of_decide_eq_true (by first|(with_reducible assumption)|assumption);have q328 : x14_1 < (t315.length : Int):=of_decide_eq_true (by first|(with_reducible assumption)|assumption);obtain ⟨ad328,e328,hx328_0⟩:=Kd.at_int (Kd.R_reads' HO_3.out).2.2 x14_1 p328 q328;cases e328
                          replace p328:=eq_true p328;replace q328:=eq_true q328;have p329 : 0 ≤ ((rd t319 x24_2) : Int):=of_decide_eq_true (by first|(with_reducible assumption)|assumption);have q329 : (rd t319 x24_2) < (t315.length : Int):=of_decide_eq_true (by first|(with_reducible assumption)|assumption);obtain ⟨ad329,e329,hx329_0⟩:=Kd.at_int (Kd.R_reads' HO_3.out).2.2 (rd t319 x24_2) p329 q329;obtain rfl : ad328 = ad329:=(by injection e329);replace p329:=eq_true p329;replace q329:=eq_true q329;have p330 : 0 ≤ ((rd t324 x35_3) : Int):=of_decide_eq_true (by first|(with_reducible assumption)|assumption);have q330 : (rd t324 x35_3) < (t315.length : Int):=of_decide_eq_true (by first|(with_reducible assumption)|assumption);obtain ⟨ad330,e330,hx330_0⟩:=Kd.at_int (Kd.R_reads' HO_3.out).2.2 (rd t324 x35_3) p330 q330;obtain rfl : ad328 = ad330:=(by injection e330);replace p330:=eq_true p330;replace q330:=eq_true q330;go_wp2_with (first|(go_at_call 124;(with_reducible refine (impl_members.calls k3 (Go.bits .and .i64 (Go.bits .and .i64 (rd t315 x14_1) (rd t315 (rd t319 x24_2))) (rd t315 (rd t324 x35_3))) t331 _ ?side1 A34.out).mono ?_);(case side1=>first|exact HT.out|exact HT.out.below bb_|(repeat (first|exact HT.out|apply TabOK.drewN|apply TabOK.drew|apply TabOK.alloc)));rintro e w37 ⟨v332,rfl,ho0,hb⟩;have HO333:=A_ (Kd.R_lower (Kd.R_new' (Kd.R_new' (Kd.R_new' ho0 (Kd.R_lt (rl_ HO_3))) (Kd.R_lt (rl_ HO_22))) (Kd.R_lt (rl_ HO_33))) (below_size bb_));replace HO_3:=A_ (Kd.R_elder' (rl_ HO_3) (Kd.R_base ho0) hb);replace HO_22:=A_ (Kd.R_elder' (rl_ HO_22) (Kd.R_base ho0) hb);replace HO_33:=A_ (Kd.R_elder' (rl_ HO_33) (Kd.R_base ho0) hb);replace BK314:=bz BK314 hb;replace HB:=A_ (below_step bb_ hb);(try clear hb);(try clear hb2);(try clear hk);(try clear hi);(try clear ho0);obtain ⟨Ao38,co38,eo38⟩:=Kd.R_slice HO333.out;subst eo38;have p334 : 0 ≤ (0 : Int):=(by omega);have q334 : 0 < (t331.length : Int):=of_decide_eq_true (by first|(with_reducible assumption)|assumption);obtain ⟨ad334,e334,hx334_0⟩:=Kd.at_int (Kd.R_reads' HO333.out).2.2 0 p334 q334;cases e334;have qi334 : (0 < t331.length) = True:=eq_true (by omega);(try rw [show ((0 : Int)).toNat = 0 from rfl] at hx334_0);(try rw [Addr.add_zero'] at hx334_0);replace p334:=eq_true p334;replace q334:=eq_true q334)|((with_reducible refine gate_dst (N:=62) rfl ?_);refine Kd.R_lit (Kd.int .i64) _ 3 ?hg (N:=62) ?hd (xs:=([x14_1,(rd t319 x24_2),rd t324 x35_3,rd t331 0] : List Int)) (inner:=[.int .i64 x14_1,.int .i64 (rd t319 x24_2),.int .i64 (rd t324 x35_3),.int .i64 (rd t331 0)]) (ok:=fun _=>True) (okp:=fun _=>True) ?hr ?hp (fun _ hk=>hk) trivial (Below.refl _ _) (Nat.le_refl _) (by simp) ?_;(case hd=>rfl);(case hg=>rfl);(case hr=>first|(go_simp;done)|(go_simp;rfl));(case hp=>exact (Reps.one (show Kd.M (Kd.int .i64) _ _ _ x14_1 [.int .i64 x14_1] from rfl) (Reps.one (show Kd.M (Kd.int .i64) _ _ _ (rd t319 x24_2) [.int .i64 (rd t319 x24_2)] from rfl) (Reps.one (show Kd.M (Kd.int .i64) _ _ _ (rd t324 x35_3) [.int .i64 (rd t324 x35_3)] from rfl) (Reps.one (show Kd.M (Kd.int .i64) _ _ _ (rd t331 0) [.int .i64 (rd t331 0)] from rfl) (Reps.none _ _))))));intro v336 w39 ho40 hb hg_ hnew_;clear hg_ hnew_;(first|rw [← Ny335.out] at ho40|(simp only [Int.reduceToNat] at ho40;rw [← Ny335.out] at ho40));have HO337:=A_ (Kd.R_lower (Kd.R_new' (Kd.R_new' (Kd.R_new' (Kd.R_new' ho40 (Kd.R_lt (rl_ HO_3))) (Kd.R_lt (rl_ HO_22))) (Kd.R_lt (rl_ HO_33))) (Kd.R_lt (rl_ HO333))) (below_size bb_));replace HO_3:=A_ (Kd.R_elder' (rl_ HO_3) (Kd.R_base ho40) hb);replace HO_22:=A_ (Kd.R_elder' (rl_ HO_22) (Kd.R_base ho40) hb);replace HO_33:=A_ (Kd.R_elder' (rl_ HO_33) (Kd.R_base ho40) hb);replace HO333:=A_ (Kd.R_elder' (rl_ HO333) (Kd.R_base ho40) hb);replace BK314:=bz BK314 hb;replace HB:=A_ (below_step bb_ hb);clear hb ho40))
                          repeat (go_quiet (first|(go_at_call 124;(with_reducible refine (impl_members.calls k3 (Go.bits .and .i64 (Go.bits .and .i64 (rd t315 x14_1) (rd t315 (rd t319 x24_2))) (rd t315 (rd t324 x35_3))) t331 _ ?side1 A34.out).mono ?_);(case side1=>first|exact HT.out|exact HT.out.below bb_|(repeat (first|exact HT.out|apply TabOK.drewN|apply TabOK.drew|apply TabOK.alloc)));rintro e w37 ⟨v332,rfl,ho0,hb⟩;have HO333:=A_ (Kd.R_lower (Kd.R_new' (Kd.R_new' (Kd.R_new' ho0 (Kd.R_lt (rl_ HO_3))) (Kd.R_lt (rl_ HO_22))) (Kd.R_lt (rl_ HO_33))) (below_size bb_));replace HO_3:=A_ (Kd.R_elder' (rl_ HO_3) (Kd.R_base ho0) hb);replace HO_22:=A_ (Kd.R_elder' (rl_ HO_22) (Kd.R_base ho0) hb);replace HO_33:=A_ (Kd.R_elder' (rl_ HO_33) (Kd.R_base ho0) hb);replace BK314:=bz BK314 hb;replace HB:=A_ (below_step bb_ hb);(try clear hb);(try clear hb2);(try clear hk);(try clear hi);(try clear ho0);obtain ⟨Ao38,co38,eo38⟩:=Kd.R_slice HO333.out;subst eo38;have p334 : 0 ≤ (0 : Int):=(by omega);have q334 : 0 < (t331.length : Int):=of_decide_eq_true (by first|(with_reducible assumption)|assumption);obtain ⟨ad334,e334,hx334_0⟩:=Kd.at_int (Kd.R_reads' HO333.out).2.2 0 p334 q334;cases e334;have qi334 : (0 < t331.length) = True:=eq_true (by omega);(try rw [show ((0 : Int)).toNat = 0 from rfl] at hx334_0);(try rw [Addr.add_zero'] at hx334_0);replace p334:=eq_true p334;replace q334:=eq_true q334)|((with_reducible refine gate_dst (N:=62) rfl ?_);refine Kd.R_lit (Kd.int .i64) _ 3 ?hg (N:=62) ?hd (xs:=([x14_1,(rd t319 x24_2),rd t324 x35_3,rd t331 0] : List Int)) (inner:=[.int .i64 x14_1,.int .i64 (rd t319 x24_2),.int .i64 (rd t324 x35_3),.int .i64 (rd t331 0)]) (ok:=fun _=>True) (okp:=fun _=>True) ?hr ?hp (fun _ hk=>hk) trivial (Below.refl _ _) (Nat.le_refl _) (by simp) ?_;(case hd=>rfl);(case hg=>rfl);(case hr=>first|(go_simp;done)|(go_simp;rfl));(case hp=>exact (Reps.one (show Kd.M (Kd.int .i64) _ _ _ x14_1 [.int .i64 x14_1] from rfl) (Reps.one (show Kd.M (Kd.int .i64) _ _ _ (rd t319 x24_2) [.int .i64 (rd t319 x24_2)] from rfl) (Reps.one (show Kd.M (Kd.int .i64) _ _ _ (rd t324 x35_3) [.int .i64 (rd t324 x35_3)] from rfl) (Reps.one (show Kd.M (Kd.int .i64) _ _ _ (rd t331 0) [.int .i64 (rd t331 0)] from rfl) (Reps.none _ _))))));intro v336 w39 ho40 hb hg_ hnew_;clear hg_ hnew_;(first|rw [← Ny335.out] at ho40|(simp only [Int.reduceToNat] at ho40;rw [← Ny335.out] at ho40));have HO337:=A_ (Kd.R_lower (Kd.R_new' (Kd.R_new' (Kd.R_new' (Kd.R_new' ho40 (Kd.R_lt (rl_ HO_3))) (Kd.R_lt (rl_ HO_22))) (Kd.R_lt (rl_ HO_33))) (Kd.R_lt (rl_ HO333))) (below_size bb_));replace HO_3:=A_ (Kd.R_elder' (rl_ HO_3) (Kd.R_base ho40) hb);replace HO_22:=A_ (Kd.R_elder' (rl_ HO_22) (Kd.R_base ho40) hb);replace HO_33:=A_ (Kd.R_elder' (rl_ HO_33) (Kd.R_base ho40) hb);replace HO333:=A_ (Kd.R_elder' (rl_ HO333) (Kd.R_base ho40) hb);replace BK314:=bz BK314 hb;replace HB:=A_ (below_step bb_ hb);clear hb ho40));try go_wp2_with (first|(go_at_call 124;(with_reducible refine (impl_members.calls k3 (Go.bits .and .i64 (Go.bits .and .i64 (rd t315 x14_1) (rd t315 (rd t319 x24_2))) (rd t315 (rd t324 x35_3))) t331 _ ?side1 A34.out).mono ?_);(case side1=>first|exact HT.out|exact HT.out.below bb_|(repeat (first|exact HT.out|apply TabOK.drewN|apply TabOK.drew|apply TabOK.alloc)));rintro e w37 ⟨v332,rfl,ho0,hb⟩;have HO333:=A_ (Kd.R_lower (Kd.R_new' (Kd.R_new' (Kd.R_new' ho0 (Kd.R_lt (rl_ HO_3))) (Kd.R_lt (rl_ HO_22))) (Kd.R_lt (rl_ HO_33))) (below_size bb_));replace HO_3:=A_ (Kd.R_elder' (rl_ HO_3) (Kd.R_base ho0) hb);replace HO_22:=A_ (Kd.R_elder' (rl_ HO_22) (Kd.R_base ho0) hb);replace HO_33:=A_ (Kd.R_elder' (rl_ HO_33) (Kd.R_base ho0) hb);replace BK314:=bz BK314 hb;replace HB:=A_ (below_step bb_ hb);(try clear hb);(try clear hb2);(try clear hk);(try clear hi);(try clear ho0);obtain ⟨Ao38,co38,eo38⟩:=Kd.R_slice HO333.out;subst eo38;have p334 : 0 ≤ (0 : Int):=(by omega);have q334 : 0 < (t331.length : Int):=of_decide_eq_true (by first|(with_reducible assumption)|assumption);obtain ⟨ad334,e334,hx334_0⟩:=Kd.at_int (Kd.R_reads' HO333.out).2.2 0 p334 q334;cases e334;have qi334 : (0 < t331.length) = True:=eq_true (by omega);(try rw [show ((0 : Int)).toNat = 0 from rfl] at hx334_0);(try rw [Addr.add_zero'] at hx334_0);replace p334:=eq_true p334;replace q334:=eq_true q334)|((with_reducible refine gate_dst (N:=62) rfl ?_);refine Kd.R_lit (Kd.int .i64) _ 3 ?hg (N:=62) ?hd (xs:=([x14_1,(rd t319 x24_2),rd t324 x35_3,rd t331 0] : List Int)) (inner:=[.int .i64 x14_1,.int .i64 (rd t319 x24_2),.int .i64 (rd t324 x35_3),.int .i64 (rd t331 0)]) (ok:=fun _=>True) (okp:=fun _=>True) ?hr ?hp (fun _ hk=>hk) trivial (Below.refl _ _) (Nat.le_refl _) (by simp) ?_;(case hd=>rfl);(case hg=>rfl);(case hr=>first|(go_simp;done)|(go_simp;rfl));(case hp=>exact (Reps.one (show Kd.M (Kd.int .i64) _ _ _ x14_1 [.int .i64 x14_1] from rfl) (Reps.one (show Kd.M (Kd.int .i64) _ _ _ (rd t319 x24_2) [.int .i64 (rd t319 x24_2)] from rfl) (Reps.one (show Kd.M (Kd.int .i64) _ _ _ (rd t324 x35_3) [.int .i64 (rd t324 x35_3)] from rfl) (Reps.one (show Kd.M (Kd.int .i64) _ _ _ (rd t331 0) [.int .i64 (rd t331 0)] from rfl) (Reps.none _ _))))));intro v336 w39 ho40 hb hg_ hnew_;clear hg_ hnew_;(first|rw [← Ny335.out] at ho40|(simp only [Int.reduceToNat] at ho40;rw [← Ny335.out] at ho40));have HO337:=A_ (Kd.R_lower (Kd.R_new' (Kd.R_new' (Kd.R_new' (Kd.R_new' ho40 (Kd.R_lt (rl_ HO_3))) (Kd.R_lt (rl_ HO_22))) (Kd.R_lt (rl_ HO_33))) (Kd.R_lt (rl_ HO333))) (below_size bb_));replace HO_3:=A_ (Kd.R_elder' (rl_ HO_3) (Kd.R_base ho40) hb);replace HO_22:=A_ (Kd.R_elder' (rl_ HO_22) (Kd.R_base ho40) hb);replace HO_33:=A_ (Kd.R_elder' (rl_ HO_33) (Kd.R_base ho40) hb);replace HO333:=A_ (Kd.R_elder' (rl_ HO333) (Kd.R_base ho40) hb);replace BK314:=bz BK314 hb;replace HB:=A_ (below_step bb_ hb);clear hb ho40)))
                          go_ret
                          exact ⟨_,by first|rfl|(simp [errW_none,errW_some] <;> rfl)|(simp [*,errW_none,errW_some] <;> rfl),by (with_reducible repeat (first|apply Kd.R_alloc|apply Kd.R_drewN|apply Kd.R_drew));exact Kd.R_mono HO337.out (fun _ hk=>trivial),bb_,by first|trivial|rfl|(intro he_;first|rfl|(rw [Ny335.out] at he_;cases he_)|(cases he_))⟩
                         ·rw [if_neg c35] at H;exact absurd H (by simp)
                       ·rw [if_neg c31] at H;exact absurd H (by simp)
                      ·rw [if_neg c30] at H;exact absurd H (by simp)
                     ·rw [if_neg c29] at H;exact absurd H (by simp)
                    ·rw [if_neg c28] at H;exact absurd H (by simp)
                   ·rw [if_neg c27] at H;exact absurd H (by simp)
                  ·rw [if_neg c26] at H;exact absurd H (by simp)
                 ·rw [if_neg c25] at H;exact absurd H (by simp)
                ·rw [if_neg c24] at H;exact absurd H (by simp)
               ·rw [if_neg c23] at H;have c23b0 : decide (x35_3 < (t324.length : Int)) = false:=decide_eq_false c23;clear c23;have H':=A_ H;clear H;go_wp2
                repeat (go_quiet (fail);try go_wp2)
                go_roundg k3
                case measure=>have:=HK1.out;have:=HK2.out;have:=HK3.out;omega
                case rel=>exact ⟨(wrap64 (x24_2 + 1)),(by first|rfl|(simp;done)|(simp [*];done)),H',⟨by have:=HK1.out;have:=HK2.out;have:=HK3.out;omega⟩,⟨by (with_reducible repeat (first|apply Kd.R_alloc|apply Kd.R_drewN|apply Kd.R_drew));exact Kd.R_mono HO_3.out (fun _ hk=>hk.1)⟩,⟨by (with_reducible repeat (first|apply Kd.R_alloc|apply Kd.R_drewN|apply Kd.R_drew));exact Kd.R_mono HO_22.out (fun _ hk=>hk.1)⟩,⟨bl_ BK314⟩,⟨bb_⟩⟩
            ·rw [if_neg c18] at H;exact absurd H (by simp)
           ·rw [if_neg c17] at H;exact absurd H (by simp)
          ·rw [if_neg c16] at H;exact absurd H (by simp)
         ·rw [if_neg c15] at H;exact absurd H (by simp)
        ·rw [if_neg c14] at H;have c14b0 : decide (x24_2 < (t319.length : Int)) = false:=decide_eq_false c14;clear c14;have H':=A_ H;clear H;go_wp2
         repeat (go_quiet (fail);try go_wp2)
         go_roundg k2
         case measure=>have:=HK1.out;have:=HK2.out;omega
         case rel=>exact ⟨(wrap64 (x14_1 + 1)),(by first|rfl|(simp;done)|(simp [*];done)),H',⟨by have:=HK1.out;have:=HK2.out;omega⟩,⟨by (with_reducible repeat (first|apply Kd.R_alloc|apply Kd.R_drewN|apply Kd.R_drew));exact Kd.R_mono HO_3.out (fun _ hk=>trivial)⟩,⟨bl_ BK314⟩,⟨bb_⟩⟩
     ·rw [if_neg c9] at H;exact absurd H (by simp)
    ·rw [if_neg c8] at H;exact absurd H (by simp)
   ·rw [if_neg c7] at H;have c7b0 : decide (x14_1 < a0_0) = false:=decide_eq_false c7;clear c7;obtain rfl:=Option.some.inj H;go_wp2
    repeat (go_quiet (fail);try go_wp2)
    go_ret
    exact ⟨_,by first|rfl|(simp [errW_none,errW_some] <;> rfl)|(simp [*,errW_none,errW_some] <;> rfl),by first|exact Kd.R_nil _ _ _ _ _|exact Kd.N_nil _ _ _ _ _|exact Kd.V_nil _ _ _ _ _|exact Kd.Q_nil _ _ _ _ _|exact Kd.S_nil _ _ _ _ _,bb_,by first|trivial|rfl|(intro he_;first|rfl|(rw [Ny335.out] at he_;cases he_)|(cases he_))⟩
theorem impl_isSemi.nilAt {P : Program} (w : World) (d : Nat) (t e : TypeId) (a : Option Addr) (l c : Nat) (h : P.underlying t = some (.slice e)) : (Op.equalIn (d + 1) t (.slice a l c) (.slice none 0 0)).run P w = .ok a.isNone w:=by
 cases a <;> simp [Op.equalIn,run_underlying h]
theorem impl_isSemi.nilOf {P : Program} (w : World) (t e : TypeId) (a : Option Addr) (l c : Nat) (h : P.underlying t = some (.slice e)) : (binOp .eql t (.slice a l c) (.slice none 0 0)).run P w = .ok (.bool a.isNone) w:=by
 have h1 : (Op.equal t (.slice a l c) (.slice none 0 0)).run P w = .ok a.isNone w:=impl_isSemi.nilAt w 9999 t e a l c h;simp [binOp,h1]
theorem impl_isSemi.nilNo {P : Program} (w : World) (t e : TypeId) (a : Option Addr) (l c : Nat) (h : P.underlying t = some (.slice e)) : (binOp .neq t (.slice a l c) (.slice none 0 0)).run P w = .ok (.bool (!a.isNone)) w:=by
 have h1 : (Op.equal t (.slice a l c) (.slice none 0 0)).run P w = .ok a.isNone w:=impl_isSemi.nilAt w 9999 t e a l c h;simp [binOp,h1]
theorem impl_isSemi.nilE (w : World) (a : Option Addr) (l c : Nat) : (binOp .eql 22 (.slice a l c) (.slice none 0 0)).run Tryd.prog w = .ok (.bool a.isNone) w:=impl_isSemi.nilOf w _ _ a l c Tryd.underlying22
theorem impl_isSemi.nilN (w : World) (a : Option Addr) (l c : Nat) : (binOp .neq 22 (.slice a l c) (.slice none 0 0)).run Tryd.prog w = .ok (.bool (!a.isNone)) w:=impl_isSemi.nilNo w _ _ a l c Tryd.underlying22
theorem impl_isSemi.nilFact {w : World} {base e : Nat} {ok : Nat → Prop} {A : Option Addr} {n c : Nat} {xs : List Int} (h : Kd.R (Kd.int .i64) e w base ok (.slice A n c) xs) (hz : xs = [] → (.slice A n c : Value) = .slice none 0 0) : A.isNone = (xs == ([] : List Int)):=by
 by_cases hx : xs = []
 ·have:=hz hx;injection this with h1;rw [h1,hx];rfl
 ·obtain ⟨hn,_,hC⟩:=Kd.R_reads' h;have hpos : 0 < xs.length:=List.length_pos_iff.2 hx;obtain ⟨ad,e1,_⟩:=hC.2.2 hpos;rw [e1];cases xs with
  | nil => exact absurd rfl hx
  | cons x l => rfl
attribute [local go_sem] impl_isSemi.nilE impl_isSemi.nilN
def impl_isSemi.f (k : Nat) (a0_0 : Int) (l0_1 : List Int) : Option (Bool) := (impl_isInterval.f k a0_0 l0_1).bind fun t339 => (if t339 = true then ((impl_Order_threeOne.f k a0_0 l0_1).bind fun t340 => (some (t340 == ([] : List Int)))) else (some false))
set_option maxHeartbeats 8000000 in
set_option maxRecDepth 100000 in
theorem impl_isSemi.calls (k : Nat) (a0_0 : Int) (A0_1 : Option Addr) (c0_1 : Nat) (l0_1 : List Int) (r : Bool) (w : World) (hr0_1 : Kd.C (Kd.int .i64) w A0_1 l0_1.length l0_1) (hc0_1 : l0_1.length ≤ c0_1) (hT : TabOK w) (h : impl_isSemi.f k a0_0 l0_1 = some r) :
 Calls Tryd.prog 108 #[.agg #[.int .i64 a0_0,.slice A0_1 l0_1.length c0_1]] w fun e w'=>e = .returned (.bool r) ∧ Below w.heap.size w w':=by
 have hu28:=Tryd.underlying28;have HT:=A_ hT;clear hT;have HR0_1:=A_ hr0_1;have HC0_1:=A_ hc0_1;clear hr0_1 hc0_1;have HB:=A_ (Below.refl w.heap.size w);have H : ((impl_isInterval.f k a0_0 l0_1).bind fun t339=>(if t339 = true then ((impl_Order_threeOne.f k a0_0 l0_1).bind fun t340=>(some (t340 == ([] : List Int)))) else (some false))) = some r:=h;clear h;replace H:=Option.bind_eq_some_iff.mp H;obtain ⟨t339,A20,H⟩:=H;replace H : (if t339 = true then ((impl_Order_threeOne.f k a0_0 l0_1).bind fun t340=>(some (t340 == ([] : List Int)))) else (some false)) = some r:=H;have A2:=A_ A20;clear A20;by_cases c3 : t339 = true
 ·subst c3;have H1 : ((impl_Order_threeOne.f k a0_0 l0_1).bind fun t340=>(some (t340 == ([] : List Int)))) = some r:=by rw [if_pos rfl] at H;exact H
  clear H;have H:=H1;clear H1;replace H:=Option.bind_eq_some_iff.mp H;obtain ⟨t340,A40,H⟩:=H;replace H : (some (t340 == ([] : List Int))) = some r:=H;have A4:=A_ A40;clear A40;obtain rfl:=Option.some.inj H;go_enter Tryd.func108,Tryd.ntmps108
  go_wp2_with (first|((with_reducible refine gate_dst (N:=1) rfl ?_);refine box_event ?hg (N:=1) ?hd (cs:=#[.int .i64 a0_0,.slice A0_1 l0_1.length c0_1]) (t:=28) ?hr ?_;(case hd=>rfl);(case hg=>rfl);(case hr=>first|(go_simp;done)|(go_simp;rfl));intro gb338 hg w5 hbox hb;have BK338:=A_ (hbox);have GW338:=A_ ((by rw [hg];exact (below_size bb_) : w.heap.size ≤ gb338));have GE338:=A_ ((by rw [hg];exact (below_size bb_) : w.heap.size ≤ gb338));replace HB:=A_ (below_step bb_ hb);clear hb hbox hg;have hcz6_0 : w5.cell? ⟨gb338,0,none⟩ = some (.int .i64 a0_0):=blk_cell BK338.out 0;have hcz6_1 : w5.cell? ⟨gb338,1,none⟩ = some (.slice A0_1 l0_1.length c0_1):=blk_cell BK338.out 1;have hfz6_0:=blk_frozen BK338.out 0;have hfz6_1:=blk_frozen BK338.out 1)|((with_reducible refine gate_callee (f:=134) rfl ?_);refine goesL_ (some 4) rfl rfl Tryd.func134 (by kernel_rfl) rfl #[.agg #[.int .i64 a0_0,.slice A0_1 l0_1.length c0_1]] rfl au_ ?_;(with_reducible refine (impl_isInterval.calls k a0_0 _ _ l0_1 true _ ?side1 ?side2 ?side3 A2.out).mono ?_);(case side1=>exact cl_ (Kd.C_below HR0_1.out HB.out));(case side2=>exact HC0_1.out);(case side3=>first|exact HT.out|exact HT.out.below bb_|(repeat (first|exact HT.out|apply TabOK.drewN|apply TabOK.drew|apply TabOK.alloc)));rintro e w7 ⟨rfl,hb⟩;refine ⟨_,rfl,?_⟩;replace BK338:=bz BK338 hb;replace HB:=A_ (below_step bb_ hb);(try clear hb);(try clear hb2);(try clear hk);(try clear hi);have hcz8_0 : w7.cell? ⟨gb338,0,none⟩ = some (.int .i64 a0_0):=blk_cell BK338.out 0;have hcz8_1 : w7.cell? ⟨gb338,1,none⟩ = some (.slice A0_1 l0_1.length c0_1):=blk_cell BK338.out 1;have hfz8_0:=blk_frozen BK338.out 0;have hfz8_1:=blk_frozen BK338.out 1)|(go_at_call 188;(with_reducible refine (impl_Order_threeOne.calls k a0_0 _ _ l0_1 t340 _ ?side1 ?side2 ?side3 A4.out).mono ?_);(case side1=>exact cl_ (Kd.C_below HR0_1.out HB.out));(case side2=>exact HC0_1.out);(case side3=>first|exact HT.out|exact HT.out.below bb_|(repeat (first|exact HT.out|apply TabOK.drewN|apply TabOK.drew|apply TabOK.alloc)));rintro e w9 ⟨v341,rfl,ho0,hb,hz_⟩;have HO342:=A_ (Kd.R_lower ho0 (below_size bb_));replace BK338:=bz BK338 hb;replace HB:=A_ (below_step bb_ hb);(try clear hb);(try clear hb2);(try clear hk);(try clear hi);(try clear ho0);obtain ⟨Ao10,co10,eo10⟩:=Kd.R_slice HO342.out;subst eo10;(try have hnl10:=impl_isSemi.nilFact HO342.out hz_);(try clear hz_)))
  go_ret
  exact ⟨by first|rfl|(rw [hnl10] <;> rfl)|(simp [*,errW_none,errW_some] <;> exact ⟨rfl,impl_isSemi.nilB _⟩)|(simp [errW_none,errW_some] <;> rfl)|(simp [*,errW_none,errW_some] <;> rfl),bb_⟩
 ·replace c3:=Bool.eq_false_iff.mpr c3;subst c3;have H1 : (some false) = some r:=by rw [if_neg (show ¬ (false = true) by decide)] at H;exact H
  clear H;have H:=H1;clear H1;obtain rfl:=Option.some.inj H;go_enter Tryd.func108,Tryd.ntmps108
  go_wp2_with (first|((with_reducible refine gate_dst (N:=1) rfl ?_);refine box_event ?hg (N:=1) ?hd (cs:=#[.int .i64 a0_0,.slice A0_1 l0_1.length c0_1]) (t:=28) ?hr ?_;(case hd=>rfl);(case hg=>rfl);(case hr=>first|(go_simp;done)|(go_simp;rfl));intro gb338 hg w11 hbox hb;have BK338:=A_ (hbox);have GW338:=A_ ((by rw [hg];exact (below_size bb_) : w.heap.size ≤ gb338));have GE338:=A_ ((by rw [hg];exact (below_size bb_) : w.heap.size ≤ gb338));replace HB:=A_ (below_step bb_ hb);clear hb hbox hg;have hcz12_0 : w11.cell? ⟨gb338,0,none⟩ = some (.int .i64 a0_0):=blk_cell BK338.out 0;have hcz12_1 : w11.cell? ⟨gb338,1,none⟩ = some (.slice A0_1 l0_1.length c0_1):=blk_cell BK338.out 1;have hfz12_0:=blk_frozen BK338.out 0;have hfz12_1:=blk_frozen BK338.out 1)|((with_reducible refine gate_callee (f:=134) rfl ?_);refine goesL_ (some 4) rfl rfl Tryd.func134 (by kernel_rfl) rfl #[.agg #[.int .i64 a0_0,.slice A0_1 l0_1.length c0_1]] rfl au_ ?_;(with_reducible refine (impl_isInterval.calls k a0_0 _ _ l0_1 false _ ?side1 ?side2 ?side3 A2.out).mono ?_);(case side1=>exact cl_ (Kd.C_below HR0_1.out HB.out));(case side2=>exact HC0_1.out);(case side3=>first|exact HT.out|exact HT.out.below bb_|(repeat (first|exact HT.out|apply TabOK.drewN|apply TabOK.drew|apply TabOK.alloc)));rintro e w13 ⟨rfl,hb⟩;refine ⟨_,rfl,?_⟩;replace BK338:=bz BK338 hb;replace HB:=A_ (below_step bb_ hb);(try clear hb);(try clear hb2);(try clear hk);(try clear hi)))
  go_ret
  exact ⟨by first|rfl|(rw [hnl10] <;> rfl)|(simp [*,errW_none,errW_some] <;> exact ⟨rfl,impl_isSemi.nilB _⟩)|(simp [errW_none,errW_some] <;> rfl)|(simp [*,errW_none,errW_some] <;> rfl),bb_⟩
end Go.Proofs.YtimjblnglhmakaaDoor.P
namespace Go.Proofs.YtimjblnglhmakaaDoor.P
open Go.RowKit Go.Proofs.YtimjblnglhmakaaDoorW.PrintWords Go.Proofs.YtimjblnglhmakaaDoorW.PrintLast Go.Proofs.YtimjblnglhmakaaDoorW.PrintMore
open Bool renaming true → T, false → F
open List renaming setIfInBounds_toArray → L_, set_cons_zero → M_, set_cons_succ → N_, map_toArray → P_, map_cons → Q_, map_nil → R_, length_drop → S_, length_take → U_
open Aside0 renaming mk → A_
attribute [local go_sem] max2_int min2_int max_two min_two max_three min_three max_four min_four
set_option linter.unusedVariables false
set_option linter.unusedSimpArgs false
attribute [local go_sem] fldOrder_0 fldOrder_1
def impl_TraceOf_1.f (a0 : Int) (a1 : Int) (a2_0 : Int) (l2_1 : List Int) (a3_0 : Int) (l3_1 : List Int) : Option (Bool) := if 0 ≤ a1 then (if a1 < (l2_1.length : Int) then (if 0 ≤ a0 then (if a0 < (l2_1.length : Int) then (if (Go.bits .andNot .i64 (rd l2_1 a1) (rd l2_1 a0)) = 0 then (if a0 < (l3_1.length : Int) then (if a1 < (l3_1.length : Int) then (some ((Go.bits .andNot .i64 (rd l3_1 a0) (rd l3_1 a1)) != 0)) else (none)) else (none)) else (some true)) else (none)) else (none)) else (none)) else (none)
set_option maxHeartbeats 8000000 in
set_option maxRecDepth 100000 in
theorem impl_TraceOf_1.calls (a0 : Int) (a1 : Int) (g2_ : Nat) (a2_0 : Int) (A2_1 : Option Addr) (c2_1 : Nat) (l2_1 : List Int) (g3_ : Nat) (a3_0 : Int) (A3_1 : Option Addr) (c3_1 : Nat) (l3_1 : List Int) (r : Bool) (w : World) (hb2 : w.heap[g2_]? = some (.cells #[.int .i64 a2_0,.slice A2_1 l2_1.length c2_1] 28 (0,0))) (hr2_1 : Kd.C (Kd.int .i64) w A2_1 l2_1.length l2_1) (hc2_1 : l2_1.length ≤ c2_1) (hb3 : w.heap[g3_]? = some (.cells #[.int .i64 a3_0,.slice A3_1 l3_1.length c3_1] 28 (0,0))) (hr3_1 : Kd.C (Kd.int .i64) w A3_1 l3_1.length l3_1) (hc3_1 : l3_1.length ≤ c3_1) (hn2_3 : g2_ ≠ g3_) (h : impl_TraceOf_1.f a0 a1 a2_0 l2_1 a3_0 l3_1 = some r) :
 Calls Tryd.prog 115 #[.int .i64 a0,.int .i64 a1,.pointer (some ⟨g2_,0,none⟩),.pointer (some ⟨g3_,0,none⟩)] w fun e w'=>e = .returned (.bool r) ∧ Below w.heap.size w w':=by
 have HR2_1:=A_ hr2_1;have HC2_1:=A_ hc2_1;clear hr2_1 hc2_1;have HR3_1:=A_ hr3_1;have HC3_1:=A_ hc3_1;clear hr3_1 hc3_1;have BK601:=A_ hb2;clear hb2;have BK602:=A_ hb3;clear hb3;have NB601_602:=A_ hn2_3;have NB602_601:=A_ (Ne.symm hn2_3);clear hn2_3;have HB:=A_ (Below.refl w.heap.size w);have H : (if 0 ≤ a1 then (if a1 < (l2_1.length : Int) then (if 0 ≤ a0 then (if a0 < (l2_1.length : Int) then (if (Go.bits .andNot .i64 (rd l2_1 a1) (rd l2_1 a0)) = 0 then (if a0 < (l3_1.length : Int) then (if a1 < (l3_1.length : Int) then (some ((Go.bits .andNot .i64 (rd l3_1 a0) (rd l3_1 a1)) != 0)) else (none)) else (none)) else (some true)) else (none)) else (none)) else (none)) else (none)) = some r:=h;clear h;by_cases c5 : 0 ≤ a1
 ·rw [if_pos c5] at H;have c5b0 : decide (0 ≤ a1) = true:=decide_eq_true c5;clear c5;by_cases c6 : a1 < (l2_1.length : Int)
  ·rw [if_pos c6] at H;have c6b0 : decide (a1 < (l2_1.length : Int)) = true:=decide_eq_true c6;clear c6;by_cases c7 : 0 ≤ a0
   ·rw [if_pos c7] at H;have c7b0 : decide (0 ≤ a0) = true:=decide_eq_true c7;clear c7;by_cases c8 : a0 < (l2_1.length : Int)
    ·rw [if_pos c8] at H;have c8b0 : decide (a0 < (l2_1.length : Int)) = true:=decide_eq_true c8;clear c8;by_cases c9 : (Go.bits .andNot .i64 (rd l2_1 a1) (rd l2_1 a0)) = 0
     ·rw [if_pos c9] at H;have c9b0 : ((Go.bits .andNot .i64 (rd l2_1 a1) (rd l2_1 a0)) == 0) = true:=beq_iff_eq.mpr c9;have c9b1 : ((Go.bits .andNot .i64 (rd l2_1 a1) (rd l2_1 a0)) != 0) = false:=bne_eq_false_iff_eq.mpr c9;clear c9;by_cases c10 : a0 < (l3_1.length : Int)
      ·rw [if_pos c10] at H;have c10b0 : decide (a0 < (l3_1.length : Int)) = true:=decide_eq_true c10;clear c10;by_cases c11 : a1 < (l3_1.length : Int)
       ·rw [if_pos c11] at H;have c11b0 : decide (a1 < (l3_1.length : Int)) = true:=decide_eq_true c11;clear c11;obtain rfl:=Option.some.inj H;have hnb12:=NB601_602.out;have hnc12:=NB602_601.out;have hcz13_0 : w.cell? ⟨g2_,0,none⟩ = some (.int .i64 a2_0):=blk_cell BK601.out 0;have hcz13_1 : w.cell? ⟨g2_,1,none⟩ = some (.slice A2_1 l2_1.length c2_1):=blk_cell BK601.out 1;have hfz13_0:=blk_frozen BK601.out 0;have hfz13_1:=blk_frozen BK601.out 1;have p603 : 0 ≤ (a1 : Int):=of_decide_eq_true (by first|(with_reducible assumption)|assumption);have q603 : a1 < (l2_1.length : Int):=of_decide_eq_true (by first|(with_reducible assumption)|assumption);obtain ⟨ad603,e603,hx603_0⟩:=Kd.at_int HR2_1.out a1 p603 q603;cases e603
        replace p603:=eq_true p603;replace q603:=eq_true q603;have p604 : 0 ≤ (a0 : Int):=of_decide_eq_true (by first|(with_reducible assumption)|assumption);have q604 : a0 < (l2_1.length : Int):=of_decide_eq_true (by first|(with_reducible assumption)|assumption);obtain ⟨ad604,e604,hx604_0⟩:=Kd.at_int HR2_1.out a0 p604 q604;obtain rfl : ad603 = ad604:=(by injection e604);replace p604:=eq_true p604;replace q604:=eq_true q604;have hcz14_0 : w.cell? ⟨g3_,0,none⟩ = some (.int .i64 a3_0):=blk_cell BK602.out 0;have hcz14_1 : w.cell? ⟨g3_,1,none⟩ = some (.slice A3_1 l3_1.length c3_1):=blk_cell BK602.out 1;have hfz14_0:=blk_frozen BK602.out 0;have hfz14_1:=blk_frozen BK602.out 1;have p605 : 0 ≤ (a0 : Int):=of_decide_eq_true (by first|(with_reducible assumption)|assumption);have q605 : a0 < (l3_1.length : Int):=of_decide_eq_true (by first|(with_reducible assumption)|assumption);obtain ⟨ad605,e605,hx605_0⟩:=Kd.at_int HR3_1.out a0 p605 q605;cases e605
        replace p605:=eq_true p605;replace q605:=eq_true q605;have p606 : 0 ≤ (a1 : Int):=of_decide_eq_true (by first|(with_reducible assumption)|assumption);have q606 : a1 < (l3_1.length : Int):=of_decide_eq_true (by first|(with_reducible assumption)|assumption);obtain ⟨ad606,e606,hx606_0⟩:=Kd.at_int HR3_1.out a1 p606 q606;obtain rfl : ad605 = ad606:=(by injection e606);replace p606:=eq_true p606;replace q606:=eq_true q606;go_enter Tryd.func115,Tryd.ntmps115
        go_wp2
        repeat (go_quiet (fail);try go_wp2)
        go_ret
        exact ⟨by first|rfl|(simp [errW_none,errW_some] <;> rfl)|(simp [*,errW_none,errW_some] <;> rfl),bb_⟩
       ·rw [if_neg c11] at H;exact absurd H (by simp)
      ·rw [if_neg c10] at H;exact absurd H (by simp)
     ·rw [if_neg c9] at H;have c9b0 : ((Go.bits .andNot .i64 (rd l2_1 a1) (rd l2_1 a0)) == 0) = false:=beq_eq_false_iff_ne.mpr c9;have c9b1 : ((Go.bits .andNot .i64 (rd l2_1 a1) (rd l2_1 a0)) != 0) = true:=bne_iff_ne.mpr c9;obtain rfl:=Option.some.inj H;have hnb15:=NB601_602.out;have hnc15:=NB602_601.out;have hcz16_0 : w.cell? ⟨g2_,0,none⟩ = some (.int .i64 a2_0):=blk_cell BK601.out 0;have hcz16_1 : w.cell? ⟨g2_,1,none⟩ = some (.slice A2_1 l2_1.length c2_1):=blk_cell BK601.out 1;have hfz16_0:=blk_frozen BK601.out 0;have hfz16_1:=blk_frozen BK601.out 1;have p603 : 0 ≤ (a1 : Int):=of_decide_eq_true (by first|(with_reducible assumption)|assumption);have q603 : a1 < (l2_1.length : Int):=of_decide_eq_true (by first|(with_reducible assumption)|assumption);obtain ⟨ad603,e603,hx603_0⟩:=Kd.at_int HR2_1.out a1 p603 q603;cases e603
      replace p603:=eq_true p603;replace q603:=eq_true q603;have p604 : 0 ≤ (a0 : Int):=of_decide_eq_true (by first|(with_reducible assumption)|assumption);have q604 : a0 < (l2_1.length : Int):=of_decide_eq_true (by first|(with_reducible assumption)|assumption);obtain ⟨ad604,e604,hx604_0⟩:=Kd.at_int HR2_1.out a0 p604 q604;obtain rfl : ad603 = ad604:=(by injection e604);replace p604:=eq_true p604;replace q604:=eq_true q604;go_enter Tryd.func115,Tryd.ntmps115
      go_wp2
      repeat (go_quiet (fail);try go_wp2)
      go_ret
      exact ⟨by first|rfl|(simp [errW_none,errW_some] <;> rfl)|(simp [*,errW_none,errW_some] <;> rfl),bb_⟩
    ·rw [if_neg c8] at H;exact absurd H (by simp)
   ·rw [if_neg c7] at H;exact absurd H (by simp)
  ·rw [if_neg c6] at H;exact absurd H (by simp)
 ·rw [if_neg c5] at H;exact absurd H (by simp)
end Go.Proofs.YtimjblnglhmakaaDoor.P
namespace Go.Proofs.YtimjblnglhmakaaDoor.HD
open Go.RowKit Go.Shelf Go.Maps Go.Sort Go.Proofs.YtimjblnglhmakaaDoorW.PrintMore Go.Proofs.YtimjblnglhmakaaDoorW.PrintLast Go.Proofs.YtimjblnglhmakaaDoorW.PrintWords
attribute [local go_sem] Oper.semAt_some
def sortL_ren : Go.Shelf.Ren := ⟨fun | 5 => 190 | 8 => 232 | 7 => 231 | 19 => 264 | 20 => 265 | 10 => 256 | 11 => 257 | 12 => 258 | 13 => 259 | 14 => 260 | 15 => 261 | 16 => 251 | 17 => 262 | 18 => 263 | 30 => 280 | 31 => 281 | 32 => 282 | 33 => 283 | 34 => 284 | 35 => 279 | 40 => 299 | n => n, fun | 23 => 22 | 25 => 3 | 3 => 3 | 32 => 126 | 22 => 22 | 0 => 0 | 44 => 145 | 46 => 101 | 4 => 4 | 36 => 157 | 35 => 156 | 41 => 50 | 5 => 5 | 9 => 9 | 53 => 173 | 57 => 177 | 63 => 196 | 64 => 68 | n => n, fun | n => n⟩
theorem sortL : Go.Proofs.SlLaysM.n5 Tryd.prog sortL_ren := {
  mixed := by kernel_rfl,
  f5 := ⟨Tryd.f190.name, by decide, Tryd.func190.trans (congrArg some (by kernel_rfl))⟩,
  f7 := ⟨Tryd.f231.name, by decide, Tryd.func231.trans (congrArg some (by kernel_rfl))⟩,
  f8 := Tryd.func232.trans (congrArg some (by kernel_rfl)),
  f10 := ⟨Tryd.f256.name, by decide, Tryd.func256.trans (congrArg some (by kernel_rfl))⟩,
  f11 := ⟨Tryd.f257.name, by decide, Tryd.func257.trans (congrArg some (by kernel_rfl))⟩,
  f12 := ⟨Tryd.f258.name, by decide, Tryd.func258.trans (congrArg some (by kernel_rfl))⟩,
  f13 := ⟨Tryd.f259.name, by decide, Tryd.func259.trans (congrArg some (by kernel_rfl))⟩,
  f14 := ⟨Tryd.f260.name, by decide, Tryd.func260.trans (congrArg some (by kernel_rfl))⟩,
  f15 := ⟨Tryd.f261.name, by decide, Tryd.func261.trans (congrArg some (by kernel_rfl))⟩,
  f16 := ⟨Tryd.f251.name, by decide, Tryd.func251.trans (congrArg some (by kernel_rfl))⟩,
  f17 := ⟨Tryd.f262.name, by decide, Tryd.func262.trans (congrArg some (by kernel_rfl))⟩,
  f18 := ⟨Tryd.f263.name, by decide, Tryd.func263.trans (congrArg some (by kernel_rfl))⟩,
  f19 := Tryd.func264.trans (congrArg some (by kernel_rfl)),
  f20 := Tryd.func265.trans (congrArg some (by kernel_rfl)),
  f30 := ⟨Tryd.f280.name, by decide, Tryd.func280.trans (congrArg some (by kernel_rfl))⟩,
  f31 := Tryd.func281.trans (congrArg some (by kernel_rfl)),
  f32 := Tryd.func282.trans (congrArg some (by kernel_rfl)),
  f33 := ⟨Tryd.f283.name, by decide, Tryd.func283.trans (congrArg some (by kernel_rfl))⟩,
  f34 := ⟨Tryd.f284.name, by decide, Tryd.func284.trans (congrArg some (by kernel_rfl))⟩,
  f35 := ⟨Tryd.f279.name, by decide, Tryd.func279.trans (congrArg some (by kernel_rfl))⟩,
  f40 := ⟨Tryd.f299.name, by decide, Tryd.func299.trans (congrArg some (by kernel_rfl))⟩,
  t0 := Tryd.underlying0,
  a0 := Tryd.isAgg0,
  z0 := Tryd.sizeOf0,
  v0 := Tryd.zeroValue0,
  t3 := Tryd.underlying3,
  a3 := Tryd.isAgg3,
  z3 := Tryd.sizeOf3,
  v3 := Tryd.zeroValue3,
  t4 := Tryd.underlying4,
  a4 := Tryd.isAgg4,
  z4 := Tryd.sizeOf4,
  v4 := Tryd.zeroValue4,
  t5 := Tryd.underlying5,
  a5 := Tryd.isAgg5,
  z5 := Tryd.sizeOf5,
  v5 := Tryd.zeroValue5,
  t9 := Tryd.underlying9,
  a9 := Tryd.isAgg9,
  z9 := Tryd.sizeOf9,
  v9 := Tryd.zeroValue9,
  t22 := Tryd.underlying22,
  a22 := Tryd.isAgg22,
  z22 := Tryd.sizeOf22,
  v22 := Tryd.zeroValue22,
  t23 := Tryd.underlying22,
  a23 := Tryd.isAgg22,
  z23 := Tryd.sizeOf22,
  v23 := Tryd.zeroValue22,
  t25 := Tryd.underlying3,
  a25 := Tryd.isAgg3,
  z25 := Tryd.sizeOf3,
  v25 := Tryd.zeroValue3,
  t32 := Tryd.underlying126,
  a32 := Tryd.isAgg126,
  z32 := Tryd.sizeOf126,
  v32 := Tryd.zeroValue126,
  t35 := Tryd.underlying156,
  a35 := Tryd.isAgg156,
  z35 := Tryd.sizeOf156,
  v35 := Tryd.zeroValue156,
  t36 := Tryd.underlying157,
  a36 := Tryd.isAgg157,
  z36 := Tryd.sizeOf157,
  v36 := Tryd.zeroValue157,
  t41 := Tryd.underlying50,
  a41 := Tryd.isAgg50,
  z41 := Tryd.sizeOf50,
  v41 := Tryd.zeroValue50,
  t44 := Tryd.underlying145,
  a44 := Tryd.isAgg145,
  z44 := Tryd.sizeOf145,
  v44 := Tryd.zeroValue145,
  t46 := Tryd.underlying101,
  a46 := Tryd.isAgg101,
  z46 := Tryd.sizeOf101,
  v46 := Tryd.zeroValue101,
  t53 := Tryd.underlying173,
  a53 := Tryd.isAgg173,
  z53 := Tryd.sizeOf173,
  v53 := Tryd.zeroValue173,
  t57 := Tryd.underlying177,
  a57 := Tryd.isAgg177,
  z57 := Tryd.sizeOf177,
  v57 := Tryd.zeroValue177,
  t63 := Tryd.underlying196,
  a63 := Tryd.isAgg196,
  z63 := Tryd.sizeOf196,
  v63 := Tryd.zeroValue196,
  t64 := Tryd.underlying68,
  a64 := Tryd.isAgg68,
  z64 := Tryd.sizeOf68,
  v64 := Tryd.zeroValue68 }
def compactL_ren : Go.Shelf.Ren := ⟨fun | 43 => 233 | n => n, fun | 22 => 22 | 23 => 3 | 3 => 3 | 4 => 4 | 0 => 0 | n => n, fun | n => n⟩
theorem compactL : Go.Proofs.SlLaysN.n43 Tryd.prog compactL_ren := {
  mixed := by kernel_rfl,
  f43 := ⟨Tryd.f233.name, by decide, Tryd.func233.trans (congrArg some (by kernel_rfl))⟩,
  t0 := Tryd.underlying0,
  a0 := Tryd.isAgg0,
  z0 := Tryd.sizeOf0,
  v0 := Tryd.zeroValue0,
  t3 := Tryd.underlying3,
  a3 := Tryd.isAgg3,
  z3 := Tryd.sizeOf3,
  v3 := Tryd.zeroValue3,
  t4 := Tryd.underlying4,
  a4 := Tryd.isAgg4,
  z4 := Tryd.sizeOf4,
  v4 := Tryd.zeroValue4,
  t22 := Tryd.underlying22,
  a22 := Tryd.isAgg22,
  z22 := Tryd.sizeOf22,
  v22 := Tryd.zeroValue22,
  t23 := Tryd.underlying3,
  a23 := Tryd.isAgg3,
  z23 := Tryd.sizeOf3,
  v23 := Tryd.zeroValue3,
  i23 := by kernel_rfl }
def upto {α : Type} (f : Nat → α) (k : Nat) : List α := (List.range k).map f
theorem upto_succ {α : Type} (f : Nat → α) (k : Nat) : upto f (k + 1) = upto f k ++ [f k] := by simp [upto, List.range_succ]
theorem upto_length {α : Type} (f : Nat → α) (k : Nat) : (upto f k).length = k := by simp [upto]
theorem upto_all (zs : List Int) : upto (fun j => zs[j]?.getD 0) zs.length = zs := by
  apply List.ext_getElem
  · simp [upto]
  · intro i h1 h2
    simp [upto, h2]
theorem upto_take (zs : List Int) {k : Nat} (hk : k ≤ zs.length) : upto (fun j => zs[j]?.getD 0) k = zs.take k := by
  apply List.ext_getElem
  · simp [upto, hk]
  · intro i h1 h2
    have : i < zs.length := by simp [upto] at h1; omega
    simp [upto, this]
set_option maxRecDepth 100000 in
set_option maxHeartbeats 2000000 in
theorem values1_in (F : Fence) (n : Nat) (h7 : F.fn 267) (hro : F.round = none) (hn : 1 ≤ n) (l Bs n₀ b off len cap : Nat) (zs : List Int) (hreach : len * 8 ≤ 140737488351232) (hb : b < n₀) (J Jx : List Int → World → Prop)
    (hY : ∀ pre x W, J pre W → pre.length < len → YieldAt F (n - 1) Tryd.prog l #[.int .i64 x] W fun e W' =>
      (e = .returned (.bool true) ∧ J (pre ++ [x]) W' ∧ Below n₀ W W') ∨ (e = .returned (.bool false) ∧ Jx (pre ++ [x]) W'))
    (W : World) (hBs : W.cell? ⟨Bs, 0, none⟩ = some (.slice (some ⟨b, off, none⟩) len cap)) (hc : ∀ j, j < len → W.cell? ⟨b, off + j, none⟩ = some (.int .i64 (zs[j]?.getD 0))) (h0 : J [] W) :
    CallsIn F n Tryd.prog 267 #[.func (.yield l) #[] #[], .pointer (some ⟨Bs, 0, none⟩)] W fun e W' => (∃ v, e = .returned v) ∧
      ((∃ ys, ys = upto (fun j => zs[j]?.getD 0) len ∧ J ys W') ∨ (∃ pre, (∃ k, k ≤ len ∧ pre = upto (fun j => zs[j]?.getD 0) k) ∧ Jx pre W')) := by
  refine callsIn_of_wp Tryd.func267 rfl h7 ?_ hro
  simp only [Tryd.ntmps267, List.size_toArray, List.length_cons, List.length_nil, Nat.reduceAdd, Nat.reduceSub, Array.replicate_succ, Array.replicate_zero, List.push_toArray, List.append_toArray, List.nil_append, List.cons_append]
  gi_wp2
  gi_loopw [7] (fun i wr => ∃ k : Nat, k ≤ len ∧ i = .int .i64 k ∧ J (upto (fun j => zs[j]?.getD 0) k) wr ∧ Below n₀ W wr)
    (fun i _ => len - (intOf i).toNat)
  case atStart => exact ⟨0, Nat.zero_le _, rfl, h0, Below.refl _ _⟩
  case round =>
    obtain ⟨k, hk, rfl, hJs, hnx⟩ := hrel
    have hcx : k < len → wr.cell? ⟨b, off + k, none⟩ = some (.int .i64 (zs[k]?.getD 0)) := fun h => (hnx.cell (p := ⟨b, off + k, none⟩) hb).trans (hc k h)
    by_cases hlt : k < len
    · obtain ⟨fn, tmps, assign, body, hy, hR⟩ := hY _ (zs[k]?.getD 0) wr hJs (by rw [upto_length]; exact hlt)
      have hcx' := hcx hlt
      gi_wp2
      refine hR.mono ?_
      rintro e W3 (⟨rfl, hJ3, hk3⟩ | ⟨rfl, hJx3⟩)
      · gi_wp2
        go_roundw
        case rel => exact ⟨k + 1, by omega, by simp, by rw [upto_succ]; exact hJ3, hnx.trans hk3⟩
        case measure => simp [intOf]; omega
      · gi_wp2
        refine bodyPost_ret (results_none rfl _ _ _) rfl ?_
        exact ⟨⟨_, rfl⟩, .inr ⟨_, ⟨k + 1, by omega, (upto_succ _ _).symm⟩, hJx3⟩⟩
    · obtain rfl : k = len := by omega
      gi_wp2
      go_end0
      exact ⟨⟨_, rfl⟩, .inl ⟨_, rfl, hJs⟩⟩
set_option maxRecDepth 100000 in
set_option maxHeartbeats 1000000 in
theorem values1_none_in (F : Fence) (n : Nat) (h7 : F.fn 267) (hro : F.round = none) (l Bs cap : Nat) (A : Option Addr) (J : List Int → World → Prop) (W : World) (hBs : W.cell? ⟨Bs, 0, none⟩ = some (.slice A 0 cap)) (h0 : J [] W) :
    CallsIn F n Tryd.prog 267 #[.func (.yield l) #[] #[], .pointer (some ⟨Bs, 0, none⟩)] W fun e W' => (∃ v, e = .returned v) ∧ J [] W' := by
  refine callsIn_of_wp Tryd.func267 rfl h7 ?_ hro
  simp only [Tryd.ntmps267, List.size_toArray, List.length_cons, List.length_nil, Nat.reduceAdd, Nat.reduceSub, Array.replicate_succ, Array.replicate_zero, List.push_toArray, List.append_toArray, List.nil_append, List.cons_append]
  gi_wp2
  gi_loopw [7] (fun i wr => i = .int .i64 0 ∧ J [] wr) (fun _ _ => 0)
  case atStart => exact ⟨rfl, h0⟩
  case round =>
    obtain ⟨rfl, hJs⟩ := hrel
    gi_wp2
    go_end0
    exact ⟨⟨_, rfl⟩, hJs⟩
def Ints (n₀ : Nat) (W : World) (sv : Value) (zs : List Int) : Prop :=
  (∃ A c, sv = .slice A 0 c ∧ zs = []) ∨ ∃ b off cap, sv = .slice (some ⟨b, off, none⟩) zs.length cap ∧ b < n₀ ∧ ∀ j, j < zs.length → W.cell? ⟨b, off + j, none⟩ = some (.int .i64 (zs[j]?.getD 0))
theorem Ints.below {n₀ : Nat} {A B : World} (h : Below n₀ A B) {sv : Value} {zs : List Int} : Ints n₀ A sv zs → Ints n₀ B sv zs
  | .inl e => .inl e
  | .inr ⟨b, off, cap, e, hb, hc⟩ => .inr ⟨b, off, cap, e, hb, fun j hj => (h.cell (p := ⟨b, off + j, none⟩) hb).trans (hc j hj)⟩
theorem values_stops (F : Fence) (n : Nat) (h7 : F.fn 267) (hro : F.round = none) (hn : 1 ≤ n) (Bs n₀ : Nat) (sv : Value) (zs : List Int) (hreach : zs.length * 8 ≤ 140737488351232) (w : World) (hBs : Bs < w.heap.size) (hn₀ : n₀ ≤ w.heap.size)
    (hc : w.cell? ⟨Bs, 0, none⟩ = some sv) (hI : Ints n₀ w sv zs) :
    SeqStopsK F n Tryd.prog 267 #[.pointer (some ⟨Bs, 0, none⟩)] (fun x : Int => #[Value.int .i64 x]) (Below n₀) (fun ys => ys = zs) (fun pre => pre <+: zs) zs.length w := fun l J Jx W hW _ _ hY h0 => by
  have hc' := (hW.cell (p := ⟨Bs, 0, none⟩) hBs).trans hc
  rcases hI.below (hW.mono hn₀) with ⟨A, c, rfl, rfl⟩ | ⟨b, off, cap, rfl, hb, hcs⟩
  · exact (values1_none_in F n h7 hro l Bs c A J W hc' h0).mono fun e W' ⟨he, hj⟩ => ⟨he, .inl ⟨_, rfl, hj⟩⟩
  · refine (values1_in F n h7 hro hn l Bs n₀ b off zs.length cap zs hreach hb J Jx hY W hc' hcs h0).mono ?_
    rintro e W' ⟨he, ⟨ys, rfl, hj⟩ | ⟨pre, ⟨k, hk, rfl⟩, hj⟩⟩
    · exact ⟨he, .inl ⟨_, upto_all zs, hj⟩⟩
    · exact ⟨he, .inr ⟨_, by rw [upto_take zs hk]; exact List.take_prefix _ _, hj⟩⟩
theorem values_calls (a : Option Addr) (len cap : Nat) (w : World) :
    Calls Tryd.prog 235 #[.slice a len cap] w fun e w' => e = .returned (.func (.func 267) #[] #[.pointer (some ⟨w.heap.size, 0, none⟩)]) ∧ w' = w.alloc (.cells #[.slice a len cap] 22) := by
  go_enter Tryd.func235, Tryd.ntmps235
  go_wp2
  go_ret
  exact ⟨rfl, rfl⟩
theorem infoI : (Tryd.prog.info? 3).map (fun i => (i.zero, i.size, i.bytes)) = some (some (.int .i64 0), 1, 8) := by kernel_rfl
set_option maxRecDepth 100000 in
set_option maxHeartbeats 2000000 in
theorem appendSeq_in (F : Fence) (n : Nat) (h3 : F.fn 285) (h5 : F.fn 267) (hro : F.round = none) (hn : 3 ≤ n) (Bv : Nat) (sv : Value) (zs : List Int) (hlen : zs.length ≤ maxLen) (hbytes : zs.length * 8 ≤ 140737488351232) (w : World) (hBv : Bv < w.heap.size) (hc : w.cell? ⟨Bv, 0, none⟩ = some sv) (hI : Ints w.heap.size w sv zs) :
    CallsIn F n Tryd.prog 285 #[.slice none 0 0, .func (.func 267) #[] #[.pointer (some ⟨Bv, 0, none⟩)]] w fun e W' => ∃ v, e = .returned v ∧ W'.ownsRow w.heap.size 3 1 v zs.length (zs.map (Value.int .i64)) ∧ (v = .slice none 0 0 ↔ zs = []) ∧ Below w.heap.size w W' := by
  have h1 : 1 ≤ n := by omega
  obtain ⟨i0, hi, hz0, hz1, hz2⟩ := info_parts infoI
  refine callsIn_of_wp_marks Tryd.func285 rfl h3 ?_ hro
  simp only [Tryd.ntmps285, List.size_toArray, List.length_cons, List.length_nil, Nat.reduceAdd, Nat.reduceSub, Array.replicate_succ, Array.replicate_zero, List.push_toArray, List.append_toArray, List.nil_append, List.cons_append]
  gi_wp2
  have bO := Boxed.new w 22 (.slice none 0 0)
  have hB0 : Below w.heap.size w (w.alloc (.cells #[.slice none 0 0] 22)) := (Below.refl _ w).alloc (Nat.le_refl _) _
  refine wpIn_rangeFunc_ownG hro h1 (gf := 267) (lb := #[.pointer (some ⟨Bv, 0, none⟩)]) rfl h5 (enters_of Tryd.func267 (by kernel_rfl) rfl)
    (values_stops F (n - 1) h5 hro (by omega) Bv w.heap.size sv zs hbytes _ (by simp; omega) (by simp) ((hB0.cell (p := ⟨Bv, 0, none⟩) hBv).trans hc) (hI.below hB0)) belowK_t (belowK_b (by simp)) (Below.refl _ _) (fun _ => rfl)
    (fun pre W => (∃ v, Boxed W w.heap.size 22 v ∧ W.ownsRow w.heap.size 3 1 v pre.length (pre.map (Value.int .i64)) ∧ (v = .slice none 0 0 ↔ pre = [])) ∧ Below w.heap.size w W)
    (fun _ _ _ => False)
    (OwnFrom.and (Own.from (holdsRow_own w.heap.size w.heap.size 22 3 1 (fun pre => pre.length) (fun pre => pre.map (Value.int .i64)) (fun pre v => v = .slice none 0 0 ↔ pre = [])) _) (ownFrom_below (Nat.le_refl _) (by simp)))
    (fun _ _ _ _ _ hs _ _ => hs)
    ⟨⟨_, bO, World.ownsRow_nil _ _ _ _, by simp⟩, hB0⟩
    (fun x => { tmps := #[.slice none 0 0, .func (.func 267) #[] #[.pointer (some ⟨Bv, 0, none⟩)], .pointer (some ⟨w.heap.size, 0, none⟩), undef, .slice none 0 0, .int .i64 x, .func (.func 267) #[] #[.pointer (some ⟨Bv, 0, none⟩)], .int .i64 x, undef, undef, undef, undef, undef], defers := [] }) ?assign ?body ?done ?stop
  case assign =>
    intro l x W K hK
    gi_wp2
    exact hK
  case body =>
    rintro l pre x W ⟨⟨v, hv, hrow, hnil⟩, hB⟩ hlt
    have hc := hv.cell
    gi_wp2_with (gi_at_builtin; refine wpListIn_append_own _ rfl _ _ 22 rfl w.heap.size 3 i0 (.int .i64 0) 1 8 Tryd.underlying22 hi hz0 hz1 hz2 rfl (by decide) _ _ _ rfl (hrow.alloc _) ⟨W.heap.size, 0, none⟩ 1 1 [.int .i64 x] rfl rfl (cell_one_new _ _ _) (by simp [Value.oneCell']) (by omega) (by omega) (by have := hB.size; simp; omega) ?_; intro v' w1 hown' hgrow _; obtain ⟨g', cap', rfl⟩ := ownsRow_succ hown'; obtain ⟨hv1, hv2, hr2, hk2, hb2⟩ := hv.appended (by decide) hrow hB.size (Nat.le_refl _) hown' hgrow; have hc1 := hv1.cell; have hf1 := hv1.frozen)
    exact ⟨hk2.from _, hb2, ⟨_, hv2, by simpa using hr2, by simp⟩, hB.trans hb2⟩
  case done =>
    rintro D ys W hD rfl ⟨⟨v, hv, hrow, hnil⟩, hB⟩ hK
    have hc := hv.cell
    gi_wp2
    refine ⟨by simp, .inl ⟨_, _, rfl, run_takeDeferred hK, ?_⟩⟩
    exact ⟨_, results_tmp rfl _ _ _, v, rfl, ownsRow_putObj hrow _ hK rfl, hnil, hB.trans (belowK_b (w := w) (Nat.le_refl _) W D _ _ (by simp at hD; omega) hK rfl rfl)⟩
  case stop =>
    intro D c pre W _ _ h _
    exact h.elim
theorem collect_calls (Bv : Nat) (sv : Value) (zs : List Int) (hlen : zs.length ≤ maxLen) (hbytes : zs.length * 8 ≤ 140737488351232) (w : World) (hBv : Bv < w.heap.size) (hc : w.cell? ⟨Bv, 0, none⟩ = some sv) (hI : Ints w.heap.size w sv zs) :
    Calls Tryd.prog 266 #[.func (.func 267) #[] #[.pointer (some ⟨Bv, 0, none⟩)]] w fun e W' => ∃ v, e = .returned v ∧ W'.ownsRow w.heap.size 3 1 v zs.length (zs.map (Value.int .i64)) ∧ (v = .slice none 0 0 ↔ zs = []) ∧ Below w.heap.size w W' := by
  have cA := (callsIn_wide (n := 3)).1 (appendSeq_in Fence.wide 3 trivial trivial rfl (Nat.le_refl _) Bv sv zs hlen hbytes w hBv hc hI)
  go_enter Tryd.func266, Tryd.ntmps266
  go_wp2_with (go_at_call 285; refine cA.mono ?_; rintro e w' ⟨v, rfl, hrow, hnil, hb⟩)
  go_ret
  exact ⟨v, rfl, hrow, hnil, hb⟩
def srt (l : List Int) : List Int := l.mergeSort fun x y => decide (x ≤ y)
theorem ownsRow_some {w : World} {base e : Nat} {v : Value} {zs : List Int} (h : w.ownsRow base e 1 v zs.length (zs.map (Value.int .i64))) : (v = .slice none 0 0 ∧ zs = []) ∨ ∃ g cap cur, v = .slice (some ⟨g, 0, none⟩) zs.length cap ∧ base ≤ g ∧ w.heap[g]? = some (.cells cur e (0, 0)) ∧ zs.length ≤ cap ∧ cap ≤ maxLen ∧ cur.size = cap * 1 ∧ cur.toList.take zs.length = zs.map encZ := by
  rcases h.2 with ⟨rfl, hz⟩ | ⟨g, cap, cur, rfl, h1, h2, h3, h4, h5, h6⟩
  · exact .inl ⟨rfl, List.eq_nil_of_length_eq_zero hz⟩
  · exact .inr ⟨g, cap, cur, rfl, h1, h2, h3, h4, h5, by simpa using h6⟩
theorem sort_calls {base e : Nat} {v : Value} {zs : List Int} {w : World} (h : w.ownsRow base e 1 v zs.length (zs.map (Value.int .i64))) (hsz : zs.length < 4611686018427387904) :
    Calls Tryd.prog 190 #[v] w fun e' w' => e' = .returned (.tuple #[]) ∧ w'.ownsRow base e 1 v (srt zs).length ((srt zs).map (Value.int .i64)) ∧ w.grownBy w' v.ownBlock := by
  rcases ownsRow_some h with ⟨rfl, rfl⟩ | ⟨g, cap, cur, rfl, hbase, hgb, r1, r2, r3, r4⟩
  · refine (AnyM.slices_Sort_int_none sortL none 0 w).mono ?_
    rintro e' w' ⟨rfl, rfl⟩
    exact ⟨rfl, by simpa [srt] using h, rfl, rfl, rfl, Nat.le_refl _, fun _ _ _ => rfl⟩
  · have hH : Holds encZ w g 0 zs.toArray := holds_of_block_i hgb r4
    refine (AnyM.slices_Sort_int sortL g 0 cap zs w hH (Array.getElem?_eq_some_iff.1 hgb).1 hsz).mono ?_
    rintro e' w' ⟨rfl, nn, os, rfl⟩
    have hl : (srt zs).length = zs.length := by simp [srt]
    refine ⟨rfl, ?_, grownBy_sorted_i _⟩
    rw [hl]
    exact ownsRow_sorted_i hl hbase hgb r1 r2 r3
theorem sorted_calls (Bv : Nat) (sv : Value) (zs : List Int) (hlen : zs.length ≤ maxLen) (hbytes : zs.length * 8 ≤ 140737488351232) (w : World) (hBv : Bv < w.heap.size) (hc : w.cell? ⟨Bv, 0, none⟩ = some sv) (hI : Ints w.heap.size w sv zs) :
    Calls Tryd.prog 234 #[.func (.func 267) #[] #[.pointer (some ⟨Bv, 0, none⟩)]] w fun e W' => ∃ v, e = .returned v ∧ W'.ownsRow w.heap.size 3 1 v (srt zs).length ((srt zs).map (Value.int .i64)) ∧ (v = .slice none 0 0 ↔ zs = []) ∧ Below w.heap.size w W' := by
  have cC := collect_calls Bv sv zs hlen hbytes w hBv hc hI
  go_enter Tryd.func234, Tryd.ntmps234
  go_wp2_with (first
    | (go_at_call 266; refine cC.mono ?_; rintro e w1 ⟨v, rfl, hrow, hnil, hb⟩)
    | (go_at_call 190; refine (sort_calls hrow (by omega)).mono ?_; rintro e w2 ⟨rfl, hrow2, hg⟩))
  go_ret
  exact ⟨v, rfl, hrow2, hnil, hb.grown hg hb.size (own_base hrow)⟩
theorem ownsRow_cut {w : World} {base e g cap : Nat} {n m : Nat} {xs : List Value} (h : w.ownsRow base e 1 (.slice (some ⟨g, 0, none⟩) n cap) n xs) (hm : m ≤ n) : w.ownsRow base e 1 (.slice (some ⟨g, 0, none⟩) m cap) m (xs.take m) := by
  obtain ⟨h0, h⟩ := h
  refine ⟨by rw [List.length_take]; omega, ?_⟩
  rcases h with ⟨h, _⟩ | ⟨g', cap', cur, hv, h1, h2, h3, h4, h5, h6⟩
  · cases h
  · injection hv with a1 a2 a3
    injection a1 with a1
    injection a1 with a1
    subst a1 a3
    refine .inr ⟨g, cap, cur, rfl, h1, h2, by omega, h4, h5, ?_⟩
    rw [← h6, List.take_take, Nat.min_eq_left (by omega)]
    simp
theorem compact_calls {base e : Nat} {v : Value} {zs : List Int} {w : World} (h : w.ownsRow base e 1 v zs.length (zs.map (Value.int .i64))) (hsz : zs.length ≤ 9223372036854775807) :
    Calls Tryd.prog 233 #[v] w fun e' w' => ∃ v', e' = .returned v' ∧ w'.ownsRow base e 1 v' (Lib.compact zs).length ((Lib.compact zs).map (Value.int .i64)) ∧ w.grownBy w' v.ownBlock := by
  rcases ownsRow_some h with ⟨rfl, rfl⟩ | ⟨g, cap, cur, rfl, hbase, hgb, r1, r2, r3, r4⟩
  · refine (AnyG.slices_Compact_int_empty compactL none 0 w).mono ?_
    rintro e' w' ⟨rfl, rfl⟩
    exact ⟨_, rfl, by simpa [Lib.compact, Lib.compactUpTo] using h, rfl, rfl, rfl, Nat.le_refl _, fun _ _ _ => rfl⟩
  · have hH : Holds encZ w g 0 zs.toArray := holds_of_block_i hgb r4
    refine (AnyG.slices_Compact_int compactL g 0 cap zs w hH hsz r1).mono ?_
    rintro e' w' ⟨rfl, q, rfl⟩
    have hle : (Lib.compact zs).length ≤ zs.length := by
      unfold Lib.compact Lib.compactUpTo
      have := List.length_filter_le (Lib.keeps zs.toArray) (List.range zs.length)
      simpa using this
    have hl : (Lib.compact zs ++ List.replicate (zs.length - (Lib.compact zs).length) 0).length = zs.length := by simp; omega
    have hrow := ownsRow_sorted_i (n := q) (os := #[]) hl hbase hgb r1 r2 r3
    have hg := grownBy_sorted_i (w := w) (g := g) (n := q) (os := #[]) (Lib.compact zs ++ List.replicate (zs.length - (Lib.compact zs).length) (0 : Int)).toArray
    have e0 : ∀ W : World, grow W #[] = W := fun W => by simp [grow]
    rw [e0] at hrow hg
    refine ⟨_, rfl, ?_, hg⟩
    have := ownsRow_cut hrow hle
    rwa [List.map_append, List.take_append_of_le_length (by simp), List.take_of_length_le (by simp)] at this
theorem R_int {e : Nat} {w : World} {base : Nat} {v : Value} {zs : List Int} (h : w.ownsRow base e 1 v zs.length (zs.map (Value.int .i64))) : Kd.R (Kd.int .i64) e w base (fun _ => True) v zs := by
  refine ⟨fun _ _ => trivial, zs.map (Value.int .i64), h, by simp [Kd.int, Kd.scalar], fun j p hj => ?_⟩
  show ((zs.map (Value.int .i64)).drop (j * 1)).take 1 = [Value.int .i64 p]
  have hl := (List.getElem?_eq_some_iff.1 hj).1
  rw [Nat.mul_one, List.drop_eq_getElem_cons (by simpa using hl)]
  have := (List.getElem?_eq_some_iff.1 hj).2
  simp [this]
theorem ints_of {w : World} {A : Option Addr} {c : Nat} {zs : List Int} (h : Kd.C (Kd.int .i64) w A zs.length zs) : Ints w.heap.size w (.slice A zs.length c) zs := by
  rcases Nat.eq_zero_or_pos zs.length with h0 | h0
  · have : zs = [] := List.eq_nil_of_length_eq_zero h0
    subst this
    exact .inl ⟨A, c, rfl, rfl⟩
  · obtain ⟨ad, rfl, hc⟩ := h.2.2 h0
    have cell : ∀ j (hj : j < zs.length), w.cell? (ad.add j) = some (.int .i64 zs[j]) := by
      intro j hj
      obtain ⟨cs, hl, hr, hcs⟩ := hc j zs[j] (List.getElem?_eq_getElem hj)
      have hr : cs = [Value.int .i64 zs[j]] := hr
      subst hr
      have := hcs 0 (.int .i64 zs[j]) rfl
      simpa [Kd.int, Kd.scalar] using this
    obtain ⟨b, off, sp⟩ := ad
    have c0 := cell 0 h0
    have hsp : sp = none := by
      cases sp with
      | none => rfl
      | some s =>
        simp only [World.cell?, Addr.add] at c0
        split at c0 <;> simp at c0
    subst hsp
    refine .inr ⟨b, off, c, rfl, World.block_lt_of_cell? w _ c0, fun j hj => ?_⟩
    have := cell j hj
    by_cases h1 : j = 0
    · subst h1
      simpa [Addr.add, hj] using this
    · simpa [Addr.add, hj, h1] using this
set_option maxHeartbeats 1000000 in
theorem different_calls (A0 : Option Addr) (c0 : Nat) (zs : List Int) (w : World) (hz : zs.length < 17592186043904) (h : Kd.C (Kd.int .i64) w A0 zs.length zs) :
    Calls Tryd.prog 196 #[.slice A0 zs.length c0] w fun e w' => ∃ v0_ : Value, e = .returned (v0_) ∧ Kd.R (Kd.int .i64) 3 w' w.heap.size (fun _ => True) v0_ (Lib.compact (srt zs)) ∧ Below w.heap.size w w' := by
  have hI := ints_of (c := c0) h
  have hB0 : Below w.heap.size w (w.alloc (.cells #[.slice A0 zs.length c0] 22)) := (Below.refl _ w).alloc (Nat.le_refl _) _
  have hs : w.heap.size + 1 = (w.alloc (.cells #[.slice A0 zs.length c0] 22)).heap.size := by simp
  have cS := sorted_calls w.heap.size (.slice A0 zs.length c0) zs (by unfold maxLen; omega) (by omega) (w.alloc (.cells #[.slice A0 zs.length c0] 22)) (by simp) (Boxed.new w 22 (.slice A0 zs.length c0)).cell (by
    have := hI.below hB0
    rcases this with h | ⟨b, off, cap, e, hb, hc⟩
    · exact .inl h
    · exact .inr ⟨b, off, cap, e, by omega, hc⟩)
  have hl : (srt zs).length = zs.length := by simp [srt]
  go_enter Tryd.func196, Tryd.ntmps196
  go_wp2_with (first
    | (go_at_call 235; refine (values_calls _ _ _ _).mono ?_; rintro e w1 ⟨rfl, rfl⟩)
    | (go_at_call 234; refine cS.mono ?_; rintro e w2 ⟨v, rfl, hrow, hnil, hb⟩)
    | (go_at_call 233; refine (compact_calls hrow (by omega)).mono ?_; rintro e w3 ⟨v2, rfl, hrow2, hg⟩))
  go_ret
  have hb' := hB0.trans (hb.mono (by omega : w.heap.size ≤ _))
  exact ⟨v2, rfl, R_int (own_weaken hrow2 (by omega)), hb'.grown hg hb'.size (fun k hk => Nat.le_trans (by omega) (own_base hrow k hk))⟩
end Go.Proofs.YtimjblnglhmakaaDoor.HD
namespace Go.Proofs.YtimjblnglhmakaaDoor.P
open Go.RowKit Go.Proofs.YtimjblnglhmakaaDoorW.PrintWords Go.Proofs.YtimjblnglhmakaaDoorW.PrintLast Go.Proofs.YtimjblnglhmakaaDoorW.PrintMore
open Bool renaming true → T, false → F
open List renaming setIfInBounds_toArray → L_, set_cons_zero → M_, set_cons_succ → N_, map_toArray → P_, map_cons → Q_, map_nil → R_, length_drop → S_, length_take → U_
open Aside0 renaming mk → A_
attribute [local go_sem] max2_int min2_int max_two min_two max_three min_three max_four min_four
set_option linter.unusedVariables false
set_option linter.unusedSimpArgs false
attribute [local go_sem] fldOrder_0 fldOrder_1
def impl_different.f (l0 : List Int) : Option (List Int) := if l0.length < 17592186043904 then some (Lib.compact (HD.srt l0)) else none
theorem impl_different.calls (A0 : Option Addr) (c0 : Nat) (l0 : List Int) (r : List Int) (w : World) (hr0 : Kd.C (Kd.int .i64) w A0 l0.length l0) (hc0 : l0.length ≤ c0) (h : impl_different.f l0 = some r) :
 Calls Tryd.prog 196 #[.slice A0 l0.length c0] w fun e w'=>∃ v0_ : Value,e = .returned (v0_) ∧ Kd.R (Kd.int .i64) 3 w' w.heap.size (fun _=>True) v0_ r ∧ Below w.heap.size w w':=by
 clear hc0;unfold impl_different.f at h
 split at h
 ·rename_i hz
  injection h with h;subst h;exact HD.different_calls A0 c0 l0 w hz hr0
 ·cases h
mutual
def impl_Order_levels.l0 : Nat → List Int → List Int → List Int → Int → Int → Option (List Int)
 | 0,_,_,_,_,_=>none
 | k + 1,x3,x5,x17,x18,x19=>if x19 < x18 then (if 0 ≤ x19 then (if x19 < (x17.length : Int) then (impl_Order_levels.l1 k x3 x5 (rd x17 x19) 0 x17 x18 x19 x5 (x5.length : Int) 0) else (none)) else (none)) else (some x3)
def impl_Order_levels.l1 : Nat → List Int → List Int → Int → Int → List Int → Int → Int → List Int → Int → Int → Option (List Int)
 | 0,_,_,_,_,_,_,_,_,_,_=>none
 | k + 1,x3,x5,x7,x8,x17,x18,x19,x23,x24,x25=>if x25 < x24 then (if 0 ≤ x25 then (if x25 < (x23.length : Int) then (if (rd x23 x25) = x7 then (impl_Order_levels.l1 k x3 x5 x7 x8 x17 x18 x19 x23 x24 (wrap64 (x25 + 1))) else (if (Go.bits .andNot .i64 (rd x23 x25) x7) = 0 then (impl_Order_levels.l1 k x3 x5 x7 (wrap64 (x8 + 1)) x17 x18 x19 x23 x24 (wrap64 (x25 + 1))) else (impl_Order_levels.l1 k x3 x5 x7 x8 x17 x18 x19 x23 x24 (wrap64 (x25 + 1))))) else (none)) else (none)) else (if x3.length < 17592186044416 then (impl_Order_levels.l0 k (x3 ++ [x8]) x5 x17 x18 (wrap64 (x19 + 1))) else (none))
end
def impl_Order_levels.f (k : Nat) (a0_0 : Int) (l0_1 : List Int) : Option (List Int) := (impl_Order_mirror.f k a0_0 l0_1).bind fun bt625 => ((impl_different.f bt625.2).bind fun t629 => (impl_Order_levels.l0 k (([] : List Int)) t629 bt625.2 (bt625.2.length : Int) 0))
set_option maxHeartbeats 8000000 in
set_option maxRecDepth 100000 in
theorem impl_Order_levels.calls (k : Nat) (a0_0 : Int) (A0_1 : Option Addr) (c0_1 : Nat) (l0_1 : List Int) (r : List Int) (w : World) (hr0_1 : Kd.C (Kd.int .i64) w A0_1 l0_1.length l0_1) (hc0_1 : l0_1.length ≤ c0_1) (h : impl_Order_levels.f k a0_0 l0_1 = some r) :
 Calls Tryd.prog 116 #[.agg #[.int .i64 a0_0,.slice A0_1 l0_1.length c0_1]] w fun e w'=>∃ v0_ : Value,e = .returned (v0_) ∧ Kd.R (Kd.int .i64) 3 w' w.heap.size (fun _=>True) v0_ r ∧ Below w.heap.size w w':=by
 have hu28:=Tryd.underlying28;have HR0_1:=A_ hr0_1;have HC0_1:=A_ hc0_1;clear hr0_1 hc0_1;have HB:=A_ (Below.refl w.heap.size w);have H : ((impl_Order_mirror.f k a0_0 l0_1).bind fun bt625=>((impl_different.f bt625.2).bind fun t629=>(impl_Order_levels.l0 k (([] : List Int)) t629 bt625.2 (bt625.2.length : Int) 0))) = some r:=h;clear h;obtain ⟨y622,hy622⟩ : ∃ y_ : List Int,y_ = (([] : List Int)):=⟨_,rfl⟩;replace H : ((impl_Order_mirror.f k a0_0 l0_1).bind fun bt625=>((impl_different.f bt625.2).bind fun t629=>(impl_Order_levels.l0 k y622 t629 bt625.2 (bt625.2.length : Int) 0))) = some r:=by first|(rw [hy622];with_reducible exact H)|(have H2_:=(Option.bind_some _ _).symm.trans H;rw [hy622];with_reducible exact H2_)|(have H2_:=(Option.bind_some _ _).symm.trans H;with_reducible exact H2_)|with_reducible exact H|(rw [hy622];exact H)|exact H
 have Ny622:=A_ hy622;clear hy622;replace H:=Option.bind_eq_some_iff.mp H;obtain ⟨⟨t625,t626⟩,A20,H⟩:=H;replace H : ((impl_different.f t626).bind fun t629=>(impl_Order_levels.l0 k y622 t629 t626 (t626.length : Int) 0)) = some r:=H;have A2:=A_ A20;clear A20;replace H:=Option.bind_eq_some_iff.mp H;obtain ⟨t629,A30,H⟩:=H;replace H : (impl_Order_levels.l0 k y622 t629 t626 (t626.length : Int) 0) = some r:=H;have A3:=A_ A30;clear A30;have H':=A_ H;clear H;go_enter Tryd.func116,Tryd.ntmps116
 go_wp2_with (first|((with_reducible refine gate_dst (N:=1) rfl ?_);refine box_event ?hg (N:=1) ?hd (cs:=#[.int .i64 a0_0,.slice A0_1 l0_1.length c0_1]) (t:=28) ?hr ?_;(case hd=>rfl);(case hg=>rfl);(case hr=>first|(go_simp;done)|(go_simp;rfl));intro gb621 hg w4 hbox hb;have BK621:=A_ (hbox);have GW621:=A_ ((by rw [hg];exact (below_size bb_) : w.heap.size ≤ gb621));have GE621:=A_ ((by rw [hg];exact (below_size bb_) : w.heap.size ≤ gb621));replace HB:=A_ (below_step bb_ hb);clear hb hbox hg)|((with_reducible refine gate_dst (N:=11) rfl ?_);refine Kd.R_lit (Kd.int .i64) _ 3 ?hg (N:=11) ?hd (xs:=([] : List Int)) (inner:=[]) (ok:=fun _=>True) (okp:=fun _=>True) ?hr ?hp (fun _ hk=>hk) trivial (Below.refl _ _) (Nat.le_refl _) (by simp) ?_;(case hd=>rfl);(case hg=>rfl);(case hr=>first|(go_simp;done)|(go_simp;rfl));(case hp=>exact (Reps.none _ _));intro v623 w5 ho6 hb hg_ hnew_;clear hg_ hnew_;(first|rw [← Ny622.out] at ho6|(simp only [Int.reduceToNat] at ho6;rw [← Ny622.out] at ho6));have HO624:=A_ (Kd.R_lower ho6 (below_size bb_));replace BK621:=bz BK621 hb;replace HB:=A_ (below_step bb_ hb);clear hb ho6;have hcz7_0 : w5.cell? ⟨gb621,0,none⟩ = some (.int .i64 a0_0):=blk_cell BK621.out 0;have hcz7_1 : w5.cell? ⟨gb621,1,none⟩ = some (.slice A0_1 l0_1.length c0_1):=blk_cell BK621.out 1;have hfz7_0:=blk_frozen BK621.out 0;have hfz7_1:=blk_frozen BK621.out 1)|((with_reducible refine gate_callee (f:=113) rfl ?_);refine goesL_ (some 13) rfl rfl Tryd.func113 (by kernel_rfl) rfl #[.agg #[.int .i64 a0_0,.slice A0_1 l0_1.length c0_1]] rfl au_ ?_;(with_reducible refine (impl_Order_mirror.calls k a0_0 _ _ l0_1 t625 t626 _ ?side1 ?side2 A2.out).mono ?_);(case side1=>exact cl_ (Kd.C_below HR0_1.out HB.out));(case side2=>exact HC0_1.out);rintro e w8 ⟨v627,rfl,ho0,hb⟩;refine ⟨_,rfl,?_⟩;have HO628:=A_ (Kd.R_lower (Kd.R_new' ho0 (Kd.R_lt (rl_ HO624))) (below_size bb_));replace HO624:=A_ (Kd.R_elder' (rl_ HO624) (Kd.R_base ho0) hb);replace BK621:=bz BK621 hb;replace HB:=A_ (below_step bb_ hb);(try clear hb);(try clear hb2);(try clear hk);(try clear hi);(try clear ho0);obtain ⟨Ao9,co9,eo9⟩:=Kd.R_slice HO628.out;subst eo9)|((with_reducible refine gate_callee (f:=196) rfl ?_);refine goesL_ (some 16) rfl rfl Tryd.func196 (by kernel_rfl) rfl #[.slice Ao9 t626.length co9] rfl au_ ?_;(with_reducible refine (impl_different.calls _ _ t626 t629 _ ?side1 ?side2 A3.out).mono ?_);(case side1=>exact cl_ (Kd.R_reads' HO628.out).2.2);(case side2=>exact (Kd.R_reads' HO628.out).2.1);rintro e w10 ⟨v630,rfl,ho0,hb⟩;refine ⟨_,rfl,?_⟩;have HO631:=A_ (Kd.R_lower (Kd.R_new' (Kd.R_new' ho0 (Kd.R_lt (rl_ HO624))) (Kd.R_lt (rl_ HO628))) (below_size bb_));replace HO624:=A_ (Kd.R_elder' (rl_ HO624) (Kd.R_base ho0) hb);replace HO628:=A_ (Kd.R_elder' (rl_ HO628) (Kd.R_base ho0) hb);replace BK621:=bz BK621 hb;replace HB:=A_ (below_step bb_ hb);(try clear hb);(try clear hb2);(try clear hk);(try clear hi);(try clear ho0)))
 go_loopg [3,19] k (fun kq v3 v19 w'=>∃ (x3_1 : List Int) (x19_1 : Int),v19 = .int .i64 x19_1 ∧ Aside0 (impl_Order_levels.l0 kq x3_1 t629 t626 (t626.length : Int) x19_1 = some r) ∧ Aside0 (kq ≤ k) ∧ Aside0 (Kd.R (Kd.int .i64) 3 w' w.heap.size (fun k_=>some k_ ≠ (v630 : Value).ownBlock ∧ some k_ ≠ ((.slice Ao9 t626.length co9) : Value).ownBlock) v3 x3_1) ∧ Aside0 (Kd.R (Kd.int .i64) 3 w' w.heap.size (fun k_=>some k_ ≠ (v3 : Value).ownBlock ∧ some k_ ≠ ((.slice Ao9 t626.length co9) : Value).ownBlock) v630 t629) ∧ Aside0 (Kd.R (Kd.int .i64) 3 w' w.heap.size (fun k_=>some k_ ≠ (v3 : Value).ownBlock ∧ some k_ ≠ (v630 : Value).ownBlock) (.slice Ao9 t626.length co9) t626) ∧ Aside0 (w'.heap[gb621]? = some (.cells #[.int .i64 a0_0,(.slice A0_1 l0_1.length c0_1)] 28 (0,0))) ∧ Aside0 (Below w.heap.size w w'))
 case atStart=>exact ⟨(y622),(0),(by first|rfl|(simp;done)|(simp [*];done)),H',⟨Nat.le_refl _⟩,⟨by (with_reducible repeat (first|apply Kd.R_alloc|apply Kd.R_drewN|apply Kd.R_drew));exact Kd.R_mono HO624.out (fun _ hk=>⟨hk.2,hk.1.2⟩)⟩,⟨by (with_reducible repeat (first|apply Kd.R_alloc|apply Kd.R_drewN|apply Kd.R_drew));exact Kd.R_mono HO631.out (fun _ hk=>⟨hk.1.2,hk.2⟩)⟩,⟨by (with_reducible repeat (first|apply Kd.R_alloc|apply Kd.R_drewN|apply Kd.R_drew));exact Kd.R_mono HO628.out (fun _ hk=>⟨hk.1.2,hk.2⟩)⟩,⟨bl_ BK621⟩,⟨bb_⟩⟩
 case round =>
  clear H';try clear c1
  try clear p2
  try clear hcz7_0
  try clear hcz7_1
  try clear hfz7_0
  try clear hfz7_1
  obtain ⟨x3_1,x19_1,rfl,HA,HK1,HO_3,HO_5,HO_17,BK621,HB⟩:=hrel;cases gk with
  | zero => exact absurd HA.out (by simp [impl_Order_levels.l0])
  | succ k1 =>
   have H:=HA.out;clear HA;simp only [impl_Order_levels.l0] at H
   by_cases c11 : x19_1 < (t626.length : Int)
   ·rw [if_pos c11] at H;have c11b0 : decide (x19_1 < (t626.length : Int)) = true:=decide_eq_true c11;clear c11;by_cases c12 : 0 ≤ x19_1
    ·rw [if_pos c12] at H;have c12b0 : decide (0 ≤ x19_1) = true:=decide_eq_true c12;clear c12;by_cases c13 : x19_1 < (t626.length : Int)
     ·rw [if_pos c13] at H;have c13b0 : decide (x19_1 < (t626.length : Int)) = true:=decide_eq_true c13;clear c13;have H':=A_ H;clear H;have p632 : 0 ≤ (x19_1 : Int):=of_decide_eq_true (by first|(with_reducible assumption)|assumption);have q632 : x19_1 < (t626.length : Int):=of_decide_eq_true (by first|(with_reducible assumption)|assumption);obtain ⟨ad632,e632,hx632_0⟩:=Kd.at_int (Kd.R_reads' HO_17.out).2.2 x19_1 p632 q632;cases e632
      replace p632:=eq_true p632;replace q632:=eq_true q632;obtain ⟨Ao14,co14,eo14⟩:=Kd.R_slice HO_5.out;subst eo14;go_wp2
      go_loopg [8,25] k1 (fun kq v8 v25 w'=>∃ (x8_2 : Int) (x25_2 : Int),v8 = .int .i64 x8_2 ∧ v25 = .int .i64 x25_2 ∧ Aside0 (impl_Order_levels.l1 kq x3_1 t629 (rd t626 x19_1) x8_2 t626 (t626.length : Int) x19_1 t629 (t629.length : Int) x25_2 = some r) ∧ Aside0 (kq ≤ k1) ∧ Aside0 (Kd.R (Kd.int .i64) 3 w' w.heap.size (fun k_=>some k_ ≠ ((.slice Ao14 t629.length co14) : Value).ownBlock ∧ some k_ ≠ ((.slice (some ad632) t626.length co9) : Value).ownBlock ∧ some k_ ≠ ((.slice Ao14 t629.length co14) : Value).ownBlock) u3 x3_1) ∧ Aside0 (Kd.R (Kd.int .i64) 3 w' w.heap.size (fun k_=>some k_ ≠ (u3 : Value).ownBlock ∧ some k_ ≠ ((.slice (some ad632) t626.length co9) : Value).ownBlock) (.slice Ao14 t629.length co14) t629) ∧ Aside0 (Kd.R (Kd.int .i64) 3 w' w.heap.size (fun k_=>some k_ ≠ (u3 : Value).ownBlock ∧ some k_ ≠ ((.slice Ao14 t629.length co14) : Value).ownBlock ∧ some k_ ≠ ((.slice Ao14 t629.length co14) : Value).ownBlock) (.slice (some ad632) t626.length co9) t626) ∧ Aside0 (Kd.R (Kd.int .i64) 3 w' w.heap.size (fun k_=>some k_ ≠ (u3 : Value).ownBlock ∧ some k_ ≠ ((.slice (some ad632) t626.length co9) : Value).ownBlock) (.slice Ao14 t629.length co14) t629) ∧ Aside0 (w'.heap[gb621]? = some (.cells #[.int .i64 a0_0,(.slice A0_1 l0_1.length c0_1)] 28 (0,0))) ∧ Aside0 (Below w.heap.size w w'))
      case atStart=>exact ⟨(0),(0),(by first|rfl|(simp;done)|(simp [*];done)),(by first|rfl|(simp;done)|(simp [*];done)),H',⟨Nat.le_refl _⟩,⟨by (with_reducible repeat (first|apply Kd.R_alloc|apply Kd.R_drewN|apply Kd.R_drew));exact Kd.R_mono HO_3.out (fun _ hk=>⟨hk.1,⟨hk.2,hk.1⟩⟩)⟩,⟨by (with_reducible repeat (first|apply Kd.R_alloc|apply Kd.R_drewN|apply Kd.R_drew));exact HO_5.out⟩,⟨by (with_reducible repeat (first|apply Kd.R_alloc|apply Kd.R_drewN|apply Kd.R_drew));exact Kd.R_mono HO_17.out (fun _ hk=>⟨hk.1,⟨hk.2,hk.2⟩⟩)⟩,⟨by (with_reducible repeat (first|apply Kd.R_alloc|apply Kd.R_drewN|apply Kd.R_drew));exact HO_5.out⟩,⟨bl_ BK621⟩,⟨bb_⟩⟩
      case round =>
       clear H';try clear c1
       try clear p2
       try clear p6
       try clear q6
       try clear hx6
       try clear c11
       try clear c11b0
       try clear c12
       try clear c12b0
       try clear c13
       try clear c13b0
       try clear hcz7_0
       try clear hcz7_1
       try clear hfz7_0
       try clear hfz7_1
       try clear hx632_0
       try clear p2
       try clear p632
       try clear q632
       obtain ⟨x8_2,x25_2,rfl,rfl,HA,HK2,HO_3,HO_5,HO_17,HO_23,BK621,HB⟩:=hrel;cases gk with
       | zero=>exact absurd HA.out (by simp [impl_Order_levels.l1])
       | succ k2 =>
        have H:=HA.out;clear HA;simp only [impl_Order_levels.l1] at H
        by_cases c15 : x25_2 < (t629.length : Int)
        ·rw [if_pos c15] at H;have c15b0 : decide (x25_2 < (t629.length : Int)) = true:=decide_eq_true c15;clear c15;by_cases c16 : 0 ≤ x25_2
         ·rw [if_pos c16] at H;have c16b0 : decide (0 ≤ x25_2) = true:=decide_eq_true c16;clear c16;by_cases c17 : x25_2 < (t629.length : Int)
          ·rw [if_pos c17] at H;have c17b0 : decide (x25_2 < (t629.length : Int)) = true:=decide_eq_true c17;clear c17;by_cases c18 : (rd t629 x25_2) = (rd t626 x19_1)
           ·rw [if_pos c18] at H;have c18b0 : ((rd t629 x25_2) == (rd t626 x19_1)) = true:=beq_iff_eq.mpr c18;have c18b1 : ((rd t629 x25_2) != (rd t626 x19_1)) = false:=bne_eq_false_iff_eq.mpr c18;clear c18;have H':=A_ H;clear H;have p633 : 0 ≤ (x25_2 : Int):=of_decide_eq_true (by first|(with_reducible assumption)|assumption);have q633 : x25_2 < (t629.length : Int):=of_decide_eq_true (by first|(with_reducible assumption)|assumption);obtain ⟨ad633,e633,hx633_0⟩:=Kd.at_int (Kd.R_reads' HO_23.out).2.2 x25_2 p633 q633;cases e633
            replace p633:=eq_true p633;replace q633:=eq_true q633;go_wp2
            go_roundg k2
            case measure=>have:=HK1.out;have:=HK2.out;omega
            case rel=>exact ⟨(x8_2),(wrap64 (x25_2 + 1)),(by first|rfl|(simp;done)|(simp [*];done)),(by first|rfl|(simp;done)|(simp [*];done)),H',⟨by have:=HK1.out;have:=HK2.out;omega⟩,⟨by (with_reducible repeat (first|apply Kd.R_alloc|apply Kd.R_drewN|apply Kd.R_drew));exact HO_3.out⟩,⟨by (with_reducible repeat (first|apply Kd.R_alloc|apply Kd.R_drewN|apply Kd.R_drew));exact HO_5.out⟩,⟨by (with_reducible repeat (first|apply Kd.R_alloc|apply Kd.R_drewN|apply Kd.R_drew));exact HO_17.out⟩,⟨by (with_reducible repeat (first|apply Kd.R_alloc|apply Kd.R_drewN|apply Kd.R_drew));exact HO_23.out⟩,⟨bl_ BK621⟩,⟨bb_⟩⟩
           ·rw [if_neg c18] at H;have c18b0 : ((rd t629 x25_2) == (rd t626 x19_1)) = false:=beq_eq_false_iff_ne.mpr c18;have c18b1 : ((rd t629 x25_2) != (rd t626 x19_1)) = true:=bne_iff_ne.mpr c18;by_cases c19 : (Go.bits .andNot .i64 (rd t629 x25_2) (rd t626 x19_1)) = 0
            ·rw [if_pos c19] at H;have c19b0 : ((Go.bits .andNot .i64 (rd t629 x25_2) (rd t626 x19_1)) == 0) = true:=beq_iff_eq.mpr c19;have c19b1 : ((Go.bits .andNot .i64 (rd t629 x25_2) (rd t626 x19_1)) != 0) = false:=bne_eq_false_iff_eq.mpr c19;clear c19;have H':=A_ H;clear H;have p633 : 0 ≤ (x25_2 : Int):=of_decide_eq_true (by first|(with_reducible assumption)|assumption);have q633 : x25_2 < (t629.length : Int):=of_decide_eq_true (by first|(with_reducible assumption)|assumption);obtain ⟨ad633,e633,hx633_0⟩:=Kd.at_int (Kd.R_reads' HO_23.out).2.2 x25_2 p633 q633;cases e633
             replace p633:=eq_true p633;replace q633:=eq_true q633;go_wp2
             go_roundg k2
             case measure=>have:=HK1.out;have:=HK2.out;omega
             case rel=>exact ⟨(wrap64 (x8_2 + 1)),(wrap64 (x25_2 + 1)),(by first|rfl|(simp;done)|(simp [*];done)),(by first|rfl|(simp;done)|(simp [*];done)),H',⟨by have:=HK1.out;have:=HK2.out;omega⟩,⟨by (with_reducible repeat (first|apply Kd.R_alloc|apply Kd.R_drewN|apply Kd.R_drew));exact HO_3.out⟩,⟨by (with_reducible repeat (first|apply Kd.R_alloc|apply Kd.R_drewN|apply Kd.R_drew));exact HO_5.out⟩,⟨by (with_reducible repeat (first|apply Kd.R_alloc|apply Kd.R_drewN|apply Kd.R_drew));exact HO_17.out⟩,⟨by (with_reducible repeat (first|apply Kd.R_alloc|apply Kd.R_drewN|apply Kd.R_drew));exact HO_23.out⟩,⟨bl_ BK621⟩,⟨bb_⟩⟩
            ·rw [if_neg c19] at H;have c19b0 : ((Go.bits .andNot .i64 (rd t629 x25_2) (rd t626 x19_1)) == 0) = false:=beq_eq_false_iff_ne.mpr c19;have c19b1 : ((Go.bits .andNot .i64 (rd t629 x25_2) (rd t626 x19_1)) != 0) = true:=bne_iff_ne.mpr c19;have H':=A_ H;clear H;have p633 : 0 ≤ (x25_2 : Int):=of_decide_eq_true (by first|(with_reducible assumption)|assumption);have q633 : x25_2 < (t629.length : Int):=of_decide_eq_true (by first|(with_reducible assumption)|assumption);obtain ⟨ad633,e633,hx633_0⟩:=Kd.at_int (Kd.R_reads' HO_23.out).2.2 x25_2 p633 q633;cases e633
             replace p633:=eq_true p633;replace q633:=eq_true q633;go_wp2
             go_roundg k2
             case measure=>have:=HK1.out;have:=HK2.out;omega
             case rel=>exact ⟨(x8_2),(wrap64 (x25_2 + 1)),(by first|rfl|(simp;done)|(simp [*];done)),(by first|rfl|(simp;done)|(simp [*];done)),H',⟨by have:=HK1.out;have:=HK2.out;omega⟩,⟨by (with_reducible repeat (first|apply Kd.R_alloc|apply Kd.R_drewN|apply Kd.R_drew));exact HO_3.out⟩,⟨by (with_reducible repeat (first|apply Kd.R_alloc|apply Kd.R_drewN|apply Kd.R_drew));exact HO_5.out⟩,⟨by (with_reducible repeat (first|apply Kd.R_alloc|apply Kd.R_drewN|apply Kd.R_drew));exact HO_17.out⟩,⟨by (with_reducible repeat (first|apply Kd.R_alloc|apply Kd.R_drewN|apply Kd.R_drew));exact HO_23.out⟩,⟨bl_ BK621⟩,⟨bb_⟩⟩
          ·rw [if_neg c17] at H;exact absurd H (by simp)
         ·rw [if_neg c16] at H;exact absurd H (by simp)
        ·rw [if_neg c15] at H;have c15b0 : decide (x25_2 < (t629.length : Int)) = false:=decide_eq_false c15;clear c15;by_cases c20 : x3_1.length < 17592186044416
         ·rw [if_pos c20] at H;have LMc20:=A_ c20;clear c20;obtain ⟨y634,hy634⟩ : ∃ y_ : List Int,y_ = (x3_1 ++ [x8_2]):=⟨_,rfl⟩;replace H : (impl_Order_levels.l0 k2 y634 t629 t626 (t626.length : Int) (wrap64 (x19_1 + 1))) = some r:=by first|(rw [hy634];with_reducible exact H)|(have H2_:=(Option.bind_some _ _).symm.trans H;rw [hy634];with_reducible exact H2_)|(have H2_:=(Option.bind_some _ _).symm.trans H;with_reducible exact H2_)|with_reducible exact H|(rw [hy634];exact H)|exact H
          have Ny634:=A_ hy634;clear hy634;have H':=A_ H;clear H;go_wp2_with (first|((with_reducible refine gate_builtin (b:=.append) (xs:=#[.tmp 41,.tmp 43]) rfl ?_);at_builtin;refine Kd.R_append (Kd.int .i64) (w0:=w) w.heap.size rfl (.tmp 41) (.tmp 43) 22 3 (.int .i64 0) 8 rfl Tryd.underlying22 info3 rfl (by decide) (by omega) u3 x3_1 x8_2 [.int .i64 x8_2] (fun k_=>some k_ ≠ (.slice Ao14 t629.length co14 : Value).ownBlock ∧ some k_ ≠ (.slice (some ad632) t626.length co9 : Value).ownBlock ∧ some k_ ≠ (.slice Ao14 t629.length co14 : Value).ownBlock) (fun _=>False) rfl rfl ?aP (fun _ hk=>hk.elim) ?aF ?aO ?aB ?aS ?aL ?_;(case aP=>exact rfl);(case aB=>exact bb_);(case aF=>exact (fun k_ hk=>⟨Kd.fresh' (Kd.R_lt (rl_ HO_5)) k_ hk,Kd.fresh' (Kd.R_lt (rl_ HO_17)) k_ hk,Kd.fresh' (Kd.R_lt (rl_ HO_23)) k_ hk⟩));(case aO=>exact (rl_ HO_3));(case aS=>exact (below_size bb_));(case aL=>have:=LMc20.out;omega);intro v635 w21 ho hb hg hat;rw [← Ny634.out] at ho;replace HO_5:=A_ (Kd.R_after (ok:=(fun k_=>some k_ ≠ (.slice (some ad632) t626.length co9 : Value).ownBlock)) (by (with_reducible repeat (first|apply Kd.R_alloc|apply Kd.R_drewN|apply Kd.R_drew));exact Kd.R_mono HO_5.out (fun _ hk=>⟨hk.2,hk.1⟩)) hg hat);replace HO_17:=A_ (Kd.R_after (ok:=(fun k_=>some k_ ≠ (.slice Ao14 t629.length co14 : Value).ownBlock ∧ some k_ ≠ (.slice Ao14 t629.length co14 : Value).ownBlock)) (by (with_reducible repeat (first|apply Kd.R_alloc|apply Kd.R_drewN|apply Kd.R_drew));exact Kd.R_mono HO_17.out (fun _ hk=>⟨⟨hk.2.1,hk.2.2⟩,hk.1⟩)) hg hat);replace HO_23:=A_ (Kd.R_after (ok:=(fun k_=>some k_ ≠ (.slice (some ad632) t626.length co9 : Value).ownBlock)) (by (with_reducible repeat (first|apply Kd.R_alloc|apply Kd.R_drewN|apply Kd.R_drew));exact Kd.R_mono HO_23.out (fun _ hk=>⟨hk.2,hk.1⟩)) hg hat);replace BK621:=A_ (blk_grown (g:=gb621) (o:=.cells #[.int .i64 a0_0,.slice A0_1 l0_1.length c0_1] 28 (0,0)) (bl_ BK621) hg (Kd.R_ne HO_3.out BK621.out (by decide)));replace HB:=A_ (hb);have HO636:=A_ (ho);clear HO_3;clear ho hb hg hat))
          go_roundg k2
          case measure=>have:=HK1.out;have:=HK2.out;omega
          case rel=>exact ⟨(y634),(wrap64 (x19_1 + 1)),(by first|rfl|(simp;done)|(simp [*];done)),H',⟨by have:=HK1.out;have:=HK2.out;omega⟩,⟨by (with_reducible repeat (first|apply Kd.R_alloc|apply Kd.R_drewN|apply Kd.R_drew));exact Kd.R_mono HO636.out (fun _ hk=>⟨hk.1,hk.2.1⟩)⟩,⟨by (with_reducible repeat (first|apply Kd.R_alloc|apply Kd.R_drewN|apply Kd.R_drew));exact Kd.R_mono HO_5.out (fun _ hk=>⟨hk.2,hk.1⟩)⟩,⟨by (with_reducible repeat (first|apply Kd.R_alloc|apply Kd.R_drewN|apply Kd.R_drew));exact Kd.R_mono HO_17.out (fun _ hk=>⟨hk.2,hk.1.1⟩)⟩,⟨bl_ BK621⟩,⟨bb_⟩⟩
         ·rw [if_neg c20] at H;exact absurd H (by simp)
     ·rw [if_neg c13] at H;exact absurd H (by simp)
    ·rw [if_neg c12] at H;exact absurd H (by simp)
   ·rw [if_neg c11] at H;have c11b0 : decide (x19_1 < (t626.length : Int)) = false:=decide_eq_false c11;clear c11;obtain rfl:=Option.some.inj H;go_wp2
    go_ret
    exact ⟨_,by first|rfl|(simp [errW_none,errW_some] <;> rfl)|(simp [*,errW_none,errW_some] <;> rfl),by (with_reducible repeat (first|apply Kd.R_alloc|apply Kd.R_drewN|apply Kd.R_drew));exact Kd.R_mono HO_3.out (fun _ hk=>trivial),bb_⟩
def impl_TraceOf.f (k : Nat) (a0_0 : Int) (l0_1 : List Int) : Option (List Int × Bool) := (impl_isSemi.f k a0_0 l0_1).bind fun t638 => (if t638 = true then ((impl_Order_mirror.f k a0_0 l0_1).bind fun bt639 => ((impl_relation.f k a0_0 (fun x0_ x1_ => impl_TraceOf_1.f x0_ x1_ bt639.1 bt639.2 a0_0 l0_1)).bind fun bt644 => ((impl_Order_levels.f k bt644.1 bt644.2).bind fun t648 => (some (t648, true))))) else (some (([] : List Int), false)))
set_option maxHeartbeats 8000000 in
set_option maxRecDepth 100000 in
theorem impl_TraceOf.calls (k : Nat) (a0_0 : Int) (A0_1 : Option Addr) (c0_1 : Nat) (l0_1 : List Int) (r1 : List Int) (r2 : Bool) (w : World) (hr0_1 : Kd.C (Kd.int .i64) w A0_1 l0_1.length l0_1) (hc0_1 : l0_1.length ≤ c0_1) (hT : TabOK w) (h : impl_TraceOf.f k a0_0 l0_1 = some (r1,r2)) :
 Calls Tryd.prog 24 #[.agg #[.int .i64 a0_0,.slice A0_1 l0_1.length c0_1]] w fun e w'=>∃ v0_ : Value,e = .returned (.tuple #[v0_,.bool r2]) ∧ Kd.R (Kd.int .i64) 3 w' w.heap.size (fun _=>True) v0_ r1 ∧ Below w.heap.size w w':=by
 have hu28:=Tryd.underlying28;have HT:=A_ hT;clear hT;have HR0_1:=A_ hr0_1;have HC0_1:=A_ hc0_1;clear hr0_1 hc0_1;have HB:=A_ (Below.refl w.heap.size w);have H : ((impl_isSemi.f k a0_0 l0_1).bind fun t638=>(if t638 = true then ((impl_Order_mirror.f k a0_0 l0_1).bind fun bt639=>((impl_relation.f k a0_0 (fun x0_ x1_=>impl_TraceOf_1.f x0_ x1_ bt639.1 bt639.2 a0_0 l0_1)).bind fun bt644=>((impl_Order_levels.f k bt644.1 bt644.2).bind fun t648=>(some (t648,true))))) else (some (([] : List Int),false)))) = some (r1,r2):=h;clear h;replace H:=Option.bind_eq_some_iff.mp H;obtain ⟨t638,A20,H⟩:=H;replace H : (if t638 = true then ((impl_Order_mirror.f k a0_0 l0_1).bind fun bt639=>((impl_relation.f k a0_0 (fun x0_ x1_=>impl_TraceOf_1.f x0_ x1_ bt639.1 bt639.2 a0_0 l0_1)).bind fun bt644=>((impl_Order_levels.f k bt644.1 bt644.2).bind fun t648=>(some (t648,true))))) else (some (([] : List Int),false))) = some (r1,r2):=H;have A2:=A_ A20;clear A20;by_cases c3 : t638 = true
 ·subst c3;have H1 : ((impl_Order_mirror.f k a0_0 l0_1).bind fun bt639=>((impl_relation.f k a0_0 (fun x0_ x1_=>impl_TraceOf_1.f x0_ x1_ bt639.1 bt639.2 a0_0 l0_1)).bind fun bt644=>((impl_Order_levels.f k bt644.1 bt644.2).bind fun t648=>(some (t648,true))))) = some (r1,r2):=by rw [if_pos rfl] at H;exact H
  clear H;have H:=H1;clear H1;replace H:=Option.bind_eq_some_iff.mp H;obtain ⟨⟨t639,t640⟩,A40,H⟩:=H;replace H : ((impl_relation.f k a0_0 (fun x0_ x1_=>impl_TraceOf_1.f x0_ x1_ t639 t640 a0_0 l0_1)).bind fun bt644=>((impl_Order_levels.f k bt644.1 bt644.2).bind fun t648=>(some (t648,true)))) = some (r1,r2):=H;have A4:=A_ A40;clear A40;replace H:=Option.bind_eq_some_iff.mp H;obtain ⟨⟨t644,t645⟩,A50,H⟩:=H;replace H : ((impl_Order_levels.f k t644 t645).bind fun t648=>(some (t648,true))) = some (r1,r2):=H;have A5:=A_ A50;clear A50;replace H:=Option.bind_eq_some_iff.mp H;obtain ⟨t648,A60,H⟩:=H;replace H : (some (t648,true)) = some (r1,r2):=H;have A6:=A_ A60;clear A60;simp only [Option.some.injEq,Prod.mk.injEq] at H
  obtain ⟨rfl,rfl⟩:=H;go_enter Tryd.func24,Tryd.ntmps24
  go_wp2_with (first|((with_reducible refine gate_dst (N:=1) rfl ?_);refine box_event ?hg (N:=1) ?hd (cs:=#[.int .i64 a0_0,.slice A0_1 l0_1.length c0_1]) (t:=28) ?hr ?_;(case hd=>rfl);(case hg=>rfl);(case hr=>first|(go_simp;done)|(go_simp;rfl));intro gb637 hg w7 hbox hb;have BK637:=A_ (hbox);have GW637:=A_ ((by rw [hg];exact (below_size bb_) : w.heap.size ≤ gb637));have GE637:=A_ ((by rw [hg];exact (below_size bb_) : w.heap.size ≤ gb637));replace HB:=A_ (below_step bb_ hb);clear hb hbox hg;have hcz8_0 : w7.cell? ⟨gb637,0,none⟩ = some (.int .i64 a0_0):=blk_cell BK637.out 0;have hcz8_1 : w7.cell? ⟨gb637,1,none⟩ = some (.slice A0_1 l0_1.length c0_1):=blk_cell BK637.out 1;have hfz8_0:=blk_frozen BK637.out 0;have hfz8_1:=blk_frozen BK637.out 1)|((with_reducible refine gate_callee (f:=108) rfl ?_);refine goesL_ (some 6) rfl rfl Tryd.func108 (by kernel_rfl) rfl #[.agg #[.int .i64 a0_0,.slice A0_1 l0_1.length c0_1]] rfl au_ ?_;(with_reducible refine (impl_isSemi.calls k a0_0 _ _ l0_1 true _ ?side1 ?side2 ?side3 A2.out).mono ?_);(case side1=>exact cl_ (Kd.C_below HR0_1.out HB.out));(case side2=>exact HC0_1.out);(case side3=>first|exact HT.out|exact HT.out.below bb_|(repeat (first|exact HT.out|apply TabOK.drewN|apply TabOK.drew|apply TabOK.alloc)));rintro e w9 ⟨rfl,hb⟩;refine ⟨_,rfl,?_⟩;replace BK637:=bz BK637 hb;replace HB:=A_ (below_step bb_ hb);(try clear hb);(try clear hb2);(try clear hk);(try clear hi);have hcz10_0 : w9.cell? ⟨gb637,0,none⟩ = some (.int .i64 a0_0):=blk_cell BK637.out 0;have hcz10_1 : w9.cell? ⟨gb637,1,none⟩ = some (.slice A0_1 l0_1.length c0_1):=blk_cell BK637.out 1;have hfz10_0:=blk_frozen BK637.out 0;have hfz10_1:=blk_frozen BK637.out 1)|((with_reducible refine gate_callee (f:=113) rfl ?_);refine goesL_ (some 9) rfl rfl Tryd.func113 (by kernel_rfl) rfl #[.agg #[.int .i64 a0_0,.slice A0_1 l0_1.length c0_1]] rfl au_ ?_;(with_reducible refine (impl_Order_mirror.calls k a0_0 _ _ l0_1 t639 t640 _ ?side1 ?side2 A4.out).mono ?_);(case side1=>exact cl_ (Kd.C_below HR0_1.out HB.out));(case side2=>exact HC0_1.out);rintro e w11 ⟨v641,rfl,ho0,hb⟩;refine ⟨_,rfl,?_⟩;have HO642:=A_ (Kd.R_lower ho0 (below_size bb_));replace BK637:=bz BK637 hb;replace HB:=A_ (below_step bb_ hb);(try clear hb);(try clear hb2);(try clear hk);(try clear hi);(try clear ho0))|((with_reducible refine gate_dst (N:=4) rfl ?_);refine box_event ?hg (N:=4) ?hd (cs:=#[.int .i64 0,.slice none 0 0]) (t:=28) ?hr ?_;(case hd=>rfl);(case hg=>rfl);(case hr=>first|(go_simp;done)|(go_simp;rfl));intro gb643 hg w12 hbox hb;replace HO642:=rb_ HO642 hb;have BK643:=A_ (hbox);have GW643:=A_ ((by rw [hg];exact (below_size bb_) : w.heap.size ≤ gb643));have GE643:=A_ ((by rw [hg];exact (below_size bb_) : w.heap.size ≤ gb643));replace HB:=A_ (below_step bb_ hb);have NB637_643:=A_ ((by rw [hg];exact Nat.ne_of_lt (blk_lt (bl_ BK637)) : gb637 ≠ gb643));have NB643_637:=A_ ((by rw [hg];exact Nat.ne_of_gt (blk_lt (bl_ BK637)) : gb643 ≠ gb637));replace BK637:=bz BK637 hb;clear hb hbox hg;have hnb13:=NB643_637.out;have hnc13:=NB637_643.out;have hcz14_0 : w12.cell? ⟨gb643,0,none⟩ = some (.int .i64 0):=blk_cell BK643.out 0;have hcz14_1 : w12.cell? ⟨gb643,1,none⟩ = some (.slice none 0 0):=blk_cell BK643.out 1;have hfz14_0:=blk_frozen BK643.out 0;have hfz14_1:=blk_frozen BK643.out 1;obtain ⟨Ao15,co15,eo15⟩:=Kd.R_slice HO642.out;subst eo15;have hcz16_0 : w12.cell? ⟨gb637,0,none⟩ = some (.int .i64 a0_0):=blk_cell BK637.out 0;have hcz16_1 : w12.cell? ⟨gb637,1,none⟩ = some (.slice A0_1 l0_1.length c0_1):=blk_cell BK637.out 1;have hfz16_0:=blk_frozen BK637.out 0;have hfz16_1:=blk_frozen BK637.out 1)|((with_reducible refine gate_callee (f:=114) rfl ?_);refine goesL_ (some 13) rfl rfl Tryd.func114 (by kernel_rfl) rfl #[.int .i64 a0_0,.func (.func 115) #[] #[.pointer (some ⟨gb643,0,none⟩),.pointer (some ⟨gb637,0,none⟩)]] rfl au_ ?_;(with_reducible refine (impl_relation.calls k a0_0 (fun x0_ x1_=>impl_TraceOf_1.f x0_ x1_ t639 t640 a0_0 l0_1) t644 t645 _ _ _ ?side1 ?side2 A5.out).mono ?_);(case side1=>exact fun a_ w_=>enters_of Tryd.func115 (by kernel_rfl) rfl a_ w_);(case side2=>(intro W_ x0_ x1_ r_ hB_ h_;refine Calls.mono (impl_TraceOf_1.calls x0_ x1_ gb643 t639 _ _ t640 gb637 a0_0 _ _ l0_1 r_ W_ (blk_below (g:=gb643) (o:=.cells #[.int .i64 t639,.slice Ao15 t640.length co15] 28 (0,0)) (by (with_reducible repeat (first|refine blk_drewN ?_ _|refine blk_drew ?_|refine blk_alloc ?_ _));refine blk_put (cs:=#[.int .i64 t639,.slice none 0 0]) ?_ 1 _ rfl;(with_reducible repeat (first|refine blk_drewN ?_ _|refine blk_drew ?_|refine blk_alloc ?_ _));refine blk_put (cs:=#[.int .i64 0,.slice none 0 0]) ?_ 0 _ rfl;(with_reducible repeat (first|refine blk_drewN ?_ _|refine blk_drew ?_|refine blk_alloc ?_ _));exact BK643.out) hB_) (Kd.C_below (by refine (Kd.R_reads' (e:=3) (base:=w.heap.size) (ok:=fun k_=>True) (n:=t640.length) (c:=co15) ?_).2.2;exact (by (with_reducible repeat (first|apply Kd.R_alloc|apply Kd.R_drewN|apply Kd.R_drew));exact (Kd.R_mono (Kd.R_far (p:=⟨gb643,1,none⟩) (Kd.R_far (p:=⟨gb643,0,none⟩) (Kd.R_types HO642.out BK643.out (by decide)) (fun _ hk=>hk.2) (.int .i64 t639)) (fun _ hk=>hk.2) (.slice Ao15 t640.length co15)) (fun _ h_=>h_.1)))) hB_) (by exact (Kd.R_reads' HO642.out).2.1) (blk_below (g:=gb637) (o:=.cells #[.int .i64 a0_0,.slice A0_1 l0_1.length c0_1] 28 (0,0)) (by (with_reducible repeat (first|refine blk_drewN ?_ _|refine blk_drew ?_|refine blk_alloc ?_ _));refine blk_far ?_ NB637_643.out _;(with_reducible repeat (first|refine blk_drewN ?_ _|refine blk_drew ?_|refine blk_alloc ?_ _));refine blk_far ?_ NB637_643.out _;(with_reducible repeat (first|refine blk_drewN ?_ _|refine blk_drew ?_|refine blk_alloc ?_ _));exact BK637.out) hB_) (Kd.C_below (by exact Kd.C_below HR0_1.out bb_) hB_) (by exact HC0_1.out) NB643_637.out h_) ?_;rintro e_ w_ ⟨h1_,h2_⟩;exact ⟨h1_,h2_⟩));rintro e w17 ⟨v646,rfl,ho0,hb⟩;refine ⟨_,rfl,?_⟩;have HO647:=A_ (Kd.R_lower (Kd.R_new' ho0 (Kd.R_lt (by (with_reducible repeat (first|apply Kd.R_alloc|apply Kd.R_drewN|apply Kd.R_drew));exact (Kd.R_mono (Kd.R_far (p:=⟨gb643,1,none⟩) (Kd.R_far (p:=⟨gb643,0,none⟩) (Kd.R_types HO642.out BK643.out (by decide)) (fun _ hk=>hk.2) (.int .i64 t639)) (fun _ hk=>hk.2) (.slice Ao15 t640.length co15)) (fun _ h_=>h_.1))))) (below_size bb_));replace HO642:=A_ (Kd.R_elder' (by (with_reducible repeat (first|apply Kd.R_alloc|apply Kd.R_drewN|apply Kd.R_drew));exact (Kd.R_mono (Kd.R_far (p:=⟨gb643,1,none⟩) (Kd.R_far (p:=⟨gb643,0,none⟩) (Kd.R_types HO642.out BK643.out (by decide)) (fun _ hk=>hk.2) (.int .i64 t639)) (fun _ hk=>hk.2) (.slice Ao15 t640.length co15)) (fun _ h_=>h_.1))) (Kd.R_base ho0) hb);replace BK637:=A_ (blk_below (g:=gb637) (o:=.cells #[.int .i64 a0_0,.slice A0_1 l0_1.length c0_1] 28 (0,0)) (by (with_reducible repeat (first|refine blk_drewN ?_ _|refine blk_drew ?_|refine blk_alloc ?_ _));refine blk_far ?_ NB637_643.out _;(with_reducible repeat (first|refine blk_drewN ?_ _|refine blk_drew ?_|refine blk_alloc ?_ _));refine blk_far ?_ NB637_643.out _;(with_reducible repeat (first|refine blk_drewN ?_ _|refine blk_drew ?_|refine blk_alloc ?_ _));exact BK637.out) hb);replace BK643:=A_ (blk_below (g:=gb643) (o:=.cells #[.int .i64 t639,.slice Ao15 t640.length co15] 28 (0,0)) (by (with_reducible repeat (first|refine blk_drewN ?_ _|refine blk_drew ?_|refine blk_alloc ?_ _));refine blk_put (cs:=#[.int .i64 t639,.slice none 0 0]) ?_ 1 _ rfl;(with_reducible repeat (first|refine blk_drewN ?_ _|refine blk_drew ?_|refine blk_alloc ?_ _));refine blk_put (cs:=#[.int .i64 0,.slice none 0 0]) ?_ 0 _ rfl;(with_reducible repeat (first|refine blk_drewN ?_ _|refine blk_drew ?_|refine blk_alloc ?_ _));exact BK643.out) hb);replace HB:=A_ (below_step bb_ hb);(try clear hb);(try clear hb2);(try clear hk);(try clear hi);(try clear ho0);obtain ⟨Ao18,co18,eo18⟩:=Kd.R_slice HO647.out;subst eo18)|((with_reducible refine gate_callee (f:=116) rfl ?_);refine goesL_ (some 14) rfl rfl Tryd.func116 (by kernel_rfl) rfl #[.agg #[.int .i64 t644,.slice Ao18 t645.length co18]] rfl au_ ?_;(with_reducible refine (impl_Order_levels.calls k t644 _ _ t645 t648 _ ?side1 ?side2 A6.out).mono ?_);(case side1=>exact cl_ (Kd.R_reads' HO647.out).2.2);(case side2=>exact (Kd.R_reads' HO647.out).2.1);rintro e w19 ⟨v649,rfl,ho0,hb⟩;refine ⟨_,rfl,?_⟩;have HO650:=A_ (Kd.R_lower (Kd.R_new' (Kd.R_new' ho0 (Kd.R_lt (rl_ HO642))) (Kd.R_lt (rl_ HO647))) (below_size bb_));replace HO642:=A_ (Kd.R_elder' (rl_ HO642) (Kd.R_base ho0) hb);replace HO647:=A_ (Kd.R_elder' (rl_ HO647) (Kd.R_base ho0) hb);replace BK637:=bz BK637 hb;replace BK643:=bz BK643 hb;replace HB:=A_ (below_step bb_ hb);(try clear hb);(try clear hb2);(try clear hk);(try clear hi);(try clear ho0)))
  go_ret2
  exact ⟨_,by first|rfl|(simp [errW_none,errW_some] <;> rfl)|(simp [*,errW_none,errW_some] <;> rfl),by (with_reducible repeat (first|apply Kd.R_alloc|apply Kd.R_drewN|apply Kd.R_drew));exact Kd.R_mono HO650.out (fun _ hk=>trivial),bb_⟩
 ·replace c3:=Bool.eq_false_iff.mpr c3;subst c3;have H1 : (some (([] : List Int),false)) = some (r1,r2):=by rw [if_neg (show ¬ (false = true) by decide)] at H;exact H
  clear H;have H:=H1;clear H1;simp only [Option.some.injEq,Prod.mk.injEq] at H
  obtain ⟨rfl,rfl⟩:=H;go_enter Tryd.func24,Tryd.ntmps24
  go_wp2_with (first|((with_reducible refine gate_dst (N:=1) rfl ?_);refine box_event ?hg (N:=1) ?hd (cs:=#[.int .i64 a0_0,.slice A0_1 l0_1.length c0_1]) (t:=28) ?hr ?_;(case hd=>rfl);(case hg=>rfl);(case hr=>first|(go_simp;done)|(go_simp;rfl));intro gb637 hg w20 hbox hb;have BK637:=A_ (hbox);have GW637:=A_ ((by rw [hg];exact (below_size bb_) : w.heap.size ≤ gb637));have GE637:=A_ ((by rw [hg];exact (below_size bb_) : w.heap.size ≤ gb637));replace HB:=A_ (below_step bb_ hb);clear hb hbox hg;have hcz21_0 : w20.cell? ⟨gb637,0,none⟩ = some (.int .i64 a0_0):=blk_cell BK637.out 0;have hcz21_1 : w20.cell? ⟨gb637,1,none⟩ = some (.slice A0_1 l0_1.length c0_1):=blk_cell BK637.out 1;have hfz21_0:=blk_frozen BK637.out 0;have hfz21_1:=blk_frozen BK637.out 1)|((with_reducible refine gate_callee (f:=108) rfl ?_);refine goesL_ (some 6) rfl rfl Tryd.func108 (by kernel_rfl) rfl #[.agg #[.int .i64 a0_0,.slice A0_1 l0_1.length c0_1]] rfl au_ ?_;(with_reducible refine (impl_isSemi.calls k a0_0 _ _ l0_1 false _ ?side1 ?side2 ?side3 A2.out).mono ?_);(case side1=>exact cl_ (Kd.C_below HR0_1.out HB.out));(case side2=>exact HC0_1.out);(case side3=>first|exact HT.out|exact HT.out.below bb_|(repeat (first|exact HT.out|apply TabOK.drewN|apply TabOK.drew|apply TabOK.alloc)));rintro e w22 ⟨rfl,hb⟩;refine ⟨_,rfl,?_⟩;replace BK637:=bz BK637 hb;replace HB:=A_ (below_step bb_ hb);(try clear hb);(try clear hb2);(try clear hk);(try clear hi)))
  go_ret2
  exact ⟨_,by first|rfl|(simp [errW_none,errW_some] <;> rfl)|(simp [*,errW_none,errW_some] <;> rfl),by first|exact Kd.R_nil _ _ _ _ _|exact Kd.N_nil _ _ _ _ _|exact Kd.V_nil _ _ _ _ _|exact Kd.Q_nil _ _ _ _ _|exact Kd.S_nil _ _ _ _ _,bb_⟩
mutual
def laws_FnExactTraceOf.j0 : Nat → List Int → Bool → List Int → Bool → Bool → Int → List Int → Int → List Int → Option (Bool)
 | 0,_,_,_,_,_,_,_,_,_=>none
 | k + 1,x4,x5,x7,x8,x40,x652000,x652001,x666000,x666001=>if x40 = true then (some false) else ((laws_toOrder.f k x652000 x652001).bind fun bt671=>((laws_eqOrder.f k x666000 x666001 bt671.1 bt671.2).bind fun t675=>(if t675 = true then ((laws_markOrder.f k x666000 x666001 1).bind fun bt676=>(if bt676.1 < 0 then (laws_FnExactTraceOf.j1 k x4 x5 x7 true x652000 x652001) else ((laws_eqIntS.f k x7 x4).bind fun t678=>(if t678 = true then (laws_FnExactTraceOf.j1 k x4 x5 x7 (x8 != x5) x652000 x652001) else (laws_FnExactTraceOf.j1 k x4 x5 x7 true x652000 x652001))))) else (some false))))
def laws_FnExactTraceOf.j1 : Nat → List Int → Bool → List Int → Bool → Int → List Int → Option (Bool)
 | 0,_,_,_,_,_,_=>none
 | k + 1,x4,x5,x7,x61,x652000,x652001=>if x61 = true then (some false) else ((laws_markIntS.f k x7 1).bind fun bt679=>((laws_heldIntS.f k bt679.2 1).bind fun t681=>(if t681 < 0 then (some false) else (if t681 = bt679.1 then ((laws_toOrder.f k x652000 x652001).bind fun bt682=>((impl_TraceOf.f k bt682.1 bt682.2).bind fun bt686=>((laws_eqIntS.f k bt686.1 x4).bind fun t690=>(if t690 = true then (laws_FnExactTraceOf.j2 k bt679.2 bt679.1 (bt686.2 != x5)) else (laws_FnExactTraceOf.j2 k bt679.2 bt679.1 true))))) else (some false)))))
def laws_FnExactTraceOf.j2 : Nat → List Int → Int → Bool → Option (Bool)
 | 0,_,_,_=>none
 | k + 1,x7,x10,x87=>if x87 = true then (some false) else ((laws_heldIntS.f k x7 1).bind fun t691=>(if t691 < 0 then (some false) else (if t691 = x10 then (some true) else (some false))))
end
def laws_FnExactTraceOf.f (k : Nat) (a0_0 : Int) (l0_1 : List Int) : Option (Bool) := (laws_szOrder.f a0_0 l0_1 1048576).bind fun t652 => (if t652 < 0 then (some true) else ((laws_toOrder.f k a0_0 l0_1).bind fun bt653 => ((spec_TraceOf.f k bt653.1 bt653.2).bind fun bt657 => ((laws_toOrder.f k a0_0 l0_1).bind fun bt661 => ((impl_TraceOf.f k bt661.1 bt661.2).bind fun bt666 => ((laws_eqIntS.f k bt666.1 bt657.1).bind fun t670 => (if t670 = true then (laws_FnExactTraceOf.j0 k bt657.1 bt657.2 bt666.1 bt666.2 (bt666.2 != bt657.2) a0_0 l0_1 bt661.1 bt661.2) else (laws_FnExactTraceOf.j0 k bt657.1 bt657.2 bt666.1 bt666.2 true a0_0 l0_1 bt661.1 bt661.2))))))))
set_option maxHeartbeats 8000000 in
set_option maxRecDepth 100000 in
theorem laws_FnExactTraceOf.calls (k : Nat) (a0_0 : Int) (A0_1 : Option Addr) (c0_1 : Nat) (l0_1 : List Int) (r : Bool) (w : World) (hr0_1 : Kd.C (Kd.int .i64) w A0_1 l0_1.length l0_1) (hc0_1 : l0_1.length ≤ c0_1) (hT : TabOK w) (h : laws_FnExactTraceOf.f k a0_0 l0_1 = some r) :
 Calls Tryd.prog 4 #[.agg #[.int .i64 a0_0,.slice A0_1 l0_1.length c0_1]] w fun e w'=>e = .returned (.bool r) ∧ Below w.heap.size w w':=by
 have hu24:=Tryd.underlying24;have hu28:=Tryd.underlying28;have HT:=A_ hT;clear hT;have HR0_1:=A_ hr0_1;have HC0_1:=A_ hc0_1;clear hr0_1 hc0_1;have HB:=A_ (Below.refl w.heap.size w);have H : ((laws_szOrder.f a0_0 l0_1 1048576).bind fun t652=>(if t652 < 0 then (some true) else ((laws_toOrder.f k a0_0 l0_1).bind fun bt653=>((spec_TraceOf.f k bt653.1 bt653.2).bind fun bt657=>((laws_toOrder.f k a0_0 l0_1).bind fun bt661=>((impl_TraceOf.f k bt661.1 bt661.2).bind fun bt666=>((laws_eqIntS.f k bt666.1 bt657.1).bind fun t670=>(if t670 = true then (laws_FnExactTraceOf.j0 k bt657.1 bt657.2 bt666.1 bt666.2 (bt666.2 != bt657.2) a0_0 l0_1 bt661.1 bt661.2) else (laws_FnExactTraceOf.j0 k bt657.1 bt657.2 bt666.1 bt666.2 true a0_0 l0_1 bt661.1 bt661.2))))))))) = some r:=h;clear h;replace H:=Option.bind_eq_some_iff.mp H;obtain ⟨t652,A20,H⟩:=H;replace H : (if t652 < 0 then (some true) else ((laws_toOrder.f k a0_0 l0_1).bind fun bt653=>((spec_TraceOf.f k bt653.1 bt653.2).bind fun bt657=>((laws_toOrder.f k a0_0 l0_1).bind fun bt661=>((impl_TraceOf.f k bt661.1 bt661.2).bind fun bt666=>((laws_eqIntS.f k bt666.1 bt657.1).bind fun t670=>(if t670 = true then (laws_FnExactTraceOf.j0 k bt657.1 bt657.2 bt666.1 bt666.2 (bt666.2 != bt657.2) a0_0 l0_1 bt661.1 bt661.2) else (laws_FnExactTraceOf.j0 k bt657.1 bt657.2 bt666.1 bt666.2 true a0_0 l0_1 bt661.1 bt661.2)))))))) = some r:=H;have A2:=A_ A20;clear A20;by_cases c3 : t652 < 0
 ·rw [if_pos c3] at H;have c3b0 : decide (t652 < 0) = true:=decide_eq_true c3;clear c3;obtain rfl:=Option.some.inj H;go_enter Tryd.func4,Tryd.ntmps4
  go_wp2_with (first|((with_reducible refine gate_dst (N:=1) rfl ?_);refine box_event ?hg (N:=1) ?hd (cs:=#[.int .i64 a0_0,.slice A0_1 l0_1.length c0_1]) (t:=24) ?hr ?_;(case hd=>rfl);(case hg=>rfl);(case hr=>first|(go_simp;done)|(go_simp;rfl));intro gb651 hg w4 hbox hb;have BK651:=A_ (hbox);have GW651:=A_ ((by rw [hg];exact (below_size bb_) : w.heap.size ≤ gb651));have GE651:=A_ ((by rw [hg];exact (below_size bb_) : w.heap.size ≤ gb651));replace HB:=A_ (below_step bb_ hb);clear hb hbox hg;have hcz5_0 : w4.cell? ⟨gb651,0,none⟩ = some (.int .i64 a0_0):=blk_cell BK651.out 0;have hcz5_1 : w4.cell? ⟨gb651,1,none⟩ = some (.slice A0_1 l0_1.length c0_1):=blk_cell BK651.out 1;have hfz5_0:=blk_frozen BK651.out 0;have hfz5_1:=blk_frozen BK651.out 1)|((with_reducible refine gate_callee (f:=14) rfl ?_);refine goesL_ (some 16) rfl rfl Tryd.func14 (by kernel_rfl) rfl #[.agg #[.int .i64 a0_0,.slice A0_1 l0_1.length c0_1],.int .i64 1048576] rfl au_ ?_;(with_reducible refine (laws_szOrder.calls a0_0 _ _ l0_1 1048576 t652 _ ?side1 ?side2 A2.out).mono ?_);(case side1=>exact cl_ (Kd.C_below HR0_1.out HB.out));(case side2=>exact HC0_1.out);rintro e w6 ⟨rfl,hb⟩;refine ⟨_,rfl,?_⟩;replace BK651:=bz BK651 hb;replace HB:=A_ (below_step bb_ hb);(try clear hb);(try clear hb2);(try clear hk);(try clear hi)))
  go_ret
  exact ⟨by first|rfl|(simp [errW_none,errW_some] <;> rfl)|(simp [*,errW_none,errW_some] <;> rfl),bb_⟩
 ·rw [if_neg c3] at H;have c3b0 : decide (t652 < 0) = false:=decide_eq_false c3;clear c3;replace H:=Option.bind_eq_some_iff.mp H;obtain ⟨⟨t653,t654⟩,A70,H⟩:=H;replace H : ((spec_TraceOf.f k t653 t654).bind fun bt657=>((laws_toOrder.f k a0_0 l0_1).bind fun bt661=>((impl_TraceOf.f k bt661.1 bt661.2).bind fun bt666=>((laws_eqIntS.f k bt666.1 bt657.1).bind fun t670=>(if t670 = true then (laws_FnExactTraceOf.j0 k bt657.1 bt657.2 bt666.1 bt666.2 (bt666.2 != bt657.2) a0_0 l0_1 bt661.1 bt661.2) else (laws_FnExactTraceOf.j0 k bt657.1 bt657.2 bt666.1 bt666.2 true a0_0 l0_1 bt661.1 bt661.2)))))) = some r:=H;have A7:=A_ A70;clear A70;replace H:=Option.bind_eq_some_iff.mp H;obtain ⟨⟨t657,t660⟩,A80,H⟩:=H;replace H : ((laws_toOrder.f k a0_0 l0_1).bind fun bt661=>((impl_TraceOf.f k bt661.1 bt661.2).bind fun bt666=>((laws_eqIntS.f k bt666.1 t657).bind fun t670=>(if t670 = true then (laws_FnExactTraceOf.j0 k t657 t660 bt666.1 bt666.2 (bt666.2 != t660) a0_0 l0_1 bt661.1 bt661.2) else (laws_FnExactTraceOf.j0 k t657 t660 bt666.1 bt666.2 true a0_0 l0_1 bt661.1 bt661.2))))) = some r:=H;have A8:=A_ A80;clear A80;replace H:=Option.bind_eq_some_iff.mp H;obtain ⟨⟨t661,t662⟩,A90,H⟩:=H;replace H : ((impl_TraceOf.f k t661 t662).bind fun bt666=>((laws_eqIntS.f k bt666.1 t657).bind fun t670=>(if t670 = true then (laws_FnExactTraceOf.j0 k t657 t660 bt666.1 bt666.2 (bt666.2 != t660) a0_0 l0_1 t661 t662) else (laws_FnExactTraceOf.j0 k t657 t660 bt666.1 bt666.2 true a0_0 l0_1 t661 t662)))) = some r:=H;have A9:=A_ A90;clear A90;replace H:=Option.bind_eq_some_iff.mp H;obtain ⟨⟨t666,t669⟩,A100,H⟩:=H;replace H : ((laws_eqIntS.f k t666 t657).bind fun t670=>(if t670 = true then (laws_FnExactTraceOf.j0 k t657 t660 t666 t669 (t669 != t660) a0_0 l0_1 t661 t662) else (laws_FnExactTraceOf.j0 k t657 t660 t666 t669 true a0_0 l0_1 t661 t662))) = some r:=H;have A10:=A_ A100;clear A100;have HC11:=A_ H;clear H;go_enter Tryd.func4,Tryd.ntmps4
  go_upto_region 8 with (first|((with_reducible refine gate_dst (N:=1) rfl ?_);refine box_event ?hg (N:=1) ?hd (cs:=#[.int .i64 a0_0,.slice A0_1 l0_1.length c0_1]) (t:=24) ?hr ?_;(case hd=>rfl);(case hg=>rfl);(case hr=>first|(go_simp;done)|(go_simp;rfl));intro gb651 hg w12 hbox hb;have BK651:=A_ (hbox);have GW651:=A_ ((by rw [hg];exact (below_size bb_) : w.heap.size ≤ gb651));have GE651:=A_ ((by rw [hg];exact (below_size bb_) : w.heap.size ≤ gb651));replace HB:=A_ (below_step bb_ hb);clear hb hbox hg;have hcz13_0 : w12.cell? ⟨gb651,0,none⟩ = some (.int .i64 a0_0):=blk_cell BK651.out 0;have hcz13_1 : w12.cell? ⟨gb651,1,none⟩ = some (.slice A0_1 l0_1.length c0_1):=blk_cell BK651.out 1;have hfz13_0:=blk_frozen BK651.out 0;have hfz13_1:=blk_frozen BK651.out 1)|((with_reducible refine gate_callee (f:=14) rfl ?_);refine goesL_ (some 16) rfl rfl Tryd.func14 (by kernel_rfl) rfl #[.agg #[.int .i64 a0_0,.slice A0_1 l0_1.length c0_1],.int .i64 1048576] rfl au_ ?_;(with_reducible refine (laws_szOrder.calls a0_0 _ _ l0_1 1048576 t652 _ ?side1 ?side2 A2.out).mono ?_);(case side1=>exact cl_ (Kd.C_below HR0_1.out HB.out));(case side2=>exact HC0_1.out);rintro e w14 ⟨rfl,hb⟩;refine ⟨_,rfl,?_⟩;replace BK651:=bz BK651 hb;replace HB:=A_ (below_step bb_ hb);(try clear hb);(try clear hb2);(try clear hk);(try clear hi);have hcz15_0 : w14.cell? ⟨gb651,0,none⟩ = some (.int .i64 a0_0):=blk_cell BK651.out 0;have hcz15_1 : w14.cell? ⟨gb651,1,none⟩ = some (.slice A0_1 l0_1.length c0_1):=blk_cell BK651.out 1;have hfz15_0:=blk_frozen BK651.out 0;have hfz15_1:=blk_frozen BK651.out 1)|((with_reducible refine gate_callee (f:=16) rfl ?_);refine goesL_ (some 21) rfl rfl Tryd.func16 (by kernel_rfl) rfl #[.agg #[.int .i64 a0_0,.slice A0_1 l0_1.length c0_1]] rfl au_ ?_;(with_reducible refine (laws_toOrder.calls k a0_0 _ _ l0_1 t653 t654 _ ?side1 ?side2 A7.out).mono ?_);(case side1=>exact cl_ (Kd.C_below HR0_1.out HB.out));(case side2=>exact HC0_1.out);rintro e w16 ⟨v655,rfl,ho0,hb⟩;refine ⟨_,rfl,?_⟩;have HO656:=A_ (Kd.R_lower ho0 (below_size bb_));replace BK651:=bz BK651 hb;replace HB:=A_ (below_step bb_ hb);(try clear hb);(try clear hb2);(try clear hk);(try clear hi);(try clear ho0);obtain ⟨Ao17,co17,eo17⟩:=Kd.R_slice HO656.out;subst eo17)|((with_reducible refine gate_callee (f:=23) rfl ?_);refine goesL_ (some 22) rfl rfl Tryd.func23 (by kernel_rfl) rfl #[.agg #[.int .i64 t653,.slice Ao17 t654.length co17]] rfl au_ ?_;(with_reducible refine (spec_TraceOf.calls k t653 _ _ t654 t657 t660 _ ?side1 ?side2 A8.out).mono ?_);(case side1=>exact cl_ (Kd.R_reads' HO656.out).2.2);(case side2=>exact (Kd.R_reads' HO656.out).2.1);rintro e w18 ⟨v658,rfl,ho0,hb⟩;refine ⟨_,rfl,?_⟩;have HO659:=A_ (Kd.R_lower (Kd.R_new' ho0 (Kd.R_lt (rl_ HO656))) (below_size bb_));replace HO656:=A_ (Kd.R_elder' (rl_ HO656) (Kd.R_base ho0) hb);replace BK651:=bz BK651 hb;replace HB:=A_ (below_step bb_ hb);(try clear hb);(try clear hb2);(try clear hk);(try clear hi);(try clear ho0);have hcz19_0 : w18.cell? ⟨gb651,0,none⟩ = some (.int .i64 a0_0):=blk_cell BK651.out 0;have hcz19_1 : w18.cell? ⟨gb651,1,none⟩ = some (.slice A0_1 l0_1.length c0_1):=blk_cell BK651.out 1;have hfz19_0:=blk_frozen BK651.out 0;have hfz19_1:=blk_frozen BK651.out 1)|((with_reducible refine gate_callee (f:=16) rfl ?_);refine goesL_ (some 26) rfl rfl Tryd.func16 (by kernel_rfl) rfl #[.agg #[.int .i64 a0_0,.slice A0_1 l0_1.length c0_1]] rfl au_ ?_;(with_reducible refine (laws_toOrder.calls k a0_0 _ _ l0_1 t661 t662 _ ?side1 ?side2 A9.out).mono ?_);(case side1=>exact cl_ (Kd.C_below HR0_1.out HB.out));(case side2=>exact HC0_1.out);rintro e w20 ⟨v663,rfl,ho0,hb⟩;refine ⟨_,rfl,?_⟩;have HO664:=A_ (Kd.R_lower (Kd.R_new' (Kd.R_new' ho0 (Kd.R_lt (rl_ HO656))) (Kd.R_lt (rl_ HO659))) (below_size bb_));replace HO656:=A_ (Kd.R_elder' (rl_ HO656) (Kd.R_base ho0) hb);replace HO659:=A_ (Kd.R_elder' (rl_ HO659) (Kd.R_base ho0) hb);replace BK651:=bz BK651 hb;replace HB:=A_ (below_step bb_ hb);(try clear hb);(try clear hb2);(try clear hk);(try clear hi);(try clear ho0))|((with_reducible refine gate_dst (N:=6) rfl ?_);refine box_event ?hg (N:=6) ?hd (cs:=#[.int .i64 0,.slice none 0 0]) (t:=28) ?hr ?_;(case hd=>rfl);(case hg=>rfl);(case hr=>first|(go_simp;done)|(go_simp;rfl));intro gb665 hg w21 hbox hb;replace HO656:=rb_ HO656 hb;replace HO659:=rb_ HO659 hb;replace HO664:=rb_ HO664 hb;have BK665:=A_ (hbox);have GW665:=A_ ((by rw [hg];exact (below_size bb_) : w.heap.size ≤ gb665));have GE665:=A_ ((by rw [hg];exact (below_size bb_) : w.heap.size ≤ gb665));replace HB:=A_ (below_step bb_ hb);have NB651_665:=A_ ((by rw [hg];exact Nat.ne_of_lt (blk_lt (bl_ BK651)) : gb651 ≠ gb665));have NB665_651:=A_ ((by rw [hg];exact Nat.ne_of_gt (blk_lt (bl_ BK651)) : gb665 ≠ gb651));replace BK651:=bz BK651 hb;clear hb hbox hg;have hnb22:=NB665_651.out;have hnc22:=NB651_665.out;have hcz23_0 : w21.cell? ⟨gb665,0,none⟩ = some (.int .i64 0):=blk_cell BK665.out 0;have hcz23_1 : w21.cell? ⟨gb665,1,none⟩ = some (.slice none 0 0):=blk_cell BK665.out 1;have hfz23_0:=blk_frozen BK665.out 0;have hfz23_1:=blk_frozen BK665.out 1;obtain ⟨Ao24,co24,eo24⟩:=Kd.R_slice HO664.out;subst eo24)|((with_reducible refine gate_callee (f:=24) rfl ?_);refine goesL_ (some 29) rfl rfl Tryd.func24 (by kernel_rfl) rfl #[.agg #[.int .i64 t661,.slice Ao24 t662.length co24]] rfl au_ ?_;(with_reducible refine (impl_TraceOf.calls k t661 _ _ t662 t666 t669 _ ?side1 ?side2 ?side3 A10.out).mono ?_);(case side1=>refine (Kd.R_reads' (e:=3) (base:=w.heap.size) (ok:=fun k_=>((True ∧ some k_ ≠ (.slice Ao17 t654.length co17 : Value).ownBlock) ∧ some k_ ≠ (v658 : Value).ownBlock)) (n:=t662.length) (c:=co24) ?_).2.2;exact (by (with_reducible repeat (first|apply Kd.R_alloc|apply Kd.R_drewN|apply Kd.R_drew));exact (Kd.R_mono (Kd.R_far (p:=⟨gb665,1,none⟩) (Kd.R_far (p:=⟨gb665,0,none⟩) (Kd.R_types HO664.out BK665.out (by decide)) (fun _ hk=>hk.2) (.int .i64 t661)) (fun _ hk=>hk.2) (.slice Ao24 t662.length co24)) (fun _ h_=>h_.1))));(case side2=>exact (Kd.R_reads' HO664.out).2.1);(case side3=>first|exact HT.out|exact HT.out.below bb_|(repeat (first|exact HT.out|apply TabOK.drewN|apply TabOK.drew|apply TabOK.alloc)));rintro e w25 ⟨v667,rfl,ho0,hb⟩;refine ⟨_,rfl,?_⟩;have HO668:=A_ (Kd.R_lower (Kd.R_new' (Kd.R_new' (Kd.R_new' ho0 (Kd.R_lt (by (with_reducible repeat (first|apply Kd.R_alloc|apply Kd.R_drewN|apply Kd.R_drew));exact (Kd.R_mono (Kd.R_far (p:=⟨gb665,1,none⟩) (Kd.R_far (p:=⟨gb665,0,none⟩) (Kd.R_types HO656.out BK665.out (by decide)) (fun _ hk=>hk.2) (.int .i64 t661)) (fun _ hk=>hk.2) (.slice Ao24 t662.length co24)) (fun _ h_=>h_.1))))) (Kd.R_lt (by (with_reducible repeat (first|apply Kd.R_alloc|apply Kd.R_drewN|apply Kd.R_drew));exact (Kd.R_mono (Kd.R_far (p:=⟨gb665,1,none⟩) (Kd.R_far (p:=⟨gb665,0,none⟩) (Kd.R_types HO659.out BK665.out (by decide)) (fun _ hk=>hk.2) (.int .i64 t661)) (fun _ hk=>hk.2) (.slice Ao24 t662.length co24)) (fun _ h_=>h_.1))))) (Kd.R_lt (by (with_reducible repeat (first|apply Kd.R_alloc|apply Kd.R_drewN|apply Kd.R_drew));exact (Kd.R_mono (Kd.R_far (p:=⟨gb665,1,none⟩) (Kd.R_far (p:=⟨gb665,0,none⟩) (Kd.R_types HO664.out BK665.out (by decide)) (fun _ hk=>hk.2) (.int .i64 t661)) (fun _ hk=>hk.2) (.slice Ao24 t662.length co24)) (fun _ h_=>h_.1))))) (below_size bb_));replace HO656:=A_ (Kd.R_elder' (by (with_reducible repeat (first|apply Kd.R_alloc|apply Kd.R_drewN|apply Kd.R_drew));exact (Kd.R_mono (Kd.R_far (p:=⟨gb665,1,none⟩) (Kd.R_far (p:=⟨gb665,0,none⟩) (Kd.R_types HO656.out BK665.out (by decide)) (fun _ hk=>hk.2) (.int .i64 t661)) (fun _ hk=>hk.2) (.slice Ao24 t662.length co24)) (fun _ h_=>h_.1))) (Kd.R_base ho0) hb);replace HO659:=A_ (Kd.R_elder' (by (with_reducible repeat (first|apply Kd.R_alloc|apply Kd.R_drewN|apply Kd.R_drew));exact (Kd.R_mono (Kd.R_far (p:=⟨gb665,1,none⟩) (Kd.R_far (p:=⟨gb665,0,none⟩) (Kd.R_types HO659.out BK665.out (by decide)) (fun _ hk=>hk.2) (.int .i64 t661)) (fun _ hk=>hk.2) (.slice Ao24 t662.length co24)) (fun _ h_=>h_.1))) (Kd.R_base ho0) hb);replace HO664:=A_ (Kd.R_elder' (by (with_reducible repeat (first|apply Kd.R_alloc|apply Kd.R_drewN|apply Kd.R_drew));exact (Kd.R_mono (Kd.R_far (p:=⟨gb665,1,none⟩) (Kd.R_far (p:=⟨gb665,0,none⟩) (Kd.R_types HO664.out BK665.out (by decide)) (fun _ hk=>hk.2) (.int .i64 t661)) (fun _ hk=>hk.2) (.slice Ao24 t662.length co24)) (fun _ h_=>h_.1))) (Kd.R_base ho0) hb);replace BK651:=A_ (blk_below (g:=gb651) (o:=.cells #[.int .i64 a0_0,.slice A0_1 l0_1.length c0_1] 24 (0,0)) (by (with_reducible repeat (first|refine blk_drewN ?_ _|refine blk_drew ?_|refine blk_alloc ?_ _));refine blk_far ?_ NB651_665.out _;(with_reducible repeat (first|refine blk_drewN ?_ _|refine blk_drew ?_|refine blk_alloc ?_ _));refine blk_far ?_ NB651_665.out _;(with_reducible repeat (first|refine blk_drewN ?_ _|refine blk_drew ?_|refine blk_alloc ?_ _));exact BK651.out) hb);replace BK665:=A_ (blk_below (g:=gb665) (o:=.cells #[.int .i64 t661,.slice Ao24 t662.length co24] 28 (0,0)) (by (with_reducible repeat (first|refine blk_drewN ?_ _|refine blk_drew ?_|refine blk_alloc ?_ _));refine blk_put (cs:=#[.int .i64 t661,.slice none 0 0]) ?_ 1 _ rfl;(with_reducible repeat (first|refine blk_drewN ?_ _|refine blk_drew ?_|refine blk_alloc ?_ _));refine blk_put (cs:=#[.int .i64 0,.slice none 0 0]) ?_ 0 _ rfl;(with_reducible repeat (first|refine blk_drewN ?_ _|refine blk_drew ?_|refine blk_alloc ?_ _));exact BK665.out) hb);replace HB:=A_ (below_step bb_ hb);(try clear hb);(try clear hb2);(try clear hk);(try clear hi);(try clear ho0)))
  (try simp only [Act.put,L_,M_,N_]);go_cut [40] (fun v40 wc=>∃ (kq : Nat) (x40_10 : Bool),v40 = .bool x40_10 ∧ Aside0 (laws_FnExactTraceOf.j0 kq t657 t660 t666 t669 x40_10 a0_0 l0_1 t661 t662 = some r) ∧ Aside0 (kq ≤ k) ∧ Aside0 (Kd.R (Kd.int .i64) 3 wc w.heap.size (fun k_=>some k_ ≠ (v667 : Value).ownBlock ∧ some k_ ≠ ((.slice Ao24 t662.length co24) : Value).ownBlock) v658 t657) ∧ Aside0 (Kd.R (Kd.int .i64) 3 wc w.heap.size (fun k_=>some k_ ≠ (v658 : Value).ownBlock ∧ some k_ ≠ ((.slice Ao24 t662.length co24) : Value).ownBlock) v667 t666) ∧ Aside0 (Kd.R (Kd.int .i64) 3 wc w.heap.size (fun k_=>some k_ ≠ (v658 : Value).ownBlock ∧ some k_ ≠ (v667 : Value).ownBlock) (.slice Ao24 t662.length co24) t662) ∧ Aside0 (wc.heap[gb651]? = some (.cells #[.int .i64 a0_0,(.slice A0_1 l0_1.length c0_1)] 24 (0,0))) ∧ Aside0 (wc.heap[gb665]? = some (.cells #[.int .i64 t661,(.slice Ao24 t662.length co24)] 28 (0,0))) ∧ Aside0 (Below w.heap.size w wc))
  case first =>
   have H:=HC11.out;clear HC11;replace H:=Option.bind_eq_some_iff.mp H;obtain ⟨t670,A260,H⟩:=H;replace H : (if t670 = true then (laws_FnExactTraceOf.j0 k t657 t660 t666 t669 (t669 != t660) a0_0 l0_1 t661 t662) else (laws_FnExactTraceOf.j0 k t657 t660 t666 t669 true a0_0 l0_1 t661 t662)) = some r:=H;have A26:=A_ A260;clear A260;by_cases c27 : t670 = true
   ·subst c27;have H1 : (laws_FnExactTraceOf.j0 k t657 t660 t666 t669 (t669 != t660) a0_0 l0_1 t661 t662) = some r:=by rw [if_pos rfl] at H;exact H
    clear H;have H:=H1;clear H1;have H':=A_ H;clear H;obtain ⟨Ao28,co28,eo28⟩:=Kd.R_slice HO668.out;subst eo28;obtain ⟨Ao29,co29,eo29⟩:=Kd.R_slice HO659.out;subst eo29;go_wp2_with (first|((with_reducible refine gate_callee (f:=18) rfl ?_);refine goesL_ (some 34) rfl rfl Tryd.func18 (by kernel_rfl) rfl #[.slice Ao28 t666.length co28,.slice Ao29 t657.length co29] rfl au_ ?_;(with_reducible refine (laws_eqIntS.calls k _ _ t666 _ _ t657 true _ ?side1 ?side2 ?side3 ?side4 A26.out).mono ?_);(case side1=>exact cl_ (Kd.R_reads' HO668.out).2.2);(case side2=>exact (Kd.R_reads' HO668.out).2.1);(case side3=>exact cl_ (Kd.R_reads' HO659.out).2.2);(case side4=>exact (Kd.R_reads' HO659.out).2.1);rintro e w' ⟨rfl,⟨nd,rfl⟩⟩;refine ⟨_,rfl,?_⟩))
    go_meet
    case rel=>exact ⟨_,((t669 != t660)),(by first|rfl|(simp;done)|(simp [*];done)),H',⟨by first|omega|exact Nat.le_refl _⟩,⟨by (with_reducible repeat (first|apply Kd.R_alloc|apply Kd.R_drewN|apply Kd.R_drew));exact Kd.R_mono HO659.out (fun _ hk=>⟨hk.2,hk.1.2⟩)⟩,⟨by (with_reducible repeat (first|apply Kd.R_alloc|apply Kd.R_drewN|apply Kd.R_drew));exact Kd.R_mono HO668.out (fun _ hk=>⟨hk.1.2,hk.2⟩)⟩,⟨by (with_reducible repeat (first|apply Kd.R_alloc|apply Kd.R_drewN|apply Kd.R_drew));exact Kd.R_mono HO664.out (fun _ hk=>⟨hk.1.2,hk.2⟩)⟩,⟨bl_ BK651⟩,⟨bl_ BK665⟩,⟨bb_⟩⟩
   ·replace c27:=Bool.eq_false_iff.mpr c27;subst c27;have H1 : (laws_FnExactTraceOf.j0 k t657 t660 t666 t669 true a0_0 l0_1 t661 t662) = some r:=by rw [if_neg (show ¬ (false = true) by decide)] at H;exact H
    clear H;have H:=H1;clear H1;have H':=A_ H;clear H;obtain ⟨Ao30,co30,eo30⟩:=Kd.R_slice HO668.out;subst eo30;obtain ⟨Ao31,co31,eo31⟩:=Kd.R_slice HO659.out;subst eo31;go_wp2_with (first|((with_reducible refine gate_callee (f:=18) rfl ?_);refine goesL_ (some 34) rfl rfl Tryd.func18 (by kernel_rfl) rfl #[.slice Ao30 t666.length co30,.slice Ao31 t657.length co31] rfl au_ ?_;(with_reducible refine (laws_eqIntS.calls k _ _ t666 _ _ t657 false _ ?side1 ?side2 ?side3 ?side4 A26.out).mono ?_);(case side1=>exact cl_ (Kd.R_reads' HO668.out).2.2);(case side2=>exact (Kd.R_reads' HO668.out).2.1);(case side3=>exact cl_ (Kd.R_reads' HO659.out).2.2);(case side4=>exact (Kd.R_reads' HO659.out).2.1);rintro e w' ⟨rfl,⟨nd,rfl⟩⟩;refine ⟨_,rfl,?_⟩))
    go_meet
    case rel=>exact ⟨_,(true),(by first|rfl|(simp;done)|(simp [*];done)),H',⟨by first|omega|exact Nat.le_refl _⟩,⟨by (with_reducible repeat (first|apply Kd.R_alloc|apply Kd.R_drewN|apply Kd.R_drew));exact Kd.R_mono HO659.out (fun _ hk=>⟨hk.2,hk.1.2⟩)⟩,⟨by (with_reducible repeat (first|apply Kd.R_alloc|apply Kd.R_drewN|apply Kd.R_drew));exact Kd.R_mono HO668.out (fun _ hk=>⟨hk.1.2,hk.2⟩)⟩,⟨by (with_reducible repeat (first|apply Kd.R_alloc|apply Kd.R_drewN|apply Kd.R_drew));exact Kd.R_mono HO664.out (fun _ hk=>⟨hk.1.2,hk.2⟩)⟩,⟨bl_ BK651⟩,⟨bl_ BK665⟩,⟨bb_⟩⟩
  case rest =>
   clear HC11;try clear c1
   try clear c2
   try clear p2
   try clear c3
   try clear c3b0
   try clear c4
   try clear c14
   try clear c16
   try clear c18
   try clear c22
   try clear c23
   try clear c24
   try clear c27
   try clear hcz13_0
   try clear hcz13_1
   try clear hcz15_0
   try clear hcz15_1
   try clear hcz19_0
   try clear hcz19_1
   try clear hcz23_0
   try clear hcz23_1
   try clear hcz5_0
   try clear hcz5_1
   try clear hfz13_0
   try clear hfz13_1
   try clear hfz15_0
   try clear hfz15_1
   try clear hfz19_0
   try clear hfz19_1
   try clear hfz23_0
   try clear hfz23_1
   try clear hfz5_0
   try clear hfz5_1
   obtain ⟨kq,x40_10,rfl,HA,HJ10,HO_4,HO_7,HO_666001,BK651,BK665,HB⟩:=hcut;cases kq with
   | zero=>exact absurd HA.out (by simp [laws_FnExactTraceOf.j0])
   | succ kj10 =>
    have H:=HA.out;clear HA;simp only [laws_FnExactTraceOf.j0] at H
    by_cases c32 : x40_10 = true
    ·subst c32;have H1 : (some false) = some r:=by rw [if_pos rfl] at H;exact H
     clear H;have H:=H1;clear H1;obtain rfl:=Option.some.inj H;go_wp2
     go_ret
     exact ⟨by first|rfl|(simp [errW_none,errW_some] <;> rfl)|(simp [*,errW_none,errW_some] <;> rfl),bb_⟩
    ·replace c32:=Bool.eq_false_iff.mpr c32;subst c32;have H1 : ((laws_toOrder.f kj10 a0_0 l0_1).bind fun bt671=>((laws_eqOrder.f kj10 t661 t662 bt671.1 bt671.2).bind fun t675=>(if t675 = true then ((laws_markOrder.f kj10 t661 t662 1).bind fun bt676=>(if bt676.1 < 0 then (laws_FnExactTraceOf.j1 kj10 t657 t660 t666 true a0_0 l0_1) else ((laws_eqIntS.f kj10 t666 t657).bind fun t678=>(if t678 = true then (laws_FnExactTraceOf.j1 kj10 t657 t660 t666 (t669 != t660) a0_0 l0_1) else (laws_FnExactTraceOf.j1 kj10 t657 t660 t666 true a0_0 l0_1))))) else (some false)))) = some r:=by rw [if_neg (show ¬ (false = true) by decide)] at H;exact H
     clear H;have H:=H1;clear H1;replace H:=Option.bind_eq_some_iff.mp H;obtain ⟨⟨t671,t672⟩,A330,H⟩:=H;replace H : ((laws_eqOrder.f kj10 t661 t662 t671 t672).bind fun t675=>(if t675 = true then ((laws_markOrder.f kj10 t661 t662 1).bind fun bt676=>(if bt676.1 < 0 then (laws_FnExactTraceOf.j1 kj10 t657 t660 t666 true a0_0 l0_1) else ((laws_eqIntS.f kj10 t666 t657).bind fun t678=>(if t678 = true then (laws_FnExactTraceOf.j1 kj10 t657 t660 t666 (t669 != t660) a0_0 l0_1) else (laws_FnExactTraceOf.j1 kj10 t657 t660 t666 true a0_0 l0_1))))) else (some false))) = some r:=H;have A33:=A_ A330;clear A330;replace H:=Option.bind_eq_some_iff.mp H;obtain ⟨t675,A340,H⟩:=H;replace H : (if t675 = true then ((laws_markOrder.f kj10 t661 t662 1).bind fun bt676=>(if bt676.1 < 0 then (laws_FnExactTraceOf.j1 kj10 t657 t660 t666 true a0_0 l0_1) else ((laws_eqIntS.f kj10 t666 t657).bind fun t678=>(if t678 = true then (laws_FnExactTraceOf.j1 kj10 t657 t660 t666 (t669 != t660) a0_0 l0_1) else (laws_FnExactTraceOf.j1 kj10 t657 t660 t666 true a0_0 l0_1))))) else (some false)) = some r:=H;have A34:=A_ A340;clear A340;by_cases c35 : t675 = true
     ·subst c35;have H1 : ((laws_markOrder.f kj10 t661 t662 1).bind fun bt676=>(if bt676.1 < 0 then (laws_FnExactTraceOf.j1 kj10 t657 t660 t666 true a0_0 l0_1) else ((laws_eqIntS.f kj10 t666 t657).bind fun t678=>(if t678 = true then (laws_FnExactTraceOf.j1 kj10 t657 t660 t666 (t669 != t660) a0_0 l0_1) else (laws_FnExactTraceOf.j1 kj10 t657 t660 t666 true a0_0 l0_1))))) = some r:=by rw [if_pos rfl] at H;exact H
      clear H;have H:=H1;clear H1;replace H:=Option.bind_eq_some_iff.mp H;obtain ⟨⟨t676,t677⟩,A360,H⟩:=H;replace H : (if t676 < 0 then (laws_FnExactTraceOf.j1 kj10 t657 t660 t666 true a0_0 l0_1) else ((laws_eqIntS.f kj10 t666 t657).bind fun t678=>(if t678 = true then (laws_FnExactTraceOf.j1 kj10 t657 t660 t666 (t669 != t660) a0_0 l0_1) else (laws_FnExactTraceOf.j1 kj10 t657 t660 t666 true a0_0 l0_1)))) = some r:=H;have A36:=A_ A360;clear A360;have HC37:=A_ H;clear H;try go_wp2
      replace HO_4:=A_ (Kd.R_drew HO_4.out);replace HO_7:=A_ (Kd.R_drew HO_7.out);replace HO_666001:=A_ (Kd.R_drew HO_666001.out);replace BK651:=A_ (blk_drew BK651.out);replace BK665:=A_ (blk_drew BK665.out);replace HB:=A_ (below_drew1 HB.out);refine start_ (n:=5) (S:=fun w'=>w'.cell? ⟨gb665,0,none⟩ = some (.int .i64 t661) ∧ w'.cell? ⟨gb665,1,none⟩ = some (.slice Ao24 t662.length co24) ∧ w'.cell? ⟨gb651,0,none⟩ = some (.int .i64 a0_0) ∧ w'.cell? ⟨gb651,1,none⟩ = some (.slice A0_1 l0_1.length c0_1)) (ds:=[]) #[F,F,F,F,F] (by kernel_rfl) rfl rfl ⟨blk_cell BK665.out 0,blk_cell BK665.out 1,blk_cell BK651.out 0,blk_cell BK651.out 1⟩ (fun hHeld=>?_)
      generalize wc.drew = w38 at HO_4 HO_7 HO_666001 BK651 BK665 HB hHeld ⊢
      refine take_ (i:=0) (N:=some 41) (v:=?_) (a':=?_) #[T,F,F,F,F] rfl rfl (by kernel_rfl) (fun _ _ _ h=>h) (Or.inl ⟨by rfl,?_⟩) hHeld ?_ ?_
      rotate_left
      ·rintro w' ⟨s0,s1,s2,s3⟩
       go_simp
       with_reducible rfl
      rotate_left;·simp only [Act.put,L_,M_,N_,i64_w,i32_w];rfl
      refine take_ (i:=1) (N:=some 42) (v:=?_) (a':=?_) #[T,T,F,F,F] rfl rfl (by kernel_rfl) (fun _ _ _ h=>h) (Or.inl ⟨by rfl,?_⟩) hHeld ?_ ?_
      rotate_left
      ·rintro w' ⟨s0,s1,s2,s3⟩
       go_simp
       with_reducible rfl
      rotate_left;·simp only [Act.put,L_,M_,N_,i64_w,i32_w];rfl
      refine one_ (i:=2) (N:=some 43) #[T,T,T,F,F] rfl rfl (by kernel_rfl) (by decide) (fun K hK=>?_)
      refine goes_ Tryd.func16 (by kernel_rfl) rfl #[.agg #[.int .i64 a0_0,.slice A0_1 l0_1.length c0_1]] (by rfl) rfl rfl au_ ?_
      with_reducible refine (laws_toOrder.calls kj10 a0_0 _ _ l0_1 t671 t672 _ ?side1 ?side2 A33.out).mono ?_
      (case side1=>exact cl_ (Kd.C_below HR0_1.out HB.out))
      (case side2=>exact HC0_1.out)
      rintro e w39 ⟨v673,rfl,ho0,hb⟩
      refine ⟨_,rfl,?_⟩
      have HO674:=A_ (Kd.R_lower (Kd.R_new' (Kd.R_new' (Kd.R_new' ho0 (Kd.R_lt (rl_ HO_4))) (Kd.R_lt (rl_ HO_7))) (Kd.R_lt (rl_ HO_666001))) (below_size bb_));replace HO_4:=A_ (Kd.R_elder' (rl_ HO_4) (Kd.R_base ho0) hb);replace HO_7:=A_ (Kd.R_elder' (rl_ HO_7) (Kd.R_base ho0) hb);replace HO_666001:=A_ (Kd.R_elder' (rl_ HO_666001) (Kd.R_base ho0) hb);replace BK651:=bz BK651 hb;replace BK665:=bz BK665 hb;replace HB:=A_ (below_step bb_ hb);(try clear hb);(try clear hb2);(try clear hk);(try clear hi);(try clear ho0);obtain ⟨Ao40,co40,eo40⟩:=Kd.R_slice HO674.out;(first|subst eo40|(injection eo40 with f1_ f2_ f3_;have f4_:=f1_.symm;have f5_:=f3_.symm;clear f1_ f2_ f3_;subst f4_;subst f5_))
      refine hK.out _ _ ⟨blk_cell BK665.out 0,blk_cell BK665.out 1,blk_cell BK651.out 0,blk_cell BK651.out 1⟩ (fun hHeld=>?_)
      clear hK K;refine norm_ (a':=?_) ?_ ?_
      rotate_left
      ·show Act.put _ (some 43) _ = _
       simp only [Act.put,L_,M_,N_,i64_w,i32_w]
       rfl
      refine one_ (i:=3) (N:=some 44) #[T,T,T,T,F] rfl rfl (by kernel_rfl) (by decide) (fun K hK=>?_)
      refine goes_ Tryd.func19 (by kernel_rfl) rfl #[.agg #[.int .i64 t661,.slice Ao24 t662.length co24],.agg #[.int .i64 t671,.slice Ao40 t672.length co40]] (by rfl) rfl rfl au_ ?_
      with_reducible refine (laws_eqOrder.calls kj10 t661 _ _ t662 t671 _ _ t672 true _ ?side1 ?side2 ?side3 ?side4 A34.out).mono ?_
      (case side1=>exact cl_ (Kd.R_reads' HO_666001.out).2.2)
      (case side2=>exact (Kd.R_reads' HO_666001.out).2.1)
      (case side3=>exact cl_ (Kd.R_reads' HO674.out).2.2)
      (case side4=>exact (Kd.R_reads' HO674.out).2.1)
      rintro e w41 ⟨rfl,hb⟩
      refine ⟨_,rfl,?_⟩
      replace HO_4:=rb_ HO_4 hb;replace HO_7:=rb_ HO_7 hb;replace HO_666001:=rb_ HO_666001 hb;replace HO674:=rb_ HO674 hb;replace BK651:=bz BK651 hb;replace BK665:=bz BK665 hb;replace HB:=A_ (below_step bb_ hb);(try clear hb);(try clear hb2);(try clear hk);(try clear hi);refine hK.out _ _ ⟨blk_cell BK665.out 0,blk_cell BK665.out 1,blk_cell BK651.out 0,blk_cell BK651.out 1⟩ (fun hHeld=>?_)
      clear hK K;refine norm_ (a':=?_) ?_ ?_
      rotate_left
      ·show Act.put _ (some 44) _ = _
       simp only [Act.put,L_,M_,N_,i64_w,i32_w]
       rfl
      refine pure_ (i:=4) (N:=some 45) (v:=?_) (a':=?_) #[T,T,T,T,T] rfl rfl (by kernel_rfl) (fun _ _ _ h=>h) (Or.inl ⟨by rfl,?_⟩) ?_ ?_
      rotate_left;·intro w';go_simp;with_reducible rfl
      rotate_left;·simp only [Act.put,L_,M_,N_,i64_w,i32_w];rfl
      refine done_ (by kernel_rfl) ?_
      have hnb42:=NB665_651.out;have hnc42:=NB651_665.out;have hcz43_0 : w41.cell? ⟨gb665,0,none⟩ = some (.int .i64 t661):=blk_cell BK665.out 0;have hcz43_1 : w41.cell? ⟨gb665,1,none⟩ = some (.slice Ao24 t662.length co24):=blk_cell BK665.out 1;have hfz43_0:=blk_frozen BK665.out 0;have hfz43_1:=blk_frozen BK665.out 1;go_upto_region 14 with (first|((with_reducible refine gate_callee (f:=20) rfl ?_);refine goesL_ (some 48) rfl rfl Tryd.func20 (by kernel_rfl) rfl #[.agg #[.int .i64 t661,.slice Ao24 t662.length co24],.int .i64 1] rfl au_ ?_;(with_reducible refine (laws_markOrder.calls kj10 t661 (fun k_=>some k_ = (.slice Ao24 t662.length co24 : Value).ownBlock) (.slice Ao24 t662.length co24) t662 1 t676 t677 w _ ?side1 ?side2 A36.out).mono ?_);(case side1=>repeat (first|(with_reducible first|exact HB.out|apply below_alloc|apply pw_below_drewN|apply below_drew1|refine below_set ?_ (Aside0.out (by assumption)))|exact HB.out));(case side2=>exact Kd.R_tight rfl HO_666001.out);rintro e w44 ⟨rfl,hy0,hb,hkp⟩;refine ⟨_,rfl,?_⟩;replace HO_4:=A_ (Kd.R_mono (ok':=fun k_=>some k_ ≠ (v667 : Value).ownBlock ∧ some k_ ≠ (.slice Ao24 t662.length co24 : Value).ownBlock ∧ some k_ ≠ (.slice Ao40 t672.length co40 : Value).ownBlock) (Kd.R_keptB (HO_4.out) hkp (fun k_ hk_ hs_=>(hk_.1.2) hs_)) (fun k_ hk_=>⟨hk_.1.1.1,hk_.1.1.2,hk_.1.2⟩));replace HO_7:=A_ (Kd.R_mono (ok':=fun k_=>some k_ ≠ (v658 : Value).ownBlock ∧ some k_ ≠ (.slice Ao24 t662.length co24 : Value).ownBlock ∧ some k_ ≠ (.slice Ao40 t672.length co40 : Value).ownBlock) (Kd.R_keptB (HO_7.out) hkp (fun k_ hk_ hs_=>(hk_.1.2) hs_)) (fun k_ hk_=>⟨hk_.1.1.1,hk_.1.1.2,hk_.1.2⟩));replace BK651:=A_ (blk_kept (bl_ BK651) hkp (fun hs_=>(fun e_=>(Kd.R_ne HO_666001.out BK651.out (by decide)) e_) hs_));replace BK665:=A_ (blk_kept (bl_ BK665) hkp (fun hs_=>(fun e_=>(Kd.R_ne HO_666001.out BK665.out (by decide)) e_) hs_));replace HO_666001:=A_ (Kd.R_reok rfl hy0 (fun k_ e_=>HO_666001.out.1 k_ e_));replace HO674:=A_ (Kd.R_mono (ok':=fun k_=>some k_ ≠ (v658 : Value).ownBlock ∧ some k_ ≠ (v667 : Value).ownBlock ∧ some k_ ≠ (.slice Ao24 t662.length co24 : Value).ownBlock) (Kd.R_keptB (HO674.out) hkp (fun k_ hk_ hs_=>(hk_.2) hs_)) (fun k_ hk_=>⟨hk_.1.1.1.2,hk_.1.1.2,hk_.1.2⟩));replace HB:=A_ (hb);(try clear hb);(try clear hkp);(try clear hy0)))
      (try simp only [Act.put,L_,M_,N_]);go_cut [61] (fun v61 wc=>∃ (kq : Nat) (x61_36 : Bool),v61 = .bool x61_36 ∧ Aside0 (laws_FnExactTraceOf.j1 kq t657 t660 t666 x61_36 a0_0 l0_1 = some r) ∧ Aside0 (kq ≤ kj10) ∧ Aside0 (Kd.R (Kd.int .i64) 3 wc w.heap.size (fun k_=>some k_ ≠ (v667 : Value).ownBlock ∧ some k_ ≠ ((.slice Ao24 t662.length co24) : Value).ownBlock) v658 t657) ∧ Aside0 (Kd.R (Kd.int .i64) 3 wc w.heap.size (fun k_=>some k_ ≠ (v658 : Value).ownBlock ∧ some k_ ≠ ((.slice Ao24 t662.length co24) : Value).ownBlock) v667 t666) ∧ Aside0 (Kd.R (Kd.int .i64) 3 wc w.heap.size (fun k_=>some k_ ≠ (v658 : Value).ownBlock ∧ some k_ ≠ (v667 : Value).ownBlock) (.slice Ao24 t662.length co24) t677) ∧ Aside0 (wc.heap[gb651]? = some (.cells #[.int .i64 a0_0,(.slice A0_1 l0_1.length c0_1)] 24 (0,0))) ∧ Aside0 (wc.heap[gb665]? = some (.cells #[.int .i64 t661,(.slice Ao24 t662.length co24)] 28 (0,0))) ∧ Aside0 (Below w.heap.size w wc))
      case first =>
       have H:=HC37.out;clear HC37;by_cases c45 : t676 < 0
       ·rw [if_pos c45] at H;have c45b0 : decide (t676 < 0) = true:=decide_eq_true c45;clear c45;(first|rw [c45b0]|(simp only [i64_w,i32_w];rw [c45b0])|skip)
        have H':=A_ H;clear H;go_wp2
        go_meet
        case rel=>exact ⟨_,(true),(by first|rfl|(simp;done)|(simp [*];done)),H',⟨by have:=HJ10.out;first|omega|exact Nat.le_refl _⟩,⟨by (with_reducible repeat (first|apply Kd.R_alloc|apply Kd.R_drewN|apply Kd.R_drew));exact Kd.R_mono HO_4.out (fun _ hk=>⟨hk.1,hk.2.1⟩)⟩,⟨by (with_reducible repeat (first|apply Kd.R_alloc|apply Kd.R_drewN|apply Kd.R_drew));exact Kd.R_mono HO_7.out (fun _ hk=>⟨hk.1,hk.2.1⟩)⟩,⟨by (with_reducible repeat (first|apply Kd.R_alloc|apply Kd.R_drewN|apply Kd.R_drew));exact Kd.R_mono HO_666001.out (fun _ hk=>⟨hk.1.1,hk.1.2⟩)⟩,⟨bl_ BK651⟩,⟨bl_ BK665⟩,⟨bb_⟩⟩
       ·rw [if_neg c45] at H;have c45b0 : decide (t676 < 0) = false:=decide_eq_false c45;clear c45;(first|rw [c45b0]|(simp only [i64_w,i32_w];rw [c45b0])|skip)
        replace H:=Option.bind_eq_some_iff.mp H;obtain ⟨t678,A460,H⟩:=H;replace H : (if t678 = true then (laws_FnExactTraceOf.j1 kj10 t657 t660 t666 (t669 != t660) a0_0 l0_1) else (laws_FnExactTraceOf.j1 kj10 t657 t660 t666 true a0_0 l0_1)) = some r:=H;have A46:=A_ A460;clear A460;by_cases c47 : t678 = true
        ·subst c47;have H1 : (laws_FnExactTraceOf.j1 kj10 t657 t660 t666 (t669 != t660) a0_0 l0_1) = some r:=by rw [if_pos rfl] at H;exact H
         clear H;have H:=H1;clear H1;have H':=A_ H;clear H;obtain ⟨Ao48,co48,eo48⟩:=Kd.R_slice HO_7.out;subst eo48;obtain ⟨Ao49,co49,eo49⟩:=Kd.R_slice HO_4.out;subst eo49;go_wp2_with (first|(go_at_call 18;(with_reducible refine (laws_eqIntS.calls kj10 _ _ t666 _ _ t657 true _ ?side1 ?side2 ?side3 ?side4 A46.out).mono ?_);(case side1=>exact cl_ (Kd.R_reads' HO_7.out).2.2);(case side2=>exact (Kd.R_reads' HO_7.out).2.1);(case side3=>exact cl_ (Kd.R_reads' HO_4.out).2.2);(case side4=>exact (Kd.R_reads' HO_4.out).2.1);rintro e w' ⟨rfl,⟨nd,rfl⟩⟩))
         go_meet
         case rel=>exact ⟨_,((t669 != t660)),(by first|rfl|(simp;done)|(simp [*];done)),H',⟨by have:=HJ10.out;first|omega|exact Nat.le_refl _⟩,⟨by (with_reducible repeat (first|apply Kd.R_alloc|apply Kd.R_drewN|apply Kd.R_drew));exact Kd.R_mono HO_4.out (fun _ hk=>⟨hk.1,hk.2.1⟩)⟩,⟨by (with_reducible repeat (first|apply Kd.R_alloc|apply Kd.R_drewN|apply Kd.R_drew));exact Kd.R_mono HO_7.out (fun _ hk=>⟨hk.1,hk.2.1⟩)⟩,⟨by (with_reducible repeat (first|apply Kd.R_alloc|apply Kd.R_drewN|apply Kd.R_drew));exact Kd.R_mono HO_666001.out (fun _ hk=>⟨hk.1.1,hk.1.2⟩)⟩,⟨bl_ BK651⟩,⟨bl_ BK665⟩,⟨bb_⟩⟩
        ·replace c47:=Bool.eq_false_iff.mpr c47;subst c47;have H1 : (laws_FnExactTraceOf.j1 kj10 t657 t660 t666 true a0_0 l0_1) = some r:=by rw [if_neg (show ¬ (false = true) by decide)] at H;exact H
         clear H;have H:=H1;clear H1;have H':=A_ H;clear H;obtain ⟨Ao50,co50,eo50⟩:=Kd.R_slice HO_7.out;subst eo50;obtain ⟨Ao51,co51,eo51⟩:=Kd.R_slice HO_4.out;subst eo51;go_wp2_with (first|(go_at_call 18;(with_reducible refine (laws_eqIntS.calls kj10 _ _ t666 _ _ t657 false _ ?side1 ?side2 ?side3 ?side4 A46.out).mono ?_);(case side1=>exact cl_ (Kd.R_reads' HO_7.out).2.2);(case side2=>exact (Kd.R_reads' HO_7.out).2.1);(case side3=>exact cl_ (Kd.R_reads' HO_4.out).2.2);(case side4=>exact (Kd.R_reads' HO_4.out).2.1);rintro e w' ⟨rfl,⟨nd,rfl⟩⟩))
         go_meet
         case rel=>exact ⟨_,(true),(by first|rfl|(simp;done)|(simp [*];done)),H',⟨by have:=HJ10.out;first|omega|exact Nat.le_refl _⟩,⟨by (with_reducible repeat (first|apply Kd.R_alloc|apply Kd.R_drewN|apply Kd.R_drew));exact Kd.R_mono HO_4.out (fun _ hk=>⟨hk.1,hk.2.1⟩)⟩,⟨by (with_reducible repeat (first|apply Kd.R_alloc|apply Kd.R_drewN|apply Kd.R_drew));exact Kd.R_mono HO_7.out (fun _ hk=>⟨hk.1,hk.2.1⟩)⟩,⟨by (with_reducible repeat (first|apply Kd.R_alloc|apply Kd.R_drewN|apply Kd.R_drew));exact Kd.R_mono HO_666001.out (fun _ hk=>⟨hk.1.1,hk.1.2⟩)⟩,⟨bl_ BK651⟩,⟨bl_ BK665⟩,⟨bb_⟩⟩
      case rest =>
       clear HC37;try clear c1
       try clear c2
       try clear p2
       try clear c3
       try clear c3b0
       try clear c4
       try clear c14
       try clear c16
       try clear c18
       try clear c19
       try clear c20
       try clear c22
       try clear c23
       try clear c24
       try clear c27
       try clear c32
       try clear c35
       try clear c42
       try clear c45
       try clear c45b0
       try clear c47
       try clear hcz13_0
       try clear hcz13_1
       try clear hcz15_0
       try clear hcz15_1
       try clear hcz19_0
       try clear hcz19_1
       try clear hcz23_0
       try clear hcz23_1
       try clear hcz43_0
       try clear hcz43_1
       try clear hcz5_0
       try clear hcz5_1
       try clear hfz13_0
       try clear hfz13_1
       try clear hfz15_0
       try clear hfz15_1
       try clear hfz19_0
       try clear hfz19_1
       try clear hfz23_0
       try clear hfz23_1
       try clear hfz43_0
       try clear hfz43_1
       try clear hfz5_0
       try clear hfz5_1
       try clear p2
       obtain ⟨kq,x61_36,rfl,HA,HJ36,HO_4,HO_7,HO_666001,BK651,BK665,HB⟩:=hcut;have hl666001_36:=(Kd.R_reads' HO_666001.out).1;rw [hl666001_36] at HO_666001;(try simp only [hl666001_36]);(try simp only [hl666001_36] at BK651);(try simp only [hl666001_36] at BK665);(try simp only [hl666001_36] at HO_4);(try simp only [hl666001_36] at HO_7);cases kq with
       | zero=>exact absurd HA.out (by simp [laws_FnExactTraceOf.j1])
       | succ kj36 =>
        have H:=HA.out;clear HA;simp only [laws_FnExactTraceOf.j1] at H
        by_cases c52 : x61_36 = true
        ·subst c52;have H1 : (some false) = some r:=by rw [if_pos rfl] at H;exact H
         clear H;have H:=H1;clear H1;obtain rfl:=Option.some.inj H;go_wp2
         go_ret
         exact ⟨by first|rfl|(simp [errW_none,errW_some] <;> rfl)|(simp [*,errW_none,errW_some] <;> rfl),bb_⟩
        ·replace c52:=Bool.eq_false_iff.mpr c52;subst c52;have H1 : ((laws_markIntS.f kj36 t666 1).bind fun bt679=>((laws_heldIntS.f kj36 bt679.2 1).bind fun t681=>(if t681 < 0 then (some false) else (if t681 = bt679.1 then ((laws_toOrder.f kj36 a0_0 l0_1).bind fun bt682=>((impl_TraceOf.f kj36 bt682.1 bt682.2).bind fun bt686=>((laws_eqIntS.f kj36 bt686.1 t657).bind fun t690=>(if t690 = true then (laws_FnExactTraceOf.j2 kj36 bt679.2 bt679.1 (bt686.2 != t660)) else (laws_FnExactTraceOf.j2 kj36 bt679.2 bt679.1 true))))) else (some false))))) = some r:=by rw [if_neg (show ¬ (false = true) by decide)] at H;exact H
         clear H;have H:=H1;clear H1;replace H:=Option.bind_eq_some_iff.mp H;obtain ⟨⟨t679,t680⟩,A530,H⟩:=H;replace H : ((laws_heldIntS.f kj36 t680 1).bind fun t681=>(if t681 < 0 then (some false) else (if t681 = t679 then ((laws_toOrder.f kj36 a0_0 l0_1).bind fun bt682=>((impl_TraceOf.f kj36 bt682.1 bt682.2).bind fun bt686=>((laws_eqIntS.f kj36 bt686.1 t657).bind fun t690=>(if t690 = true then (laws_FnExactTraceOf.j2 kj36 t680 t679 (bt686.2 != t660)) else (laws_FnExactTraceOf.j2 kj36 t680 t679 true))))) else (some false)))) = some r:=H;have A53:=A_ A530;clear A530;replace H:=Option.bind_eq_some_iff.mp H;obtain ⟨t681,A540,H⟩:=H;replace H : (if t681 < 0 then (some false) else (if t681 = t679 then ((laws_toOrder.f kj36 a0_0 l0_1).bind fun bt682=>((impl_TraceOf.f kj36 bt682.1 bt682.2).bind fun bt686=>((laws_eqIntS.f kj36 bt686.1 t657).bind fun t690=>(if t690 = true then (laws_FnExactTraceOf.j2 kj36 t680 t679 (bt686.2 != t660)) else (laws_FnExactTraceOf.j2 kj36 t680 t679 true))))) else (some false))) = some r:=H;have A54:=A_ A540;clear A540;by_cases c55 : t681 < 0
         ·rw [if_pos c55] at H;have c55b0 : decide (t681 < 0) = true:=decide_eq_true c55;clear c55;obtain rfl:=Option.some.inj H;obtain ⟨Ao56,co56,eo56⟩:=Kd.R_slice HO_7.out;subst eo56;go_wp2_with (first|((with_reducible refine gate_callee (f:=21) rfl ?_);refine goesL_ (some 64) rfl rfl Tryd.func21 (by kernel_rfl) rfl #[.slice Ao56 t666.length co56,.int .i64 1] rfl au_ ?_;(with_reducible refine (laws_markIntS.calls kj36 (fun k_=>some k_ = (.slice Ao56 t666.length co56 : Value).ownBlock) (.slice Ao56 t666.length co56) t666 1 t679 t680 w _ ?side1 ?side2 A53.out).mono ?_);(case side1=>repeat (first|(with_reducible first|exact HB.out|apply below_alloc|apply pw_below_drewN|apply below_drew1|refine below_set ?_ (Aside0.out (by assumption)))|exact HB.out));(case side2=>exact Kd.R_tight rfl HO_7.out);rintro e w57 ⟨rfl,hy0,hb,hkp⟩;refine ⟨_,rfl,?_⟩;replace HO_4:=A_ (Kd.R_mono (ok':=fun k_=>some k_ ≠ (.slice Ao56 t666.length co56 : Value).ownBlock ∧ some k_ ≠ (.slice Ao24 t677.length co24 : Value).ownBlock) (Kd.R_keptB (HO_4.out) hkp (fun k_ hk_ hs_=>(hk_.1) hs_)) (fun k_ hk_=>⟨hk_.1.1,hk_.1.2⟩));replace HO_666001:=A_ (Kd.R_mono (ok':=fun k_=>some k_ ≠ (v658 : Value).ownBlock ∧ some k_ ≠ (.slice Ao56 t666.length co56 : Value).ownBlock) (Kd.R_keptB (HO_666001.out) hkp (fun k_ hk_ hs_=>(hk_.2) hs_)) (fun k_ hk_=>⟨hk_.1.1,hk_.1.2⟩));replace BK651:=A_ (blk_kept (bl_ BK651) hkp (fun hs_=>(fun e_=>(Kd.R_ne HO_7.out BK651.out (by decide)) e_) hs_));replace BK665:=A_ (blk_kept (bl_ BK665) hkp (fun hs_=>(fun e_=>(Kd.R_ne HO_7.out BK665.out (by decide)) e_) hs_));replace HO_7:=A_ (Kd.R_reok rfl hy0 (fun k_ e_=>HO_7.out.1 k_ e_));replace HB:=A_ (hb);(try clear hb);(try clear hkp);(try clear hy0))|((with_reducible refine gate_callee (f:=22) rfl ?_);refine goesL_ (some 67) rfl rfl Tryd.func22 (by kernel_rfl) rfl #[.slice Ao56 t680.length co56,.int .i64 1] rfl (by (try simp only [P_,Q_,R_]);first|done|(rw [show t680.length = t666.length from (Kd.R_reads' HO_7.out).1.symm] <;> rfl)|rfl|(simp only [S_,U_];rfl)) ?_;(with_reducible refine (laws_heldIntS.calls kj36 _ _ t680 1 t681 _ ?side1 ?side2 A54.out).mono ?_);(case side1=>exact cl_ (Kd.R_reads' HO_7.out).2.2);(case side2=>rw [show t680.length = t666.length from (Kd.R_reads' HO_7.out).1.symm];exact (Kd.R_reads' HO_7.out).2.1);rintro e w' ⟨rfl,⟨nd,rfl⟩⟩;refine ⟨_,rfl,?_⟩))
          go_ret
          exact ⟨by first|rfl|(simp [errW_none,errW_some] <;> rfl)|(simp [*,errW_none,errW_some] <;> rfl),bb_⟩
         ·rw [if_neg c55] at H;have c55b0 : decide (t681 < 0) = false:=decide_eq_false c55;clear c55;by_cases c58 : t681 = t679
          ·rw [if_pos c58] at H;have c58b0 : (t681 == t679) = true:=beq_iff_eq.mpr c58;have c58b1 : (t681 != t679) = false:=bne_eq_false_iff_eq.mpr c58;clear c58;replace H:=Option.bind_eq_some_iff.mp H;obtain ⟨⟨t682,t683⟩,A590,H⟩:=H;replace H : ((impl_TraceOf.f kj36 t682 t683).bind fun bt686=>((laws_eqIntS.f kj36 bt686.1 t657).bind fun t690=>(if t690 = true then (laws_FnExactTraceOf.j2 kj36 t680 t679 (bt686.2 != t660)) else (laws_FnExactTraceOf.j2 kj36 t680 t679 true)))) = some r:=H;have A59:=A_ A590;clear A590;replace H:=Option.bind_eq_some_iff.mp H;obtain ⟨⟨t686,t689⟩,A600,H⟩:=H;replace H : ((laws_eqIntS.f kj36 t686 t657).bind fun t690=>(if t690 = true then (laws_FnExactTraceOf.j2 kj36 t680 t679 (t689 != t660)) else (laws_FnExactTraceOf.j2 kj36 t680 t679 true))) = some r:=H;have A60:=A_ A600;clear A600;have HC61:=A_ H;clear H;obtain ⟨Ao62,co62,eo62⟩:=Kd.R_slice HO_7.out;subst eo62;go_upto_region 25 with (first|((with_reducible refine gate_callee (f:=21) rfl ?_);refine goesL_ (some 64) rfl rfl Tryd.func21 (by kernel_rfl) rfl #[.slice Ao62 t666.length co62,.int .i64 1] rfl au_ ?_;(with_reducible refine (laws_markIntS.calls kj36 (fun k_=>some k_ = (.slice Ao62 t666.length co62 : Value).ownBlock) (.slice Ao62 t666.length co62) t666 1 t679 t680 w _ ?side1 ?side2 A53.out).mono ?_);(case side1=>repeat (first|(with_reducible first|exact HB.out|apply below_alloc|apply pw_below_drewN|apply below_drew1|refine below_set ?_ (Aside0.out (by assumption)))|exact HB.out));(case side2=>exact Kd.R_tight rfl HO_7.out);rintro e w63 ⟨rfl,hy0,hb,hkp⟩;refine ⟨_,rfl,?_⟩;replace HO_4:=A_ (Kd.R_mono (ok':=fun k_=>some k_ ≠ (.slice Ao62 t666.length co62 : Value).ownBlock ∧ some k_ ≠ (.slice Ao24 t677.length co24 : Value).ownBlock) (Kd.R_keptB (HO_4.out) hkp (fun k_ hk_ hs_=>(hk_.1) hs_)) (fun k_ hk_=>⟨hk_.1.1,hk_.1.2⟩));replace HO_666001:=A_ (Kd.R_mono (ok':=fun k_=>some k_ ≠ (v658 : Value).ownBlock ∧ some k_ ≠ (.slice Ao62 t666.length co62 : Value).ownBlock) (Kd.R_keptB (HO_666001.out) hkp (fun k_ hk_ hs_=>(hk_.2) hs_)) (fun k_ hk_=>⟨hk_.1.1,hk_.1.2⟩));replace BK651:=A_ (blk_kept (bl_ BK651) hkp (fun hs_=>(fun e_=>(Kd.R_ne HO_7.out BK651.out (by decide)) e_) hs_));replace BK665:=A_ (blk_kept (bl_ BK665) hkp (fun hs_=>(fun e_=>(Kd.R_ne HO_7.out BK665.out (by decide)) e_) hs_));replace HO_7:=A_ (Kd.R_reok rfl hy0 (fun k_ e_=>HO_7.out.1 k_ e_));replace HB:=A_ (hb);(try clear hb);(try clear hkp);(try clear hy0))|((with_reducible refine gate_callee (f:=22) rfl ?_);refine goesL_ (some 67) rfl rfl Tryd.func22 (by kernel_rfl) rfl #[.slice Ao62 t680.length co62,.int .i64 1] rfl (by (try simp only [P_,Q_,R_]);first|done|(rw [show t680.length = t666.length from (Kd.R_reads' HO_7.out).1.symm] <;> rfl)|rfl|(simp only [S_,U_];rfl)) ?_;(with_reducible refine (laws_heldIntS.calls kj36 _ _ t680 1 t681 _ ?side1 ?side2 A54.out).mono ?_);(case side1=>exact cl_ (Kd.R_reads' HO_7.out).2.2);(case side2=>rw [show t680.length = t666.length from (Kd.R_reads' HO_7.out).1.symm];exact (Kd.R_reads' HO_7.out).2.1);rintro e w' ⟨rfl,⟨nd,rfl⟩⟩;refine ⟨_,rfl,?_⟩;have hnb64:=NB651_665.out;have hnc64:=NB665_651.out;have hcz65_0 : w63.cell? ⟨gb651,0,none⟩ = some (.int .i64 a0_0):=blk_cell BK651.out 0;have hcz65_1 : w63.cell? ⟨gb651,1,none⟩ = some (.slice A0_1 l0_1.length c0_1):=blk_cell BK651.out 1;have hfz65_0:=blk_frozen BK651.out 0;have hfz65_1:=blk_frozen BK651.out 1)|((with_reducible refine gate_callee (f:=16) rfl ?_);refine goesL_ (some 75) rfl rfl Tryd.func16 (by kernel_rfl) rfl #[.agg #[.int .i64 a0_0,.slice A0_1 l0_1.length c0_1]] rfl au_ ?_;(with_reducible refine (laws_toOrder.calls kj36 a0_0 _ _ l0_1 t682 t683 _ ?side1 ?side2 A59.out).mono ?_);(case side1=>exact cl_ (Kd.C_below HR0_1.out bb_));(case side2=>exact HC0_1.out);rintro e w66 ⟨v684,rfl,ho0,hb⟩;refine ⟨_,rfl,?_⟩;have HO685:=A_ (Kd.R_lower (Kd.R_new' (Kd.R_new' (Kd.R_new' ho0 (Kd.R_lt (rl_ HO_4))) (Kd.R_lt (rl_ HO_7))) (Kd.R_lt (rl_ HO_666001))) (below_size bb_));replace HO_4:=A_ (Kd.R_elder' (rl_ HO_4) (Kd.R_base ho0) hb);replace HO_7:=A_ (Kd.R_elder' (rl_ HO_7) (Kd.R_base ho0) hb);replace HO_666001:=A_ (Kd.R_elder' (rl_ HO_666001) (Kd.R_base ho0) hb);replace BK651:=bz BK651 hb;replace BK665:=bz BK665 hb;replace HB:=A_ (below_step bb_ hb);(try clear hb);(try clear hb2);(try clear hk);(try clear hi);(try clear ho0);obtain ⟨Ao67,co67,eo67⟩:=Kd.R_slice HO685.out;subst eo67)|((with_reducible refine gate_callee (f:=24) rfl ?_);refine goesL_ (some 76) rfl rfl Tryd.func24 (by kernel_rfl) rfl #[.agg #[.int .i64 t682,.slice Ao67 t683.length co67]] rfl au_ ?_;(with_reducible refine (impl_TraceOf.calls kj36 t682 _ _ t683 t686 t689 _ ?side1 ?side2 ?side3 A60.out).mono ?_);(case side1=>exact cl_ (Kd.R_reads' HO685.out).2.2);(case side2=>exact (Kd.R_reads' HO685.out).2.1);(case side3=>first|exact HT.out|exact HT.out.below bb_|(repeat (first|exact HT.out|apply TabOK.drewN|apply TabOK.drew|apply TabOK.alloc)));rintro e w68 ⟨v687,rfl,ho0,hb⟩;refine ⟨_,rfl,?_⟩;have HO688:=A_ (Kd.R_lower (Kd.R_new' (Kd.R_new' (Kd.R_new' (Kd.R_new' ho0 (Kd.R_lt (rl_ HO_4))) (Kd.R_lt (rl_ HO_7))) (Kd.R_lt (rl_ HO_666001))) (Kd.R_lt (rl_ HO685))) (below_size bb_));replace HO_4:=A_ (Kd.R_elder' (rl_ HO_4) (Kd.R_base ho0) hb);replace HO_7:=A_ (Kd.R_elder' (rl_ HO_7) (Kd.R_base ho0) hb);replace HO_666001:=A_ (Kd.R_elder' (rl_ HO_666001) (Kd.R_base ho0) hb);replace HO685:=A_ (Kd.R_elder' (rl_ HO685) (Kd.R_base ho0) hb);replace BK651:=bz BK651 hb;replace BK665:=bz BK665 hb;replace HB:=A_ (below_step bb_ hb);(try clear hb);(try clear hb2);(try clear hk);(try clear hi);(try clear ho0)))
           (try simp only [Act.put,L_,M_,N_]);go_cut [87] (fun v87 wc=>∃ (kq : Nat) (x87_60 : Bool),v87 = .bool x87_60 ∧ Aside0 (laws_FnExactTraceOf.j2 kq t680 t679 x87_60 = some r) ∧ Aside0 (kq ≤ kj36) ∧ Aside0 (Kd.R (Kd.int .i64) 3 wc w.heap.size (fun k_=>some k_ ≠ ((.slice Ao24 t677.length co24) : Value).ownBlock) (.slice Ao62 t666.length co62) t680) ∧ Aside0 (Kd.R (Kd.int .i64) 3 wc w.heap.size (fun k_=>some k_ ≠ ((.slice Ao62 t666.length co62) : Value).ownBlock) (.slice Ao24 t677.length co24) t677) ∧ Aside0 (wc.heap[gb651]? = some (.cells #[.int .i64 a0_0,(.slice A0_1 l0_1.length c0_1)] 24 (0,0))) ∧ Aside0 (wc.heap[gb665]? = some (.cells #[.int .i64 t661,(.slice Ao24 t677.length co24)] 28 (0,0))) ∧ Aside0 (Below w.heap.size w wc))
           case first =>
            have H:=HC61.out;clear HC61;replace H:=Option.bind_eq_some_iff.mp H;obtain ⟨t690,A690,H⟩:=H;replace H : (if t690 = true then (laws_FnExactTraceOf.j2 kj36 t680 t679 (t689 != t660)) else (laws_FnExactTraceOf.j2 kj36 t680 t679 true)) = some r:=H;have A69:=A_ A690;clear A690;by_cases c70 : t690 = true
            ·subst c70;have H1 : (laws_FnExactTraceOf.j2 kj36 t680 t679 (t689 != t660)) = some r:=by rw [if_pos rfl] at H;exact H
             clear H;have H:=H1;clear H1;have H':=A_ H;clear H;obtain ⟨Ao71,co71,eo71⟩:=Kd.R_slice HO688.out;subst eo71;obtain ⟨Ao72,co72,eo72⟩:=Kd.R_slice HO_4.out;subst eo72;go_wp2_with (first|((with_reducible refine gate_callee (f:=18) rfl ?_);refine goesL_ (some 81) rfl rfl Tryd.func18 (by kernel_rfl) rfl #[.slice Ao71 t686.length co71,.slice Ao72 t657.length co72] rfl au_ ?_;(with_reducible refine (laws_eqIntS.calls kj36 _ _ t686 _ _ t657 true _ ?side1 ?side2 ?side3 ?side4 A69.out).mono ?_);(case side1=>exact cl_ (Kd.R_reads' HO688.out).2.2);(case side2=>exact (Kd.R_reads' HO688.out).2.1);(case side3=>exact cl_ (Kd.R_reads' HO_4.out).2.2);(case side4=>exact (Kd.R_reads' HO_4.out).2.1);rintro e w' ⟨rfl,⟨nd,rfl⟩⟩;refine ⟨_,rfl,?_⟩))
             go_meet
             case rel=>exact ⟨_,((t689 != t660)),(by first|rfl|(simp;done)|(simp [*];done)),H',⟨by have:=HJ10.out;have:=HJ36.out;first|omega|exact Nat.le_refl _⟩,⟨by (try simp only [hl666001_36]);(with_reducible repeat (first|apply Kd.R_alloc|apply Kd.R_drewN|apply Kd.R_drew));exact Kd.R_mono HO_7.out (fun _ hk=>hk.1.1.2)⟩,⟨by (try simp only [hl666001_36]);(with_reducible repeat (first|apply Kd.R_alloc|apply Kd.R_drewN|apply Kd.R_drew));exact Kd.R_mono HO_666001.out (fun _ hk=>hk.1.1.2)⟩,⟨by (try simp only [hl666001_36]);(with_reducible repeat (first|refine blk_drewN ?_ _|refine blk_drew ?_|refine blk_alloc ?_ _));exact BK651.out⟩,⟨by (try simp only [hl666001_36]);(with_reducible repeat (first|refine blk_drewN ?_ _|refine blk_drew ?_|refine blk_alloc ?_ _));exact BK665.out⟩,⟨bb_⟩⟩
            ·replace c70:=Bool.eq_false_iff.mpr c70;subst c70;have H1 : (laws_FnExactTraceOf.j2 kj36 t680 t679 true) = some r:=by rw [if_neg (show ¬ (false = true) by decide)] at H;exact H
             clear H;have H:=H1;clear H1;have H':=A_ H;clear H;obtain ⟨Ao73,co73,eo73⟩:=Kd.R_slice HO688.out;subst eo73;obtain ⟨Ao74,co74,eo74⟩:=Kd.R_slice HO_4.out;subst eo74;go_wp2_with (first|((with_reducible refine gate_callee (f:=18) rfl ?_);refine goesL_ (some 81) rfl rfl Tryd.func18 (by kernel_rfl) rfl #[.slice Ao73 t686.length co73,.slice Ao74 t657.length co74] rfl au_ ?_;(with_reducible refine (laws_eqIntS.calls kj36 _ _ t686 _ _ t657 false _ ?side1 ?side2 ?side3 ?side4 A69.out).mono ?_);(case side1=>exact cl_ (Kd.R_reads' HO688.out).2.2);(case side2=>exact (Kd.R_reads' HO688.out).2.1);(case side3=>exact cl_ (Kd.R_reads' HO_4.out).2.2);(case side4=>exact (Kd.R_reads' HO_4.out).2.1);rintro e w' ⟨rfl,⟨nd,rfl⟩⟩;refine ⟨_,rfl,?_⟩))
             go_meet
             case rel=>exact ⟨_,(true),(by first|rfl|(simp;done)|(simp [*];done)),H',⟨by have:=HJ10.out;have:=HJ36.out;first|omega|exact Nat.le_refl _⟩,⟨by (try simp only [hl666001_36]);(with_reducible repeat (first|apply Kd.R_alloc|apply Kd.R_drewN|apply Kd.R_drew));exact Kd.R_mono HO_7.out (fun _ hk=>hk.1.1.2)⟩,⟨by (try simp only [hl666001_36]);(with_reducible repeat (first|apply Kd.R_alloc|apply Kd.R_drewN|apply Kd.R_drew));exact Kd.R_mono HO_666001.out (fun _ hk=>hk.1.1.2)⟩,⟨by (try simp only [hl666001_36]);(with_reducible repeat (first|refine blk_drewN ?_ _|refine blk_drew ?_|refine blk_alloc ?_ _));exact BK651.out⟩,⟨by (try simp only [hl666001_36]);(with_reducible repeat (first|refine blk_drewN ?_ _|refine blk_drew ?_|refine blk_alloc ?_ _));exact BK665.out⟩,⟨bb_⟩⟩
           case rest =>
            clear HC61;try clear c1
            try clear c2
            try clear p2
            try clear c3
            try clear c3b0
            try clear c4
            try clear c5
            try clear c6
            try clear c7
            try clear c14
            try clear c16
            try clear c18
            try clear c19
            try clear c20
            try clear c21
            try clear c22
            try clear c23
            try clear c24
            try clear c27
            try clear c32
            try clear c35
            try clear c42
            try clear c45
            try clear c45b0
            try clear c47
            try clear c52
            try clear c55
            try clear c55b0
            try clear c58
            try clear c58b0
            try clear c58b1
            try clear c64
            try clear c70
            try clear hcz13_0
            try clear hcz13_1
            try clear hcz15_0
            try clear hcz15_1
            try clear hcz19_0
            try clear hcz19_1
            try clear hcz23_0
            try clear hcz23_1
            try clear hcz43_0
            try clear hcz43_1
            try clear hcz5_0
            try clear hcz5_1
            try clear hcz65_0
            try clear hcz65_1
            try clear hfz13_0
            try clear hfz13_1
            try clear hfz15_0
            try clear hfz15_1
            try clear hfz19_0
            try clear hfz19_1
            try clear hfz23_0
            try clear hfz23_1
            try clear hfz43_0
            try clear hfz43_1
            try clear hfz5_0
            try clear hfz5_1
            try clear hfz65_0
            try clear hfz65_1
            try clear p2
            obtain ⟨kq,x87_60,rfl,HA,HJ60,HO_7,HO_666001,BK651,BK665,HB⟩:=hcut;have hl7_60:=(Kd.R_reads' HO_7.out).1;rw [hl7_60] at HO_7;(try simp only [hl7_60]);(try simp only [hl7_60] at BK651);(try simp only [hl7_60] at BK665);(try simp only [hl7_60] at HO_666001);cases kq with
            | zero=>exact absurd HA.out (by simp [laws_FnExactTraceOf.j2])
            | succ kj60 =>
             have H:=HA.out;clear HA;simp only [laws_FnExactTraceOf.j2] at H
             by_cases c75 : x87_60 = true
             ·subst c75;have H1 : (some false) = some r:=by rw [if_pos rfl] at H;exact H
              clear H;have H:=H1;clear H1;obtain rfl:=Option.some.inj H;go_wp2
              go_ret
              exact ⟨by first|rfl|(simp [errW_none,errW_some] <;> rfl)|(simp [*,errW_none,errW_some] <;> rfl),bb_⟩
             ·replace c75:=Bool.eq_false_iff.mpr c75;subst c75;have H1 : ((laws_heldIntS.f kj60 t680 1).bind fun t691=>(if t691 < 0 then (some false) else (if t691 = t679 then (some true) else (some false)))) = some r:=by rw [if_neg (show ¬ (false = true) by decide)] at H;exact H
              clear H;have H:=H1;clear H1;replace H:=Option.bind_eq_some_iff.mp H;obtain ⟨t691,A760,H⟩:=H;replace H : (if t691 < 0 then (some false) else (if t691 = t679 then (some true) else (some false))) = some r:=H;have A76:=A_ A760;clear A760;by_cases c77 : t691 < 0
              ·rw [if_pos c77] at H;have c77b0 : decide (t691 < 0) = true:=decide_eq_true c77;clear c77;obtain rfl:=Option.some.inj H;go_wp2_with (first|((with_reducible refine gate_callee (f:=22) rfl ?_);refine goesL_ (some 90) rfl rfl Tryd.func22 (by kernel_rfl) rfl #[.slice Ao62 t680.length co62,.int .i64 1] rfl au_ ?_;(with_reducible refine (laws_heldIntS.calls kj60 _ _ t680 1 t691 _ ?side1 ?side2 A76.out).mono ?_);(case side1=>exact cl_ (Kd.R_reads' HO_7.out).2.2);(case side2=>exact (Kd.R_reads' HO_7.out).2.1);rintro e w' ⟨rfl,⟨nd,rfl⟩⟩;refine ⟨_,rfl,?_⟩))
               go_ret
               exact ⟨by first|rfl|(simp [errW_none,errW_some] <;> rfl)|(simp [*,errW_none,errW_some] <;> rfl),bb_⟩
              ·rw [if_neg c77] at H;have c77b0 : decide (t691 < 0) = false:=decide_eq_false c77;clear c77;by_cases c78 : t691 = t679
               ·rw [if_pos c78] at H;have c78b0 : (t691 == t679) = true:=beq_iff_eq.mpr c78;have c78b1 : (t691 != t679) = false:=bne_eq_false_iff_eq.mpr c78;clear c78;obtain rfl:=Option.some.inj H;go_wp2_with (first|((with_reducible refine gate_callee (f:=22) rfl ?_);refine goesL_ (some 90) rfl rfl Tryd.func22 (by kernel_rfl) rfl #[.slice Ao62 t680.length co62,.int .i64 1] rfl au_ ?_;(with_reducible refine (laws_heldIntS.calls kj60 _ _ t680 1 t691 _ ?side1 ?side2 A76.out).mono ?_);(case side1=>exact cl_ (Kd.R_reads' HO_7.out).2.2);(case side2=>exact (Kd.R_reads' HO_7.out).2.1);rintro e w' ⟨rfl,⟨nd,rfl⟩⟩;refine ⟨_,rfl,?_⟩))
                go_ret
                exact ⟨by first|rfl|(simp [errW_none,errW_some] <;> rfl)|(simp [*,errW_none,errW_some] <;> rfl),bb_⟩
               ·rw [if_neg c78] at H;have c78b0 : (t691 == t679) = false:=beq_eq_false_iff_ne.mpr c78;have c78b1 : (t691 != t679) = true:=bne_iff_ne.mpr c78;obtain rfl:=Option.some.inj H;go_wp2_with (first|((with_reducible refine gate_callee (f:=22) rfl ?_);refine goesL_ (some 90) rfl rfl Tryd.func22 (by kernel_rfl) rfl #[.slice Ao62 t680.length co62,.int .i64 1] rfl au_ ?_;(with_reducible refine (laws_heldIntS.calls kj60 _ _ t680 1 t691 _ ?side1 ?side2 A76.out).mono ?_);(case side1=>exact cl_ (Kd.R_reads' HO_7.out).2.2);(case side2=>exact (Kd.R_reads' HO_7.out).2.1);rintro e w' ⟨rfl,⟨nd,rfl⟩⟩;refine ⟨_,rfl,?_⟩))
                go_ret
                exact ⟨by first|rfl|(simp [errW_none,errW_some] <;> rfl)|(simp [*,errW_none,errW_some] <;> rfl),bb_⟩
          ·rw [if_neg c58] at H;have c58b0 : (t681 == t679) = false:=beq_eq_false_iff_ne.mpr c58;have c58b1 : (t681 != t679) = true:=bne_iff_ne.mpr c58;obtain rfl:=Option.some.inj H;obtain ⟨Ao79,co79,eo79⟩:=Kd.R_slice HO_7.out;subst eo79;go_wp2_with (first|((with_reducible refine gate_callee (f:=21) rfl ?_);refine goesL_ (some 64) rfl rfl Tryd.func21 (by kernel_rfl) rfl #[.slice Ao79 t666.length co79,.int .i64 1] rfl au_ ?_;(with_reducible refine (laws_markIntS.calls kj36 (fun k_=>some k_ = (.slice Ao79 t666.length co79 : Value).ownBlock) (.slice Ao79 t666.length co79) t666 1 t679 t680 w _ ?side1 ?side2 A53.out).mono ?_);(case side1=>repeat (first|(with_reducible first|exact HB.out|apply below_alloc|apply pw_below_drewN|apply below_drew1|refine below_set ?_ (Aside0.out (by assumption)))|exact HB.out));(case side2=>exact Kd.R_tight rfl HO_7.out);rintro e w80 ⟨rfl,hy0,hb,hkp⟩;refine ⟨_,rfl,?_⟩;replace HO_4:=A_ (Kd.R_mono (ok':=fun k_=>some k_ ≠ (.slice Ao79 t666.length co79 : Value).ownBlock ∧ some k_ ≠ (.slice Ao24 t677.length co24 : Value).ownBlock) (Kd.R_keptB (HO_4.out) hkp (fun k_ hk_ hs_=>(hk_.1) hs_)) (fun k_ hk_=>⟨hk_.1.1,hk_.1.2⟩));replace HO_666001:=A_ (Kd.R_mono (ok':=fun k_=>some k_ ≠ (v658 : Value).ownBlock ∧ some k_ ≠ (.slice Ao79 t666.length co79 : Value).ownBlock) (Kd.R_keptB (HO_666001.out) hkp (fun k_ hk_ hs_=>(hk_.2) hs_)) (fun k_ hk_=>⟨hk_.1.1,hk_.1.2⟩));replace BK651:=A_ (blk_kept (bl_ BK651) hkp (fun hs_=>(fun e_=>(Kd.R_ne HO_7.out BK651.out (by decide)) e_) hs_));replace BK665:=A_ (blk_kept (bl_ BK665) hkp (fun hs_=>(fun e_=>(Kd.R_ne HO_7.out BK665.out (by decide)) e_) hs_));replace HO_7:=A_ (Kd.R_reok rfl hy0 (fun k_ e_=>HO_7.out.1 k_ e_));replace HB:=A_ (hb);(try clear hb);(try clear hkp);(try clear hy0))|((with_reducible refine gate_callee (f:=22) rfl ?_);refine goesL_ (some 67) rfl rfl Tryd.func22 (by kernel_rfl) rfl #[.slice Ao79 t680.length co79,.int .i64 1] rfl (by (try simp only [P_,Q_,R_]);first|done|(rw [show t680.length = t666.length from (Kd.R_reads' HO_7.out).1.symm] <;> rfl)|rfl|(simp only [S_,U_];rfl)) ?_;(with_reducible refine (laws_heldIntS.calls kj36 _ _ t680 1 t681 _ ?side1 ?side2 A54.out).mono ?_);(case side1=>exact cl_ (Kd.R_reads' HO_7.out).2.2);(case side2=>rw [show t680.length = t666.length from (Kd.R_reads' HO_7.out).1.symm];exact (Kd.R_reads' HO_7.out).2.1);rintro e w' ⟨rfl,⟨nd,rfl⟩⟩;refine ⟨_,rfl,?_⟩))
           go_ret
           exact ⟨by first|rfl|(simp [errW_none,errW_some] <;> rfl)|(simp [*,errW_none,errW_some] <;> rfl),bb_⟩
     ·replace c35:=Bool.eq_false_iff.mpr c35;subst c35;have H1 : (some false) = some r:=by rw [if_neg (show ¬ (false = true) by decide)] at H;exact H
      clear H;have H:=H1;clear H1;obtain rfl:=Option.some.inj H;try go_wp2
      replace HO_4:=A_ (Kd.R_drew HO_4.out);replace HO_7:=A_ (Kd.R_drew HO_7.out);replace HO_666001:=A_ (Kd.R_drew HO_666001.out);replace BK651:=A_ (blk_drew BK651.out);replace BK665:=A_ (blk_drew BK665.out);replace HB:=A_ (below_drew1 HB.out);refine start_ (n:=5) (S:=fun w'=>w'.cell? ⟨gb665,0,none⟩ = some (.int .i64 t661) ∧ w'.cell? ⟨gb665,1,none⟩ = some (.slice Ao24 t662.length co24) ∧ w'.cell? ⟨gb651,0,none⟩ = some (.int .i64 a0_0) ∧ w'.cell? ⟨gb651,1,none⟩ = some (.slice A0_1 l0_1.length c0_1)) (ds:=[]) #[F,F,F,F,F] (by kernel_rfl) rfl rfl ⟨blk_cell BK665.out 0,blk_cell BK665.out 1,blk_cell BK651.out 0,blk_cell BK651.out 1⟩ (fun hHeld=>?_)
      generalize wc.drew = w81 at HO_4 HO_7 HO_666001 BK651 BK665 HB hHeld ⊢
      refine take_ (i:=0) (N:=some 41) (v:=?_) (a':=?_) #[T,F,F,F,F] rfl rfl (by kernel_rfl) (fun _ _ _ h=>h) (Or.inl ⟨by rfl,?_⟩) hHeld ?_ ?_
      rotate_left
      ·rintro w' ⟨s0,s1,s2,s3⟩
       go_simp
       with_reducible rfl
      rotate_left;·simp only [Act.put,L_,M_,N_,i64_w,i32_w];rfl
      refine take_ (i:=1) (N:=some 42) (v:=?_) (a':=?_) #[T,T,F,F,F] rfl rfl (by kernel_rfl) (fun _ _ _ h=>h) (Or.inl ⟨by rfl,?_⟩) hHeld ?_ ?_
      rotate_left
      ·rintro w' ⟨s0,s1,s2,s3⟩
       go_simp
       with_reducible rfl
      rotate_left;·simp only [Act.put,L_,M_,N_,i64_w,i32_w];rfl
      refine one_ (i:=2) (N:=some 43) #[T,T,T,F,F] rfl rfl (by kernel_rfl) (by decide) (fun K hK=>?_)
      refine goes_ Tryd.func16 (by kernel_rfl) rfl #[.agg #[.int .i64 a0_0,.slice A0_1 l0_1.length c0_1]] (by rfl) rfl rfl au_ ?_
      with_reducible refine (laws_toOrder.calls kj10 a0_0 _ _ l0_1 t671 t672 _ ?side1 ?side2 A33.out).mono ?_
      (case side1=>exact cl_ (Kd.C_below HR0_1.out HB.out))
      (case side2=>exact HC0_1.out)
      rintro e w82 ⟨v673,rfl,ho0,hb⟩
      refine ⟨_,rfl,?_⟩
      have HO674:=A_ (Kd.R_lower (Kd.R_new' (Kd.R_new' (Kd.R_new' ho0 (Kd.R_lt (rl_ HO_4))) (Kd.R_lt (rl_ HO_7))) (Kd.R_lt (rl_ HO_666001))) (below_size bb_));replace HO_4:=A_ (Kd.R_elder' (rl_ HO_4) (Kd.R_base ho0) hb);replace HO_7:=A_ (Kd.R_elder' (rl_ HO_7) (Kd.R_base ho0) hb);replace HO_666001:=A_ (Kd.R_elder' (rl_ HO_666001) (Kd.R_base ho0) hb);replace BK651:=bz BK651 hb;replace BK665:=bz BK665 hb;replace HB:=A_ (below_step bb_ hb);(try clear hb);(try clear hb2);(try clear hk);(try clear hi);(try clear ho0);obtain ⟨Ao83,co83,eo83⟩:=Kd.R_slice HO674.out;(first|subst eo83|(injection eo83 with f1_ f2_ f3_;have f4_:=f1_.symm;have f5_:=f3_.symm;clear f1_ f2_ f3_;subst f4_;subst f5_))
      refine hK.out _ _ ⟨blk_cell BK665.out 0,blk_cell BK665.out 1,blk_cell BK651.out 0,blk_cell BK651.out 1⟩ (fun hHeld=>?_)
      clear hK K;refine norm_ (a':=?_) ?_ ?_
      rotate_left
      ·show Act.put _ (some 43) _ = _
       simp only [Act.put,L_,M_,N_,i64_w,i32_w]
       rfl
      refine one_ (i:=3) (N:=some 44) #[T,T,T,T,F] rfl rfl (by kernel_rfl) (by decide) (fun K hK=>?_)
      refine goes_ Tryd.func19 (by kernel_rfl) rfl #[.agg #[.int .i64 t661,.slice Ao24 t662.length co24],.agg #[.int .i64 t671,.slice Ao83 t672.length co83]] (by rfl) rfl rfl au_ ?_
      with_reducible refine (laws_eqOrder.calls kj10 t661 _ _ t662 t671 _ _ t672 false _ ?side1 ?side2 ?side3 ?side4 A34.out).mono ?_
      (case side1=>exact cl_ (Kd.R_reads' HO_666001.out).2.2)
      (case side2=>exact (Kd.R_reads' HO_666001.out).2.1)
      (case side3=>exact cl_ (Kd.R_reads' HO674.out).2.2)
      (case side4=>exact (Kd.R_reads' HO674.out).2.1)
      rintro e w84 ⟨rfl,hb⟩
      refine ⟨_,rfl,?_⟩
      replace HO_4:=rb_ HO_4 hb;replace HO_7:=rb_ HO_7 hb;replace HO_666001:=rb_ HO_666001 hb;replace HO674:=rb_ HO674 hb;replace BK651:=bz BK651 hb;replace BK665:=bz BK665 hb;replace HB:=A_ (below_step bb_ hb);(try clear hb);(try clear hb2);(try clear hk);(try clear hi);refine hK.out _ _ ⟨blk_cell BK665.out 0,blk_cell BK665.out 1,blk_cell BK651.out 0,blk_cell BK651.out 1⟩ (fun hHeld=>?_)
      clear hK K;refine norm_ (a':=?_) ?_ ?_
      rotate_left
      ·show Act.put _ (some 44) _ = _
       simp only [Act.put,L_,M_,N_,i64_w,i32_w]
       rfl
      refine pure_ (i:=4) (N:=some 45) (v:=?_) (a':=?_) #[T,T,T,T,T] rfl rfl (by kernel_rfl) (fun _ _ _ h=>h) (Or.inl ⟨by rfl,?_⟩) ?_ ?_
      rotate_left;·intro w';go_simp;with_reducible rfl
      rotate_left;·simp only [Act.put,L_,M_,N_,i64_w,i32_w];rfl
      refine done_ (by kernel_rfl) ?_
      try go_wp2
      go_ret
      exact ⟨by first|rfl|(simp [errW_none,errW_some] <;> rfl)|(simp [*,errW_none,errW_some] <;> rfl),bb_⟩
end Go.Proofs.YtimjblnglhmakaaDoor.P
namespace Go.Proofs.YtimjblnglhmakaaDoor.P
open Go.RowKit Go.Proofs.YtimjblnglhmakaaDoorW.PrintWords Go.Proofs.YtimjblnglhmakaaDoorW.PrintLast Go.Proofs.YtimjblnglhmakaaDoorW.PrintMore
open Bool renaming true → T, false → F
open List renaming setIfInBounds_toArray → L_, set_cons_zero → M_, set_cons_succ → N_, map_toArray → P_, map_cons → Q_, map_nil → R_, length_drop → S_, length_take → U_
open Aside0 renaming mk → A_
set_option linter.unusedVariables false
def laws_FnExactTraceOf.Pure : Prop := ∀ (a0_0 : Int) (l0_1 : List Int), (Lit.int .i64 a0_0).wf = true → l0_1.length ≤ maxLen → (∀ x ∈ l0_1, (Lit.int .i64 x).wf = true) → ∃ k, laws_FnExactTraceOf.f k a0_0 l0_1 = some true
theorem laws_FnExactTraceOf.walk (P : laws_FnExactTraceOf.Pure) (a0_0 : Int) (a0_1 : Option Addr) (len0_1 cap0_1 : Nat) (z0_1 : List Int) (w : World) (w0_0 : (Lit.int .i64 a0_0).wf = true) (w0_1 : (a0_1 = none ∧ len0_1 = 0 ∧ cap0_1 = 0 ∧ z0_1 = []) ∨ ∃ x, a0_1 = some x ∧ len0_1 ≤ cap0_1 ∧ cap0_1 ≤ maxLen ∧ z0_1.length = cap0_1 ∧ (∀ i, i < z0_1.length → w.cell? (x.add i) = some (.int .i64 (z0_1.getD i 0))) ∧ ∀ n ∈ z0_1, (Lit.int .i64 n).wf = true) (hT : TabOK w) :
    Calls Tryd.prog 4 #[.agg #[.int .i64 a0_0, .slice a0_1 len0_1 cap0_1]] w fun e w' => e = .returned (.bool true) ∧ Below w.heap.size w w' := by
  obtain ⟨l0_1, rfl, hr0_1, hm0_1, hw0_1, hc0_1⟩ := ReadsInt.ofRowC w0_1
  obtain ⟨k, h⟩ := P a0_0 l0_1 w0_0 hm0_1 hw0_1
  refine (laws_FnExactTraceOf.calls k a0_0 _ _ l0_1 true w (Kd.C_of_reads (d := (0 : Int)) (h1 := fun _ => rfl) hr0_1) hc0_1 hT h).mono ?_
  rintro e w' ⟨rfl, hd⟩
  exact ⟨rfl, hd⟩
end Go.Proofs.YtimjblnglhmakaaDoor.P
namespace Go.Proofs.YtimjblnglhmakaaDoor.P
open Go.RowKit Go.Proofs.YtimjblnglhmakaaDoorW.PrintWords Go.Proofs.YtimjblnglhmakaaDoorW.PrintLast Go.Proofs.YtimjblnglhmakaaDoorW.PrintMore
open Bool renaming true → T, false → F
open List renaming setIfInBounds_toArray → L_, set_cons_zero → M_, set_cons_succ → N_, map_toArray → P_, map_cons → Q_, map_nil → R_, length_drop → S_, length_take → U_
open Aside0 renaming mk → A_
attribute [local go_sem] max2_int min2_int max_two min_two max_three min_three max_four min_four
set_option linter.unusedVariables false
set_option linter.unusedSimpArgs false
attribute [local go_sem] fldOrder_0 fldOrder_1
def spec_l1Own.f (l0 : List Int) : Option (List Int) := (some (([] : List Int) : List Int)).bind fun y175 => (if y175.length + l0.length < 17592186044416 then (some (y175 ++ l0)) else (none))
end Go.Proofs.YtimjblnglhmakaaDoor.P
namespace Go.Proofs.YtimjblnglhmakaaDoor.M
open Go.RowKit Go.Proofs.YtimjblnglhmakaaDoorW.PrintMore Go.Proofs.YtimjblnglhmakaaDoorW.PrintLast Go.Proofs.YtimjblnglhmakaaDoorW.PrintWords
theorem i64_small (n : Nat) (h : n < 9223372036854775808) : IntKind.i64.wrap (n : Int) = (n : Int) := by
  simp [IntKind.wrap, IntKind.signed, IntKind.bits]
  omega
theorem wrap64_id (x : Int) (h0 : -9223372036854775808 ≤ x) (h1 : x ≤ 9223372036854775807) : wrap64 x = x := by
  unfold wrap64
  omega
theorem ofInt64 (a : Nat) (ha : a < 18446744073709551616) : (BitVec.ofInt 64 (a : Int)).toNat = a := by
  rw [BitVec.ofInt_natCast, BitVec.toNat_ofNat]; exact Nat.mod_eq_of_lt (by omega)
theorem and_i64 (a b : Nat) (ha : a < 9223372036854775808) (hb : b < 9223372036854775808) : Go.bits .and .i64 (a : Int) (b : Int) = ((a &&& b : Nat) : Int) := by
  have hx : a &&& b < 2 ^ 63 := Nat.and_lt_two_pow _ (by omega)
  show IntKind.i64.wrap ((BitVec.ofInt 64 (a : Int) &&& BitVec.ofInt 64 (b : Int)).toNat : Int) = _
  rw [BitVec.toNat_and, ofInt64 a (by omega), ofInt64 b (by omega), i64_small _ (by omega)]
theorem or_i64 (a b : Nat) (ha : a < 9223372036854775808) (hb : b < 9223372036854775808) : Go.bits .or .i64 (a : Int) (b : Int) = ((a ||| b : Nat) : Int) := by
  have hx : a ||| b < 2 ^ 63 := Nat.or_lt_two_pow (by omega) (by omega)
  show IntKind.i64.wrap ((BitVec.ofInt 64 (a : Int) ||| BitVec.ofInt 64 (b : Int)).toNat : Int) = _
  rw [BitVec.toNat_or, ofInt64 a (by omega), ofInt64 b (by omega), i64_small _ (by omega)]
def diff (a b : Nat) : Nat := a &&& (a ^^^ b)
theorem testBit_diff (a b i : Nat) : (diff a b).testBit i = (a.testBit i && !b.testBit i) := by
  unfold diff
  rw [Nat.testBit_and, Nat.testBit_xor]
  cases a.testBit i <;> cases b.testBit i <;> rfl
theorem andNot_i64 (a b : Nat) (ha : a < 9223372036854775808) (hb : b < 9223372036854775808) : Go.bits .andNot .i64 (a : Int) (b : Int) = ((diff a b : Nat) : Int) := by
  have hx : diff a b < 2 ^ 63 := Nat.lt_of_le_of_lt Nat.and_le_left (by omega)
  show IntKind.i64.wrap ((BitVec.ofInt 64 (a : Int) &&& ~~~ BitVec.ofInt 64 (b : Int)).toNat : Int) = _
  have e : (BitVec.ofInt 64 (a : Int) &&& ~~~ BitVec.ofInt 64 (b : Int)).toNat = diff a b := by
    apply Nat.eq_of_testBit_eq
    intro i
    rw [BitVec.toNat_and, Nat.testBit_and, testBit_diff, ofInt64 a (by omega)]
    by_cases hi : i < 64
    · rw [show (~~~ BitVec.ofInt 64 (b : Int)).toNat.testBit i = !(BitVec.ofInt 64 (b : Int)).toNat.testBit i from by
        rw [BitVec.testBit_toNat, BitVec.testBit_toNat, BitVec.getLsbD_not]; simp [hi], ofInt64 b (by omega)]
    · rw [Nat.testBit_lt_two_pow (x := a) (i := i) (Nat.lt_of_lt_of_le (by omega : a < 2 ^ 64) (Nat.pow_le_pow_right (by decide) (by omega)))]
      rfl
  rw [e, i64_small _ (by omega)]
theorem shl1 (j : Nat) (h : j ≤ 62) : shl .i64 1 (j : Int) = ((2 ^ j : Nat) : Int) := by
  unfold shl
  have h2 : (2 : Nat) ^ j < 9223372036854775808 := Nat.lt_of_le_of_lt (Nat.pow_le_pow_right (by decide) h) (by decide)
  rw [Int.toNat_natCast, Nat.min_eq_left (by show j ≤ 64; omega), Int.one_mul]
  have := i64_small (2 ^ j) h2
  rwa [Int.natCast_pow] at this ⊢
theorem shr_nat (a j : Nat) (h : j ≤ 64) : shr .i64 (a : Int) (j : Int) = ((a / 2 ^ j : Nat) : Int) := by
  unfold shr
  rw [Int.toNat_natCast, Nat.min_eq_left (by exact h)]
  simp
def bit (s : Int) (j : Nat) : Bool := s.toNat.testBit j
theorem bit_cast (a j : Nat) : bit (a : Int) j = a.testBit j := by simp [bit]
theorem and_one (a : Nat) (j : Nat) : ((a / 2 ^ j) &&& 1 : Nat) = if a.testBit j then 1 else 0 := by
  rw [Nat.and_one_is_mod, Nat.testBit_eq_decide_div_mod_eq]
  rcases Nat.mod_two_eq_zero_or_one (a / 2 ^ j) with h | h <;> simp [h]
theorem has_and (s : Int) (j : Nat) (h0 : 0 ≤ s) (h1 : s < 9223372036854775808) (hj : j ≤ 64) : (Go.bits .and .i64 (shr .i64 s (j : Int)) 1 == 1) = bit s j := by
  obtain ⟨a, rfl⟩ := Int.eq_ofNat_of_zero_le h0
  have hl : a / 2 ^ j < 9223372036854775808 := Nat.lt_of_le_of_lt (Nat.div_le_self _ _) (by omega)
  rw [shr_nat a j hj, show (1 : Int) = ((1 : Nat) : Int) from rfl, and_i64 _ 1 hl (by decide), and_one, bit_cast]
  cases a.testBit j <;> rfl
theorem has_mod (s : Int) (j : Nat) (h0 : 0 ≤ s) (hj : j ≤ 64) : (Int.tmod (shr .i64 s (j : Int)) 2 == 1) = bit s j := by
  obtain ⟨a, rfl⟩ := Int.eq_ofNat_of_zero_le h0
  rw [shr_nat a j hj, bit_cast, Nat.testBit_eq_decide_div_mod_eq, Int.tmod_eq_emod_of_nonneg (Int.natCast_nonneg _)]
  rcases Nat.mod_two_eq_zero_or_one (a / 2 ^ j) with h | h
  · rw [show ((a / 2 ^ j : Nat) : Int) % 2 = 0 from by omega]; simp [h]
  · rw [show ((a / 2 ^ j : Nat) : Int) % 2 = 1 from by omega]; simp [h]
def setOf : Nat → (Nat → Bool) → Nat
  | 0, _ => 0
  | n + 1, q => setOf n q ||| (if q n then 2 ^ n else 0)
theorem testBit_setOf (n : Nat) (q : Nat → Bool) (j : Nat) : (setOf n q).testBit j = (decide (j < n) && q j) := by
  induction n with
  | zero => simp [setOf]
  | succ n ih =>
    unfold setOf
    rw [Nat.testBit_or, ih]
    by_cases hq : q n
    · rw [if_pos hq, Nat.testBit_two_pow]
      by_cases h : n = j
      · subst h; simp [hq]
      · have : (j < n + 1) ↔ j < n := by omega
        simp [h, this]
    · rw [if_neg hq]
      by_cases h : n = j
      · subst h; simp [hq]
      · have : (j < n + 1) ↔ j < n := by omega
        simp [this]
theorem setOf_lt (n : Nat) (q : Nat → Bool) : setOf n q < 2 ^ n := by
  induction n with
  | zero => simp [setOf]
  | succ n ih =>
    unfold setOf
    have h1 : setOf n q < 2 ^ (n + 1) := Nat.lt_of_lt_of_le ih (Nat.pow_le_pow_right (by decide) (by omega))
    refine Nat.or_lt_two_pow h1 ?_
    split
    · exact Nat.pow_lt_pow_right (by decide) (by omega)
    · exact Nat.two_pow_pos _
theorem lt62 {n s : Nat} (h : s < 2 ^ n) (hn : n ≤ 62) : s < 9223372036854775808 := Nat.lt_of_lt_of_le h (Nat.le_trans (Nat.pow_le_pow_right (by decide) hn) (by decide))
theorem setOf_62 (n : Nat) (q : Nat → Bool) (hn : n ≤ 62) : setOf n q < 9223372036854775808 := lt62 (setOf_lt n q) hn
end Go.Proofs.YtimjblnglhmakaaDoor.M
