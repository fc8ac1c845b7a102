/- A part of the proof that the law FnOrdersOfPlaces holds at every input. Written by wip/pack.py: the kit's printed words that are used, the functions' walks as wip/gen.py prints them, and hand proofs. -/
import Derived.Test.YtjdkcafpgebjfaaDoorKFnOrdersOfPlaces0
namespace Go.Proofs.YtjdkcafpgebjfaaDoor.P
open Go.RowKit Go.Proofs.YtjdkcafpgebjfaaDoorW.PrintWords Go.Proofs.YtjdkcafpgebjfaaDoorW.PrintLast Go.Proofs.YtjdkcafpgebjfaaDoorW.PrintMore
open Bool renaming true → T, false → F
open List renaming setIfInBounds_toArray → L_, set_cons_zero → M_, set_cons_succ → N_, map_toArray → P_, map_cons → Q_, map_nil → R_, length_drop → S_, length_take → U_
open Aside0 renaming mk → A_
attribute [local go_sem] max2_int min2_int max_two min_two max_three min_three max_four min_four
set_option linter.unusedVariables false
set_option linter.unusedSimpArgs false
attribute [local go_sem] fldOrder_0 fldOrder_1
mutual
def spec_OrderOfPlaces.j0 : Nat → Int → List Int → Bool → Option (Int × List Int × Bool)
 | 0,_,_,_=>none
 | k + 1,x0,x1,x24=>if x24 = true then (some (0,([] : List Int),false)) else (spec_OrderOfPlaces.l0 k x0 x1 x1 (x1.length : Int) 0 (x1.length : Int) ([] : List Int))
def spec_OrderOfPlaces.l0 : Nat → Int → List Int → List Int → Int → Int → Int → List Int → Option (Int × List Int × Bool)
 | 0,_,_,_,_,_,_,_=>none
 | k + 1,x0,x1,x29,x30,x31,x356000,x356001=>if x31 < x30 then (if 0 ≤ x31 then (if x31 < (x29.length : Int) then (spec_OrderOfPlaces.l1 k x0 x1 (rd x29 x31) 0 x29 x30 x31 x1 (x1.length : Int) 0 x356000 x356001) else (none)) else (none)) else (some (x356000,x356001,true))
def spec_OrderOfPlaces.l1 : Nat → Int → List Int → Int → Int → List Int → Int → Int → List Int → Int → Int → Int → List Int → Option (Int × List Int × Bool)
 | 0,_,_,_,_,_,_,_,_,_,_,_,_=>none
 | k + 1,x0,x1,x8,x9,x29,x30,x31,x35,x36,x37,x356000,x356001=>if x37 < x36 then (if 0 ≤ x37 then (if x37 < (x35.length : Int) then (if (rd x35 x37) ≥ (wrap64 (x8 + x0)) then (spec_OrderOfPlaces.l1 k x0 x1 x8 (Go.bits .or .i64 x9 (shl .i64 1 x37)) x29 x30 x31 x35 x36 (wrap64 (x37 + 1)) x356000 x356001) else (spec_OrderOfPlaces.l1 k x0 x1 x8 x9 x29 x30 x31 x35 x36 (wrap64 (x37 + 1)) x356000 x356001)) else (none)) else (none)) else (if x356001.length < 17592186044416 then (spec_OrderOfPlaces.l0 k x0 x1 x29 x30 (wrap64 (x31 + 1)) x356000 (x356001 ++ [x9])) else (none))
end
def spec_OrderOfPlaces.f (k : Nat) (a0 : Int) (l1 : List Int) : Option (Int × List Int × Bool) := (spec_seThreshold.f a0).bind fun t353 => (if t353 = true then (if (l1.length : Int) > 10 then (spec_OrderOfPlaces.j0 k a0 l1 true) else ((spec_l1All.f k l1 0 1000).bind fun t354 => (spec_OrderOfPlaces.j0 k a0 l1 (!t354)))) else (spec_OrderOfPlaces.j0 k a0 l1 true))
set_option maxHeartbeats 8000000 in
set_option maxRecDepth 100000 in
theorem spec_OrderOfPlaces.calls (k : Nat) (a0 : Int) (A1 : Option Addr) (c1 : Nat) (l1 : List Int) (r1 : Int) (r2 : List Int) (r3 : Bool) (w : World) (hr1 : Kd.C (Kd.int .i64) w A1 l1.length l1) (hc1 : l1.length ≤ c1) (h : spec_OrderOfPlaces.f k a0 l1 = some (r1,r2,r3)) :
 Calls Tryd.prog 23 #[.int .i64 a0,.slice A1 l1.length c1] w fun e w'=>∃ v1_ : Value,e = .returned (.tuple #[.agg #[.int .i64 r1,v1_],.bool r3]) ∧ Kd.R (Kd.int .i64) 3 w' w.heap.size (fun _=>True) v1_ r2 ∧ Below w.heap.size w w':=by
 have hu26:=Tryd.underlying26;have HR1:=A_ hr1;have HC1:=A_ hc1;clear hr1 hc1;have HB:=A_ (Below.refl w.heap.size w);have H : ((spec_seThreshold.f a0).bind fun t353=>(if t353 = true then (if (l1.length : Int) > 10 then (spec_OrderOfPlaces.j0 k a0 l1 true) else ((spec_l1All.f k l1 0 1000).bind fun t354=>(spec_OrderOfPlaces.j0 k a0 l1 (!t354)))) else (spec_OrderOfPlaces.j0 k a0 l1 true))) = some (r1,r2,r3):=h;clear h;have HC3:=A_ H;clear H;go_enter Tryd.func23,Tryd.ntmps23
 go_upto_region 1 with (first|((with_reducible refine gate_dst (N:=4) rfl ?_);(try (refine gate_guard (by rfl) ?_;dsimp only));refine box_event ?hg (N:=4) ?hd (cs:=#[.int .i64 0,.slice none 0 0]) (t:=26) ?hr ?_;(case hd=>rfl);(case hg=>rfl);(case hr=>first|(go_simp;done)|(go_simp;rfl));intro gb352 hg w4 hbox hb;have BK352:=A_ (hbox);have GW352:=A_ ((by rw [hg];exact (below_size bb_) : w.heap.size ≤ gb352));have GE352:=A_ ((by rw [hg];exact (below_size bb_) : w.heap.size ≤ gb352));replace HB:=A_ (below_step bb_ hb);clear hb hbox hg))
 (try simp only [Act.put,L_,M_,N_]);go_cut [24] (fun v24 wc=>∃ (kq : Nat) (x24_2 : Bool),v24 = .bool x24_2 ∧ Aside0 (spec_OrderOfPlaces.j0 kq a0 l1 x24_2 = some (r1,r2,r3)) ∧ Aside0 (kq ≤ k) ∧ Aside0 (wc.heap[gb352]? = some (.cells #[.int .i64 0,(.slice none 0 0)] 26 (0,0))) ∧ Aside0 (Below w.heap.size w wc))
 case first =>
  have H:=HC3.out;clear HC3;replace H:=Option.bind_eq_some_iff.mp H;obtain ⟨t353,A50,H⟩:=H;replace H : (if t353 = true then (if (l1.length : Int) > 10 then (spec_OrderOfPlaces.j0 k a0 l1 true) else ((spec_l1All.f k l1 0 1000).bind fun t354=>(spec_OrderOfPlaces.j0 k a0 l1 (!t354)))) else (spec_OrderOfPlaces.j0 k a0 l1 true)) = some (r1,r2,r3):=H;have A5:=A_ A50;clear A50;by_cases c6 : t353 = true
  ·subst c6;have H1 : (if (l1.length : Int) > 10 then (spec_OrderOfPlaces.j0 k a0 l1 true) else ((spec_l1All.f k l1 0 1000).bind fun t354=>(spec_OrderOfPlaces.j0 k a0 l1 (!t354)))) = some (r1,r2,r3):=by rw [if_pos rfl] at H;exact H
   clear H;have H:=H1;clear H1;by_cases c7 : (l1.length : Int) > 10
   ·rw [if_pos c7] at H;have c7b0 : decide (10 < (l1.length : Int)) = true:=decide_eq_true c7;have c7b1 : decide (10 < l1.length) = true:=decide_eq_true (by omega);clear c7;(first|rw [c7b0]|(simp only [i64_w,i32_w];rw [c7b0])|skip)
    have H':=A_ H;clear H;go_wp2_with (first|((with_reducible refine gate_callee (f:=96) rfl ?_);refine goesL_ (some 13) rfl rfl Tryd.func96 (by kernel_rfl) rfl #[.int .i64 a0] rfl au_ ?_;(with_reducible refine (spec_seThreshold.calls a0 true _ A5.out).mono ?_);rintro e w' ⟨rfl,⟨nd,rfl⟩⟩;refine ⟨_,rfl,?_⟩))
    go_meet
    case rel=>exact ⟨_,(true),(by first|rfl|(simp;done)|(simp [*];done)),H',⟨by first|omega|exact Nat.le_refl _⟩,⟨bl_ BK352⟩,⟨bb_⟩⟩
   ·rw [if_neg c7] at H;have c7b0 : decide (10 < (l1.length : Int)) = false:=decide_eq_false c7;have c7b1 : decide (10 < l1.length) = false:=decide_eq_false (by omega);clear c7;(first|rw [c7b0]|(simp only [i64_w,i32_w];rw [c7b0])|skip)
    replace H:=Option.bind_eq_some_iff.mp H;obtain ⟨t354,A80,H⟩:=H;replace H : (spec_OrderOfPlaces.j0 k a0 l1 (!t354)) = some (r1,r2,r3):=H;have A8:=A_ A80;clear A80;have H':=A_ H;clear H;go_wp2_with (first|((with_reducible refine gate_callee (f:=96) rfl ?_);refine goesL_ (some 13) rfl rfl Tryd.func96 (by kernel_rfl) rfl #[.int .i64 a0] rfl au_ ?_;(with_reducible refine (spec_seThreshold.calls a0 true _ A5.out).mono ?_);rintro e w' ⟨rfl,⟨nd,rfl⟩⟩;refine ⟨_,rfl,?_⟩)|(go_at_call 97;(with_reducible refine (spec_l1All.calls k _ _ l1 0 1000 t354 _ ?side1 ?side2 A8.out).mono ?_);(case side1=>exact cl_ (Kd.C_below HR1.out bb_));(case side2=>exact HC1.out);rintro e w' ⟨rfl,⟨nd,rfl⟩⟩))
    go_meet
    case rel=>exact ⟨_,(!t354),(by first|rfl|(simp;done)|(simp [*];done)),H',⟨by first|omega|exact Nat.le_refl _⟩,⟨bl_ BK352⟩,⟨bb_⟩⟩
  ·replace c6:=Bool.eq_false_iff.mpr c6;subst c6;have H1 : (spec_OrderOfPlaces.j0 k a0 l1 true) = some (r1,r2,r3):=by rw [if_neg (show ¬ (false = true) by decide)] at H;exact H
   clear H;have H:=H1;clear H1;have H':=A_ H;clear H;go_wp2_with (first|((with_reducible refine gate_callee (f:=96) rfl ?_);refine goesL_ (some 13) rfl rfl Tryd.func96 (by kernel_rfl) rfl #[.int .i64 a0] rfl au_ ?_;(with_reducible refine (spec_seThreshold.calls a0 false _ A5.out).mono ?_);rintro e w' ⟨rfl,⟨nd,rfl⟩⟩;refine ⟨_,rfl,?_⟩))
   go_meet
   case rel=>exact ⟨_,(true),(by first|rfl|(simp;done)|(simp [*];done)),H',⟨by first|omega|exact Nat.le_refl _⟩,⟨bl_ BK352⟩,⟨bb_⟩⟩
 case rest =>
  clear HC3;try clear c1
  try clear c2
  try clear p2
  try clear c6
  try clear c7
  try clear c7b0
  try clear c7b1
  obtain ⟨kq,x24_2,rfl,HA,HJ2,BK352,HB⟩:=hcut;cases kq with
  | zero => exact absurd HA.out (by simp [spec_OrderOfPlaces.j0])
  | succ kj2 =>
   have H:=HA.out;clear HA;simp only [spec_OrderOfPlaces.j0] at H
   by_cases c9 : x24_2 = true
   ·subst c9;have H1 : (some (0,([] : List Int),false)) = some (r1,r2,r3):=by rw [if_pos rfl] at H;exact H
    clear H;have H:=H1;clear H1;simp only [Option.some.injEq,Prod.mk.injEq] at H
    obtain ⟨rfl,rfl,rfl⟩:=H;have hcz10_0 : wc.cell? ⟨gb352,0,none⟩ = some (.int .i64 0):=blk_cell BK352.out 0;have hcz10_1 : wc.cell? ⟨gb352,1,none⟩ = some (.slice none 0 0):=blk_cell BK352.out 1;have hfz10_0:=blk_frozen BK352.out 0;have hfz10_1:=blk_frozen BK352.out 1;go_wp2
    refine bodyPost_ret (results_ct rfl _ _ gb352 26 #[.int .i64 0,.slice none 0 0] (0,0) _ rfl (by (with_reducible repeat (first|refine blk_drewN ?_ _|refine blk_drew ?_|refine blk_alloc ?_ _));refine blk_put (cs:=#[.int .i64 0,.slice none 0 0]) ?_ 1 _ rfl;(with_reducible repeat (first|refine blk_drewN ?_ _|refine blk_drew ?_|refine blk_alloc ?_ _));refine blk_put (cs:=#[.int .i64 0,.slice none 0 0]) ?_ 0 _ rfl;(with_reducible repeat (first|refine blk_drewN ?_ _|refine blk_drew ?_|refine blk_alloc ?_ _));exact BK352.out) Tryd.underlying26 rfl (by kernel_rfl)) rfl ?_
    exact ⟨_,by first|rfl|(simp [errW_none,errW_some] <;> rfl)|(simp [*,errW_none,errW_some] <;> rfl),by first|exact Kd.R_nil _ _ _ _ _|exact Kd.N_nil _ _ _ _ _|exact Kd.V_nil _ _ _ _ _|exact Kd.Q_nil _ _ _ _ _|exact Kd.S_nil _ _ _ _ _,bb_⟩
   ·replace c9:=Bool.eq_false_iff.mpr c9;subst c9;have H1 : (spec_OrderOfPlaces.l0 kj2 a0 l1 l1 (l1.length : Int) 0 (l1.length : Int) ([] : List Int)) = some (r1,r2,r3):=by rw [if_neg (show ¬ (false = true) by decide)] at H;exact H
    clear H;have H:=H1;clear H1;have H':=A_ H;clear H;go_wp2_with (first|((with_reducible refine gate_dst (N:=6) rfl ?_);(try (refine gate_guard (by rfl) ?_;dsimp only));refine box_event ?hg (N:=6) ?hd (cs:=#[.int .i64 0,.slice none 0 0]) (t:=26) ?hr ?_;(case hd=>rfl);(case hg=>rfl);(case hr=>first|(go_simp;done)|(go_simp;rfl));intro gb355 hg w11 hbox hb;have BK355:=A_ (hbox);have GW355:=A_ ((by rw [hg];exact (below_size bb_) : w.heap.size ≤ gb355));have GE355:=A_ ((by rw [hg];exact (below_size bb_) : w.heap.size ≤ gb355));replace HB:=A_ (below_step bb_ hb);have NB352_355:=A_ ((by rw [hg];exact Nat.ne_of_lt (blk_lt (bl_ BK352)) : gb352 ≠ gb355));have NB355_352:=A_ ((by rw [hg];exact Nat.ne_of_gt (blk_lt (bl_ BK352)) : gb355 ≠ gb352));replace BK352:=bz BK352 hb;clear hb hbox hg;have hnb12:=NB355_352.out;have hnc12:=NB352_355.out;have hcz13_0 : w11.cell? ⟨gb355,0,none⟩ = some (.int .i64 0):=blk_cell BK355.out 0;have hcz13_1 : w11.cell? ⟨gb355,1,none⟩ = some (.slice none 0 0):=blk_cell BK355.out 1;have hfz13_0:=blk_frozen BK355.out 0;have hfz13_1:=blk_frozen BK355.out 1))
    go_loopg [31] kj2 (fun kq v31 w'=>∃ (x31_2 : Int) (x356001_2 : List Int) (u356001 : Value),v31 = .int .i64 x31_2 ∧ Aside0 (spec_OrderOfPlaces.l0 kq a0 l1 l1 (l1.length : Int) x31_2 (l1.length : Int) x356001_2 = some (r1,r2,r3)) ∧ Aside0 (kq ≤ kj2) ∧ Aside0 (Kd.R (Kd.int .i64) 3 w' w.heap.size (fun _=>True) u356001 x356001_2) ∧ Aside0 (w'.heap[gb352]? = some (.cells #[.int .i64 0,(.slice none 0 0)] 26 (0,0))) ∧ Aside0 (w'.heap[gb355]? = some (.cells #[.int .i64 (l1.length : Int),u356001] 26 (0,0))) ∧ Aside0 (Below w.heap.size w w'))
    case atStart=>exact ⟨(0),(([] : List Int)),(.slice none 0 0),(by first|rfl|(simp;done)|(simp [*];done)),H',⟨Nat.le_refl _⟩,⟨by first|exact Kd.R_nil _ _ _ _ _|exact Kd.N_nil _ _ _ _ _|exact Kd.V_nil _ _ _ _ _|exact Kd.Q_nil _ _ _ _ _|exact Kd.S_nil _ _ _ _ _⟩,⟨by (with_reducible repeat (first|refine blk_drewN ?_ _|refine blk_drew ?_|refine blk_alloc ?_ _));refine blk_far ?_ NB352_355.out _;(with_reducible repeat (first|refine blk_drewN ?_ _|refine blk_drew ?_|refine blk_alloc ?_ _));refine blk_far ?_ NB352_355.out _;(with_reducible repeat (first|refine blk_drewN ?_ _|refine blk_drew ?_|refine blk_alloc ?_ _));exact BK352.out⟩,⟨by (with_reducible repeat (first|refine blk_drewN ?_ _|refine blk_drew ?_|refine blk_alloc ?_ _));refine blk_put (cs:=#[.int .i64 (l1.length : Int),.slice none 0 0]) ?_ 1 _ rfl;(with_reducible repeat (first|refine blk_drewN ?_ _|refine blk_drew ?_|refine blk_alloc ?_ _));refine blk_put (cs:=#[.int .i64 0,.slice none 0 0]) ?_ 0 _ rfl;(with_reducible repeat (first|refine blk_drewN ?_ _|refine blk_drew ?_|refine blk_alloc ?_ _));exact BK355.out⟩,⟨bb_⟩⟩
    case round =>
     clear H';try clear c1
     try clear c2
     try clear p2
     try clear c6
     try clear c7
     try clear c7b0
     try clear c7b1
     try clear c9
     try clear c12
     try clear hcz10_0
     try clear hcz10_1
     try clear hcz13_0
     try clear hcz13_1
     try clear hfz10_0
     try clear hfz10_1
     try clear hfz13_0
     try clear hfz13_1
     try clear p2
     obtain ⟨x31_2,x356001_2,u356001,rfl,HA,HK2,HO_356001,BK352,BK355,HB⟩:=hrel;cases gk with
     | zero=>exact absurd HA.out (by simp [spec_OrderOfPlaces.l0])
     | succ k2 =>
      have H:=HA.out;clear HA;simp only [spec_OrderOfPlaces.l0] at H
      by_cases c14 : x31_2 < (l1.length : Int)
      ·rw [if_pos c14] at H;have c14b0 : decide (x31_2 < (l1.length : Int)) = true:=decide_eq_true c14;clear c14;by_cases c15 : 0 ≤ x31_2
       ·rw [if_pos c15] at H;have c15b0 : decide (0 ≤ x31_2) = true:=decide_eq_true c15;clear c15;by_cases c16 : x31_2 < (l1.length : Int)
        ·rw [if_pos c16] at H;have c16b0 : decide (x31_2 < (l1.length : Int)) = true:=decide_eq_true c16;clear c16;have H':=A_ H;clear H;have p356 : 0 ≤ (x31_2 : Int):=of_decide_eq_true (by first|(with_reducible assumption)|assumption);have q356 : x31_2 < (l1.length : Int):=of_decide_eq_true (by first|(with_reducible assumption)|assumption);obtain ⟨ad356,e356,hx356_0⟩:=Kd.at_int HR1.out x31_2 p356 q356;cases e356
         (try replace hx356_0:=(HB.out.cell (World.block_lt_of_cell? w _ hx356_0)).trans hx356_0);replace p356:=eq_true p356;replace q356:=eq_true q356;go_wp2
         go_loopg [9,37] k2 (fun kq v9 v37 w'=>∃ (x9_3 : Int) (x37_3 : Int),v9 = .int .i64 x9_3 ∧ v37 = .int .i64 x37_3 ∧ Aside0 (spec_OrderOfPlaces.l1 kq a0 l1 (rd l1 x31_2) x9_3 l1 (l1.length : Int) x31_2 l1 (l1.length : Int) x37_3 (l1.length : Int) x356001_2 = some (r1,r2,r3)) ∧ Aside0 (kq ≤ k2) ∧ Aside0 (Kd.R (Kd.int .i64) 3 w' w.heap.size (fun _=>True) u356001 x356001_2) ∧ Aside0 (w'.heap[gb352]? = some (.cells #[.int .i64 0,(.slice none 0 0)] 26 (0,0))) ∧ Aside0 (w'.heap[gb355]? = some (.cells #[.int .i64 (l1.length : Int),u356001] 26 (0,0))) ∧ Aside0 (Below w.heap.size w w'))
         case atStart=>exact ⟨(0),(0),(by first|rfl|(simp;done)|(simp [*];done)),(by first|rfl|(simp;done)|(simp [*];done)),H',⟨Nat.le_refl _⟩,⟨by (with_reducible repeat (first|apply Kd.R_alloc|apply Kd.R_drewN|apply Kd.R_drew));exact HO_356001.out⟩,⟨bl_ BK352⟩,⟨bl_ BK355⟩,⟨bb_⟩⟩
         case round =>
          clear H';try clear c1
          try clear c2
          try clear p2
          try clear p3
          try clear q3
          try clear hx3
          try clear c6
          try clear c7
          try clear c7b0
          try clear c7b1
          try clear c9
          try clear c12
          try clear c14
          try clear c14b0
          try clear c15
          try clear c15b0
          try clear c16
          try clear c16b0
          try clear hcz10_0
          try clear hcz10_1
          try clear hcz13_0
          try clear hcz13_1
          try clear hfz10_0
          try clear hfz10_1
          try clear hfz13_0
          try clear hfz13_1
          try clear hx356_0
          try clear p2
          try clear p356
          try clear q356
          obtain ⟨x9_3,x37_3,rfl,rfl,HA,HK3,HO_356001,BK352,BK355,HB⟩:=hrel;cases gk with
          | zero=>exact absurd HA.out (by simp [spec_OrderOfPlaces.l1])
          | succ k3 =>
           have H:=HA.out;clear HA;simp only [spec_OrderOfPlaces.l1] at H
           by_cases c17 : x37_3 < (l1.length : Int)
           ·rw [if_pos c17] at H;have c17b0 : decide (x37_3 < (l1.length : Int)) = true:=decide_eq_true c17;clear c17;by_cases c18 : 0 ≤ x37_3
            ·rw [if_pos c18] at H;have c18b0 : decide (0 ≤ x37_3) = true:=decide_eq_true c18;clear c18;by_cases c19 : x37_3 < (l1.length : Int)
             ·rw [if_pos c19] at H;have c19b0 : decide (x37_3 < (l1.length : Int)) = true:=decide_eq_true c19;clear c19;by_cases c20 : (rd l1 x37_3) ≥ (wrap64 ((rd l1 x31_2) + a0))
              ·rw [if_pos c20] at H;have c20b0 : decide ((wrap64 ((rd l1 x31_2) + a0)) ≤ (rd l1 x37_3)) = true:=decide_eq_true c20;clear c20;have c21b0:=eq_true (of_decide_eq_true (by first|(with_reducible assumption)|assumption) : 0 ≤ x37_3);obtain ⟨ji22,hji22⟩ : ∃ j_ : Int,(shl .i64 1 x37_3) = j_:=⟨_,rfl⟩;replace H : (spec_OrderOfPlaces.l1 k3 a0 l1 (rd l1 x31_2) (Go.bits .or .i64 x9_3 (ji22)) l1 (l1.length : Int) x31_2 l1 (l1.length : Int) (wrap64 (x37_3 + 1)) (l1.length : Int) x356001_2) = some (r1,r2,r3):=by first|(rw [hji22] at H;exact H)|(simp only [hji22] at H ⊢;exact H)
               have hji22_ : (IntKind.i64.wrap (1 * 2 ^ min x37_3.toNat 64)) = ji22:=hji22;have hji22z : x37_3 ≤ 64 → (IntKind.i64.wrap (1 * 2 ^ x37_3.toNat)) = ji22:=shl_small hji22;have hji22u : (IntKind.i64.wrap (2 ^ min x37_3.toNat 64)) = ji22:=by have h_:=hji22_;rw [Int.one_mul] at h_;exact h_
               have hji22v : x37_3 ≤ 64 → (IntKind.i64.wrap (2 ^ x37_3.toNat)) = ji22:=fun hle_=>by have h_:=hji22z hle_;rw [Int.one_mul] at h_;exact h_
               have hji22y : (wrap64 (1 * 2 ^ min x37_3.toNat 64)) = ji22:=(i64_w _).symm.trans hji22_;have hji22x : x37_3 ≤ 64 → (wrap64 (1 * 2 ^ x37_3.toNat)) = ji22:=fun h_=>(i64_w _).symm.trans (hji22z h_)
               have H':=A_ H;clear H;have p357 : 0 ≤ (x37_3 : Int):=of_decide_eq_true (by first|(with_reducible assumption)|assumption);have q357 : x37_3 < (l1.length : Int):=of_decide_eq_true (by first|(with_reducible assumption)|assumption);obtain ⟨ad357,e357,hx357_0⟩:=Kd.at_int HR1.out x37_3 p357 q357;obtain rfl : ad356 = ad357:=(by injection e357);(try replace hx357_0:=(HB.out.cell (World.block_lt_of_cell? w _ hx357_0)).trans hx357_0);replace p357:=eq_true p357;replace q357:=eq_true q357;go_wp2
               go_roundg k3
               case measure=>have:=HJ2.out;have:=HK2.out;have:=HK3.out;omega
               case rel=>exact ⟨(Go.bits .or .i64 x9_3 (ji22)),(wrap64 (x37_3 + 1)),(by first|rfl|(simp;done)|(simp only [← hji22] <;> (first|rfl|simp))|(simp [*];done)),(by first|rfl|(simp;done)|(simp [*];done)),H',⟨by have:=HJ2.out;have:=HK2.out;have:=HK3.out;omega⟩,⟨by (with_reducible repeat (first|apply Kd.R_alloc|apply Kd.R_drewN|apply Kd.R_drew));exact HO_356001.out⟩,⟨bl_ BK352⟩,⟨bl_ BK355⟩,⟨bb_⟩⟩
              ·rw [if_neg c20] at H;have c20b0 : decide ((wrap64 ((rd l1 x31_2) + a0)) ≤ (rd l1 x37_3)) = false:=decide_eq_false c20;clear c20;have H':=A_ H;clear H;have p357 : 0 ≤ (x37_3 : Int):=of_decide_eq_true (by first|(with_reducible assumption)|assumption);have q357 : x37_3 < (l1.length : Int):=of_decide_eq_true (by first|(with_reducible assumption)|assumption);obtain ⟨ad357,e357,hx357_0⟩:=Kd.at_int HR1.out x37_3 p357 q357;obtain rfl : ad356 = ad357:=(by injection e357);(try replace hx357_0:=(HB.out.cell (World.block_lt_of_cell? w _ hx357_0)).trans hx357_0);replace p357:=eq_true p357;replace q357:=eq_true q357;go_wp2
               go_roundg k3
               case measure=>have:=HJ2.out;have:=HK2.out;have:=HK3.out;omega
               case rel=>exact ⟨(x9_3),(wrap64 (x37_3 + 1)),(by first|rfl|(simp;done)|(simp [*];done)),(by first|rfl|(simp;done)|(simp [*];done)),H',⟨by have:=HJ2.out;have:=HK2.out;have:=HK3.out;omega⟩,⟨by (with_reducible repeat (first|apply Kd.R_alloc|apply Kd.R_drewN|apply Kd.R_drew));exact HO_356001.out⟩,⟨bl_ BK352⟩,⟨bl_ BK355⟩,⟨bb_⟩⟩
             ·rw [if_neg c19] at H;exact absurd H (by simp)
            ·rw [if_neg c18] at H;exact absurd H (by simp)
           ·rw [if_neg c17] at H;have c17b0 : decide (x37_3 < (l1.length : Int)) = false:=decide_eq_false c17;clear c17;by_cases c23 : x356001_2.length < 17592186044416
            ·rw [if_pos c23] at H;have LMc23:=A_ c23;clear c23;obtain ⟨y358,hy358⟩ : ∃ y_ : List Int,y_ = (x356001_2 ++ [x9_3]):=⟨_,rfl⟩;replace H : (spec_OrderOfPlaces.l0 k3 a0 l1 l1 (l1.length : Int) (wrap64 (x31_2 + 1)) (l1.length : Int) y358) = some (r1,r2,r3):=by first|(rw [hy358];with_reducible exact H)|(have H2_:=(Option.bind_some _ _).symm.trans H;rw [hy358];with_reducible exact H2_)|(have H2_:=(Option.bind_some _ _).symm.trans H;with_reducible exact H2_)|with_reducible exact H|(rw [hy358];exact H)|exact H
             have Ny358:=A_ hy358;clear hy358;have H':=A_ H;clear H;have hnb24:=NB355_352.out;have hnc24:=NB352_355.out;have hcz25_0 : wr.cell? ⟨gb355,0,none⟩ = some (.int .i64 (l1.length : Int)):=blk_cell BK355.out 0;have hcz25_1 : wr.cell? ⟨gb355,1,none⟩ = some (u356001):=blk_cell BK355.out 1;have hfz25_0:=blk_frozen BK355.out 0;have hfz25_1:=blk_frozen BK355.out 1;go_wp2_with (first|((with_reducible refine gate_builtin (b:=.append) (xs:=#[.tmp 53,.tmp 55]) rfl ?_);(try (refine gate_guard (by rfl) ?_;dsimp only));at_builtin;refine Kd.R_append (Kd.int .i64) (w0:=w) w.heap.size rfl (.tmp 53) (.tmp 55) 22 3 (.int .i64 0) 8 rfl Tryd.underlying22 info3 rfl (by decide) (by omega) u356001 x356001_2 x9_3 [.int .i64 x9_3] (fun _=>True) (fun _=>False) rfl rfl ?aP (fun _ hk=>hk.elim) ?aF ?aO ?aB ?aS ?aL ?_;(case aP=>exact rfl);(case aB=>exact bb_);(case aF=>exact (fun _ _=>trivial));(case aO=>exact (rl_ HO_356001));(case aS=>exact (below_size bb_));(case aL=>have:=LMc23.out;omega);intro v359 w26 ho hb hg hat;rw [← Ny358.out] at ho;replace BK352:=A_ (blk_grown (g:=gb352) (o:=.cells #[.int .i64 0,.slice none 0 0] 26 (0,0)) (bl_ BK352) hg (Kd.R_ne HO_356001.out BK352.out (by decide)));replace BK355:=A_ (blk_grown (g:=gb355) (o:=.cells #[.int .i64 (l1.length : Int),u356001] 26 (0,0)) (bl_ BK355) hg (Kd.R_ne HO_356001.out BK355.out (by decide)));replace HB:=A_ (hb);have HO360:=A_ (ho);clear HO_356001;clear ho hb hg hat;obtain ⟨Ao27,co27,eo27⟩:=Kd.R_slice HO360.out;subst eo27;have hcz28_0 : w26.cell? ⟨gb355,0,none⟩ = some (.int .i64 (l1.length : Int)):=blk_cell BK355.out 0;have hcz28_1 : w26.cell? ⟨gb355,1,none⟩ = some (u356001):=blk_cell BK355.out 1;have hfz28_0:=blk_frozen BK355.out 0;have hfz28_1:=blk_frozen BK355.out 1))
             go_roundg k3
             case measure=>have:=HJ2.out;have:=HK2.out;have:=HK3.out;omega
             case rel=>exact ⟨(wrap64 (x31_2 + 1)),(y358),(.slice Ao27 y358.length co27),(by first|rfl|(simp;done)|(simp [*];done)),H',⟨by have:=HJ2.out;have:=HK2.out;have:=HK3.out;omega⟩,⟨by (with_reducible repeat (first|apply Kd.R_alloc|apply Kd.R_drewN|apply Kd.R_drew));exact Kd.R_mono (Kd.R_far (p:=⟨gb355,1,none⟩) (Kd.R_types HO360.out BK355.out (by decide)) (fun _ hk=>hk.2) (.slice Ao27 y358.length co27)) (fun _ hk=>trivial)⟩,⟨by (with_reducible repeat (first|refine blk_drewN ?_ _|refine blk_drew ?_|refine blk_alloc ?_ _));refine blk_far ?_ NB352_355.out _;(with_reducible repeat (first|refine blk_drewN ?_ _|refine blk_drew ?_|refine blk_alloc ?_ _));exact BK352.out⟩,⟨by (with_reducible repeat (first|refine blk_drewN ?_ _|refine blk_drew ?_|refine blk_alloc ?_ _));refine blk_put (cs:=#[.int .i64 (l1.length : Int),u356001]) ?_ 1 _ rfl;(with_reducible repeat (first|refine blk_drewN ?_ _|refine blk_drew ?_|refine blk_alloc ?_ _));exact BK355.out⟩,⟨bb_⟩⟩
            ·rw [if_neg c23] at H;exact absurd H (by simp)
        ·rw [if_neg c16] at H;exact absurd H (by simp)
       ·rw [if_neg c15] at H;exact absurd H (by simp)
      ·rw [if_neg c14] at H;have c14b0 : decide (x31_2 < (l1.length : Int)) = false:=decide_eq_false c14;clear c14;simp only [Option.some.injEq,Prod.mk.injEq] at H
       obtain ⟨rfl,rfl,rfl⟩:=H;have hnb29:=NB355_352.out;have hnc29:=NB352_355.out;have hcz30_0 : wr.cell? ⟨gb355,0,none⟩ = some (.int .i64 (l1.length : Int)):=blk_cell BK355.out 0;have hcz30_1 : wr.cell? ⟨gb355,1,none⟩ = some (u356001):=blk_cell BK355.out 1;have hfz30_0:=blk_frozen BK355.out 0;have hfz30_1:=blk_frozen BK355.out 1;have hcz31_0 : wr.cell? ⟨gb352,0,none⟩ = some (.int .i64 0):=blk_cell BK352.out 0;have hcz31_1 : wr.cell? ⟨gb352,1,none⟩ = some (.slice none 0 0):=blk_cell BK352.out 1;have hfz31_0:=blk_frozen BK352.out 0;have hfz31_1:=blk_frozen BK352.out 1;obtain ⟨Ao32,co32,eo32⟩:=Kd.R_slice HO_356001.out;subst eo32;go_wp2
       refine bodyPost_ret (results_ct rfl _ _ gb352 26 #[.int .i64 (l1.length : Int),.slice Ao32 x356001_2.length co32] (0,0) _ rfl (by (with_reducible repeat (first|refine blk_drewN ?_ _|refine blk_drew ?_|refine blk_alloc ?_ _));refine blk_put (cs:=#[.int .i64 (l1.length : Int),.slice none 0 0]) ?_ 1 _ rfl;(with_reducible repeat (first|refine blk_drewN ?_ _|refine blk_drew ?_|refine blk_alloc ?_ _));refine blk_put (cs:=#[.int .i64 0,.slice none 0 0]) ?_ 0 _ rfl;(with_reducible repeat (first|refine blk_drewN ?_ _|refine blk_drew ?_|refine blk_alloc ?_ _));exact BK352.out) Tryd.underlying26 rfl (by kernel_rfl)) rfl ?_
       exact ⟨_,by first|rfl|(simp [errW_none,errW_some] <;> rfl)|(simp [*,errW_none,errW_some] <;> rfl),by (with_reducible repeat (first|apply Kd.R_alloc|apply Kd.R_drewN|apply Kd.R_drew));exact Kd.R_mono (Kd.R_far (p:=⟨gb352,1,none⟩) (Kd.R_far (p:=⟨gb352,0,none⟩) (Kd.R_types HO_356001.out BK352.out (by decide)) (fun _ hk=>hk.2) (.int .i64 (l1.length : Int))) (fun _ hk=>hk.2) (.slice Ao32 x356001_2.length co32)) (fun _ hk=>trivial),bb_⟩
def laws_vSame.l0 : Nat → List Int → List Int → Int → Int → Option (Bool)
 | 0,_,_,_,_=>none
 | k + 1,x0,x1,x12,x13=>if x13 < x12 then (if 0 ≤ x13 then (if x13 < (x0.length : Int) then (if x13 < (x1.length : Int) then (if (rd x0 x13) = (rd x1 x13) then (laws_vSame.l0 k x0 x1 x12 (wrap64 (x13 + 1))) else (some false)) else (none)) else (none)) else (none)) else (some true)
def laws_vSame.f (k : Nat) (l0 : List Int) (l1 : List Int) : Option (Bool) := if (l0.length : Int) = (l1.length : Int) then (laws_vSame.l0 k l0 l1 (l0.length : Int) 0) else (some false)
set_option maxHeartbeats 8000000 in
set_option maxRecDepth 100000 in
theorem laws_vSame.calls (k : Nat) (A0 : Option Addr) (c0 : Nat) (l0 : List Int) (A1 : Option Addr) (c1 : Nat) (l1 : List Int) (r : Bool) (w : World) (hr0 : Kd.C (Kd.int .i64) w A0 l0.length l0) (hc0 : l0.length ≤ c0) (hr1 : Kd.C (Kd.int .i64) w A1 l1.length l1) (hc1 : l1.length ≤ c1) (h : laws_vSame.f k l0 l1 = some r) :
 Calls Tryd.prog 72 #[.slice A0 l0.length c0,.slice A1 l1.length c1] w fun e w'=>e = .returned (.bool r) ∧ Drawn0 w w':=by
 have HR0:=A_ hr0;have HC0:=A_ hc0;clear hr0 hc0;have HR1:=A_ hr1;have HC1:=A_ hc1;clear hr1 hc1;have H : (if (l0.length : Int) = (l1.length : Int) then (laws_vSame.l0 k l0 l1 (l0.length : Int) 0) else (some false)) = some r:=h;clear h;by_cases c3 : (l0.length : Int) = (l1.length : Int)
 ·rw [if_pos c3] at H;have c3b0 : ((l0.length : Int) == (l1.length : Int)) = true:=beq_iff_eq.mpr c3;have c3b1 : ((l0.length : Int) != (l1.length : Int)) = false:=bne_eq_false_iff_eq.mpr c3;have c3b2 : (l0.length == l1.length) = true:=by first|simpa using c3|(simp at c3 ⊢;omega)
  clear c3;have H':=A_ H;clear H;go_enter Tryd.func72,Tryd.ntmps72
  go_wp2
  repeat (go_quiet (fail);try go_wp2)
  go_loopg [13] k (fun kq v13 w'=>∃ (x13_1 : Int),v13 = .int .i64 x13_1 ∧ Aside0 (laws_vSame.l0 kq l0 l1 (l0.length : Int) x13_1 = some r) ∧ Aside0 (kq ≤ k) ∧ Drawn0 w w')
  case atStart=>exact ⟨(0),(by first|rfl|(simp;done)|(simp [*];done)),H',⟨Nat.le_refl _⟩,by repeat (first|exact Drawn0.refl _|apply Drawn0.step)⟩
  case round =>
   clear H';try clear c1
   try clear p2
   try clear c3
   try clear c3b0
   try clear c3b1
   try clear c3b2
   obtain ⟨x13_1,rfl,HA,HK1,⟨m1,rfl⟩⟩:=hrel;cases gk with
   | zero=>exact absurd HA.out (by simp [laws_vSame.l0])
   | succ k1 =>
    have H:=HA.out;clear HA;simp only [laws_vSame.l0] at H
    by_cases c4 : x13_1 < (l0.length : Int)
    ·rw [if_pos c4] at H;have c4b0 : decide (x13_1 < (l0.length : Int)) = true:=decide_eq_true c4;clear c4;by_cases c5 : 0 ≤ x13_1
     ·rw [if_pos c5] at H;have c5b0 : decide (0 ≤ x13_1) = true:=decide_eq_true c5;clear c5;by_cases c6 : x13_1 < (l0.length : Int)
      ·rw [if_pos c6] at H;have c6b0 : decide (x13_1 < (l0.length : Int)) = true:=decide_eq_true c6;clear c6;by_cases c7 : x13_1 < (l1.length : Int)
       ·rw [if_pos c7] at H;have c7b0 : decide (x13_1 < (l1.length : Int)) = true:=decide_eq_true c7;clear c7;by_cases c8 : (rd l0 x13_1) = (rd l1 x13_1)
        ·rw [if_pos c8] at H;have c8b0 : ((rd l0 x13_1) == (rd l1 x13_1)) = true:=beq_iff_eq.mpr c8;have c8b1 : ((rd l0 x13_1) != (rd l1 x13_1)) = false:=bne_eq_false_iff_eq.mpr c8;clear c8;have H':=A_ H;clear H;have p361 : 0 ≤ (x13_1 : Int):=of_decide_eq_true (by first|(with_reducible assumption)|assumption);have q361 : x13_1 < (l0.length : Int):=of_decide_eq_true (by first|(with_reducible assumption)|assumption);obtain ⟨ad361,e361,hx361_0⟩:=Kd.at_int HR0.out x13_1 p361 q361;cases e361
         replace p361:=eq_true p361;replace q361:=eq_true q361;have p362 : 0 ≤ (x13_1 : Int):=of_decide_eq_true (by first|(with_reducible assumption)|assumption);have q362 : x13_1 < (l1.length : Int):=of_decide_eq_true (by first|(with_reducible assumption)|assumption);obtain ⟨ad362,e362,hx362_0⟩:=Kd.at_int HR1.out x13_1 p362 q362;cases e362
         replace p362:=eq_true p362;replace q362:=eq_true q362;go_wp2
         repeat (go_quiet (fail);try go_wp2)
         go_roundg k1
         case measure=>have:=HK1.out;omega
         case rel=>exact ⟨(wrap64 (x13_1 + 1)),(by first|rfl|(simp;done)|(simp [*];done)),H',⟨by have:=HK1.out;omega⟩,by repeat (first|exact Drawn0.refl _|apply Drawn0.step)⟩
        ·rw [if_neg c8] at H;have c8b0 : ((rd l0 x13_1) == (rd l1 x13_1)) = false:=beq_eq_false_iff_ne.mpr c8;have c8b1 : ((rd l0 x13_1) != (rd l1 x13_1)) = true:=bne_iff_ne.mpr c8;obtain rfl:=Option.some.inj H;have p361 : 0 ≤ (x13_1 : Int):=of_decide_eq_true (by first|(with_reducible assumption)|assumption);have q361 : x13_1 < (l0.length : Int):=of_decide_eq_true (by first|(with_reducible assumption)|assumption);obtain ⟨ad361,e361,hx361_0⟩:=Kd.at_int HR0.out x13_1 p361 q361;cases e361
         replace p361:=eq_true p361;replace q361:=eq_true q361;have p362 : 0 ≤ (x13_1 : Int):=of_decide_eq_true (by first|(with_reducible assumption)|assumption);have q362 : x13_1 < (l1.length : Int):=of_decide_eq_true (by first|(with_reducible assumption)|assumption);obtain ⟨ad362,e362,hx362_0⟩:=Kd.at_int HR1.out x13_1 p362 q362;cases e362
         replace p362:=eq_true p362;replace q362:=eq_true q362;go_wp2
         repeat (go_quiet (fail);try go_wp2)
         go_ret
         exact ⟨by first|rfl|(simp;done)|(simp [*];done),by repeat (first|exact Drawn0.refl _|apply Drawn0.step)⟩
       ·rw [if_neg c7] at H;exact absurd H (by simp)
      ·rw [if_neg c6] at H;exact absurd H (by simp)
     ·rw [if_neg c5] at H;exact absurd H (by simp)
    ·rw [if_neg c4] at H;have c4b0 : decide (x13_1 < (l0.length : Int)) = false:=decide_eq_false c4;clear c4;obtain rfl:=Option.some.inj H;go_wp2
     repeat (go_quiet (fail);try go_wp2)
     go_ret
     exact ⟨by first|rfl|(simp;done)|(simp [*];done),by repeat (first|exact Drawn0.refl _|apply Drawn0.step)⟩
 ·rw [if_neg c3] at H;have c3b0 : ((l0.length : Int) == (l1.length : Int)) = false:=beq_eq_false_iff_ne.mpr c3;have c3b1 : ((l0.length : Int) != (l1.length : Int)) = true:=bne_iff_ne.mpr c3;have c3b2 : (l0.length == l1.length) = false:=by first|simpa using c3|(simp at c3 ⊢;omega)
  obtain rfl:=Option.some.inj H;go_enter Tryd.func72,Tryd.ntmps72
  go_wp2
  repeat (go_quiet (fail);try go_wp2)
  go_ret
  exact ⟨by first|rfl|(simp;done)|(simp [*];done),by repeat (first|exact Drawn0.refl _|apply Drawn0.step)⟩
def laws_vOrder.f (k : Nat) (a0_0 : Int) (l0_1 : List Int) (a1_0 : Int) (l1_1 : List Int) : Option (Bool) := if a0_0 = a1_0 then ((laws_vSame.f k l0_1 l1_1).bind fun t365 => (some t365)) else (some false)
set_option maxHeartbeats 8000000 in
set_option maxRecDepth 100000 in
theorem laws_vOrder.calls (k : Nat) (a0_0 : Int) (A0_1 : Option Addr) (c0_1 : Nat) (l0_1 : List Int) (a1_0 : Int) (A1_1 : Option Addr) (c1_1 : Nat) (l1_1 : List Int) (r : Bool) (w : World) (hr0_1 : Kd.C (Kd.int .i64) w A0_1 l0_1.length l0_1) (hc0_1 : l0_1.length ≤ c0_1) (hr1_1 : Kd.C (Kd.int .i64) w A1_1 l1_1.length l1_1) (hc1_1 : l1_1.length ≤ c1_1) (h : laws_vOrder.f k a0_0 l0_1 a1_0 l1_1 = some r) :
 Calls Tryd.prog 24 #[.agg #[.int .i64 a0_0,.slice A0_1 l0_1.length c0_1],.agg #[.int .i64 a1_0,.slice A1_1 l1_1.length c1_1]] w fun e w'=>e = .returned (.bool r) ∧ Below w.heap.size w w':=by
 have hu26:=Tryd.underlying26;have HR0_1:=A_ hr0_1;have HC0_1:=A_ hc0_1;clear hr0_1 hc0_1;have HR1_1:=A_ hr1_1;have HC1_1:=A_ hc1_1;clear hr1_1 hc1_1;have HB:=A_ (Below.refl w.heap.size w);have H : (if a0_0 = a1_0 then ((laws_vSame.f k l0_1 l1_1).bind fun t365=>(some t365)) else (some false)) = some r:=h;clear h;by_cases c3 : a0_0 = a1_0
 ·rw [if_pos c3] at H;have c3b0 : (a0_0 == a1_0) = true:=beq_iff_eq.mpr c3;have c3b1 : (a0_0 != a1_0) = false:=bne_eq_false_iff_eq.mpr c3;clear c3;replace H:=Option.bind_eq_some_iff.mp H;obtain ⟨t365,A40,H⟩:=H;replace H : (some t365) = some r:=H;have A4:=A_ A40;clear A40;obtain rfl:=Option.some.inj H;go_enter Tryd.func24,Tryd.ntmps24
  go_wp2_with (first|((with_reducible refine gate_dst (N:=2) rfl ?_);refine box_event ?hg (N:=2) ?hd (cs:=#[.int .i64 a0_0,.slice A0_1 l0_1.length c0_1]) (t:=26) ?hr ?_;(case hd=>rfl);(case hg=>rfl);(case hr=>first|(go_simp;done)|(go_simp;rfl));intro gb363 hg w5 hbox hb;have BK363:=A_ (hbox);have GW363:=A_ ((by rw [hg];exact (below_size bb_) : w.heap.size ≤ gb363));have GE363:=A_ ((by rw [hg];exact (below_size bb_) : w.heap.size ≤ gb363));replace HB:=A_ (below_step bb_ hb);clear hb hbox hg)|((with_reducible refine gate_dst (N:=3) rfl ?_);refine box_event ?hg (N:=3) ?hd (cs:=#[.int .i64 a1_0,.slice A1_1 l1_1.length c1_1]) (t:=26) ?hr ?_;(case hd=>rfl);(case hg=>rfl);(case hr=>first|(go_simp;done)|(go_simp;rfl));intro gb364 hg w6 hbox hb;have BK364:=A_ (hbox);have GW364:=A_ ((by rw [hg];exact (below_size bb_) : w.heap.size ≤ gb364));have GE364:=A_ ((by rw [hg];exact (below_size bb_) : w.heap.size ≤ gb364));replace HB:=A_ (below_step bb_ hb);have NB363_364:=A_ ((by rw [hg];exact Nat.ne_of_lt (blk_lt (bl_ BK363)) : gb363 ≠ gb364));have NB364_363:=A_ ((by rw [hg];exact Nat.ne_of_gt (blk_lt (bl_ BK363)) : gb364 ≠ gb363));replace BK363:=bz BK363 hb;clear hb hbox hg;have hnb7:=NB363_364.out;have hnc7:=NB364_363.out;have hcz8_0 : w6.cell? ⟨gb363,0,none⟩ = some (.int .i64 a0_0):=blk_cell BK363.out 0;have hcz8_1 : w6.cell? ⟨gb363,1,none⟩ = some (.slice A0_1 l0_1.length c0_1):=blk_cell BK363.out 1;have hfz8_0:=blk_frozen BK363.out 0;have hfz8_1:=blk_frozen BK363.out 1;have hcz9_0 : w6.cell? ⟨gb364,0,none⟩ = some (.int .i64 a1_0):=blk_cell BK364.out 0;have hcz9_1 : w6.cell? ⟨gb364,1,none⟩ = some (.slice A1_1 l1_1.length c1_1):=blk_cell BK364.out 1;have hfz9_0:=blk_frozen BK364.out 0;have hfz9_1:=blk_frozen BK364.out 1)|(go_at_call 72;(with_reducible refine (laws_vSame.calls k _ _ l0_1 _ _ l1_1 t365 _ ?side1 ?side2 ?side3 ?side4 A4.out).mono ?_);(case side1=>exact cl_ (Kd.C_below HR0_1.out HB.out));(case side2=>exact HC0_1.out);(case side3=>exact cl_ (Kd.C_below HR1_1.out HB.out));(case side4=>exact HC1_1.out);rintro e w' ⟨rfl,⟨nd,rfl⟩⟩))
  go_ret
  exact ⟨by first|rfl|(simp [errW_none,errW_some] <;> rfl)|(simp [*,errW_none,errW_some] <;> rfl),bb_⟩
 ·rw [if_neg c3] at H;have c3b0 : (a0_0 == a1_0) = false:=beq_eq_false_iff_ne.mpr c3;have c3b1 : (a0_0 != a1_0) = true:=bne_iff_ne.mpr c3;obtain rfl:=Option.some.inj H;go_enter Tryd.func24,Tryd.ntmps24
  go_wp2_with (first|((with_reducible refine gate_dst (N:=2) rfl ?_);refine box_event ?hg (N:=2) ?hd (cs:=#[.int .i64 a0_0,.slice A0_1 l0_1.length c0_1]) (t:=26) ?hr ?_;(case hd=>rfl);(case hg=>rfl);(case hr=>first|(go_simp;done)|(go_simp;rfl));intro gb363 hg w10 hbox hb;have BK363:=A_ (hbox);have GW363:=A_ ((by rw [hg];exact (below_size bb_) : w.heap.size ≤ gb363));have GE363:=A_ ((by rw [hg];exact (below_size bb_) : w.heap.size ≤ gb363));replace HB:=A_ (below_step bb_ hb);clear hb hbox hg)|((with_reducible refine gate_dst (N:=3) rfl ?_);refine box_event ?hg (N:=3) ?hd (cs:=#[.int .i64 a1_0,.slice A1_1 l1_1.length c1_1]) (t:=26) ?hr ?_;(case hd=>rfl);(case hg=>rfl);(case hr=>first|(go_simp;done)|(go_simp;rfl));intro gb364 hg w11 hbox hb;have BK364:=A_ (hbox);have GW364:=A_ ((by rw [hg];exact (below_size bb_) : w.heap.size ≤ gb364));have GE364:=A_ ((by rw [hg];exact (below_size bb_) : w.heap.size ≤ gb364));replace HB:=A_ (below_step bb_ hb);have NB363_364:=A_ ((by rw [hg];exact Nat.ne_of_lt (blk_lt (bl_ BK363)) : gb363 ≠ gb364));have NB364_363:=A_ ((by rw [hg];exact Nat.ne_of_gt (blk_lt (bl_ BK363)) : gb364 ≠ gb363));replace BK363:=bz BK363 hb;clear hb hbox hg;have hnb12:=NB363_364.out;have hnc12:=NB364_363.out;have hcz13_0 : w11.cell? ⟨gb363,0,none⟩ = some (.int .i64 a0_0):=blk_cell BK363.out 0;have hcz13_1 : w11.cell? ⟨gb363,1,none⟩ = some (.slice A0_1 l0_1.length c0_1):=blk_cell BK363.out 1;have hfz13_0:=blk_frozen BK363.out 0;have hfz13_1:=blk_frozen BK363.out 1;have hcz14_0 : w11.cell? ⟨gb364,0,none⟩ = some (.int .i64 a1_0):=blk_cell BK364.out 0;have hcz14_1 : w11.cell? ⟨gb364,1,none⟩ = some (.slice A1_1 l1_1.length c1_1):=blk_cell BK364.out 1;have hfz14_0:=blk_frozen BK364.out 0;have hfz14_1:=blk_frozen BK364.out 1))
  go_ret
  exact ⟨by first|rfl|(simp [errW_none,errW_some] <;> rfl)|(simp [*,errW_none,errW_some] <;> rfl),bb_⟩
def impl_Order_better.f (a0_0 : Int) (l0_1 : List Int) (a1 : Int) (a2 : Int) : Option (Bool) := if 0 ≤ a1 then (if a1 < (l0_1.length : Int) then (if 0 ≤ a2 then (some ((Go.bits .and .i64 (shr .i64 (rd l0_1 a1) a2) 1) == 1)) else (none)) else (none)) else (none)
set_option maxHeartbeats 8000000 in
set_option maxRecDepth 100000 in
theorem impl_Order_better.calls (a0_0 : Int) (A0_1 : Option Addr) (c0_1 : Nat) (l0_1 : List Int) (a1 : Int) (a2 : Int) (r : Bool) (w : World) (hr0_1 : Kd.C (Kd.int .i64) w A0_1 l0_1.length l0_1) (hc0_1 : l0_1.length ≤ c0_1) (h : impl_Order_better.f a0_0 l0_1 a1 a2 = some r) :
 Calls Tryd.prog 87 #[.agg #[.int .i64 a0_0,.slice A0_1 l0_1.length c0_1],.int .i64 a1,.int .i64 a2] w fun e w'=>e = .returned (.bool r) ∧ Below w.heap.size w w':=by
 have hu26:=Tryd.underlying26;have HR0_1:=A_ hr0_1;have HC0_1:=A_ hc0_1;clear hr0_1 hc0_1;have HB:=A_ (Below.refl w.heap.size w);have H : (if 0 ≤ a1 then (if a1 < (l0_1.length : Int) then (if 0 ≤ a2 then (some ((Go.bits .and .i64 (shr .i64 (rd l0_1 a1) a2) 1) == 1)) else (none)) else (none)) else (none)) = some r:=h;clear h;by_cases c4 : 0 ≤ a1
 ·rw [if_pos c4] at H;have c4b0 : decide (0 ≤ a1) = true:=decide_eq_true c4;clear c4;by_cases c5 : a1 < (l0_1.length : Int)
  ·rw [if_pos c5] at H;have c5b0 : decide (a1 < (l0_1.length : Int)) = true:=decide_eq_true c5;clear c5;by_cases c6 : 0 ≤ a2
   ·rw [if_pos c6] at H;have c6b0:=eq_true c6;have c6b1 : decide (0 ≤ a2) = true:=decide_eq_true c6;clear c6;obtain ⟨ji7,hji7⟩ : ∃ j_ : Int,(shr .i64 (rd l0_1 a1) a2) = j_:=⟨_,rfl⟩;replace H : (some ((Go.bits .and .i64 (ji7) 1) == 1)) = some r:=by first|(rw [hji7] at H;exact H)|(simp only [hji7] at H ⊢;exact H)
    have hji7_ : ((rd l0_1 a1) / 2 ^ min a2.toNat 64) = ji7:=hji7;have hji7z : a2 ≤ 64 → ((rd l0_1 a1) / 2 ^ a2.toNat) = ji7:=shr_small hji7;obtain rfl:=Option.some.inj H;go_enter Tryd.func87,Tryd.ntmps87
    go_wp2_with (first|((with_reducible refine gate_dst (N:=3) rfl ?_);refine box_event ?hg (N:=3) ?hd (cs:=#[.int .i64 a0_0,.slice A0_1 l0_1.length c0_1]) (t:=26) ?hr ?_;(case hd=>rfl);(case hg=>rfl);(case hr=>first|(go_simp;done)|(go_simp;rfl));intro gb143 hg w8 hbox hb;have BK143:=A_ (hbox);have GW143:=A_ ((by rw [hg];exact (below_size bb_) : w.heap.size ≤ gb143));have GE143:=A_ ((by rw [hg];exact (below_size bb_) : w.heap.size ≤ gb143));replace HB:=A_ (below_step bb_ hb);clear hb hbox hg;have hcz9_0 : w8.cell? ⟨gb143,0,none⟩ = some (.int .i64 a0_0):=blk_cell BK143.out 0;have hcz9_1 : w8.cell? ⟨gb143,1,none⟩ = some (.slice A0_1 l0_1.length c0_1):=blk_cell BK143.out 1;have hfz9_0:=blk_frozen BK143.out 0;have hfz9_1:=blk_frozen BK143.out 1;have p144 : 0 ≤ (a1 : Int):=of_decide_eq_true (by first|(with_reducible assumption)|assumption);have q144 : a1 < (l0_1.length : Int):=of_decide_eq_true (by first|(with_reducible assumption)|assumption);obtain ⟨ad144,e144,hx144_0⟩:=Kd.at_int HR0_1.out a1 p144 q144;cases e144;(try replace hx144_0:=(HB.out.cell (World.block_lt_of_cell? w _ hx144_0)).trans hx144_0);replace p144:=eq_true p144;replace q144:=eq_true q144))
    go_ret
    exact ⟨by first|rfl|(simp [errW_none,errW_some] <;> rfl)|(simp only [← hji7];first|rfl|(simp [errW_none,errW_some] <;> rfl))|(simp [*,errW_none,errW_some] <;> rfl),bb_⟩
   ·rw [if_neg c6] at H;exact absurd H (by simp)
  ·rw [if_neg c5] at H;exact absurd H (by simp)
 ·rw [if_neg c4] at H;exact absurd H (by simp)
def impl_IsRelation.f (k : Nat) (a0_0 : Int) (l0_1 : List Int) : Option (Bool) := (impl_within.f a0_0 0 10).bind fun t148 => (if t148 = true then (if (l0_1.length : Int) = a0_0 then (if 0 ≤ a0_0 then ((impl_allWithin.f k l0_1 0 (wrap64 ((shl .i64 1 a0_0) - 1))).bind fun t149 => (some t149)) else (none)) else (some false)) else (some false))
set_option maxHeartbeats 8000000 in
set_option maxRecDepth 100000 in
theorem impl_IsRelation.calls (k : Nat) (a0_0 : Int) (A0_1 : Option Addr) (c0_1 : Nat) (l0_1 : List Int) (r : Bool) (w : World) (hr0_1 : Kd.C (Kd.int .i64) w A0_1 l0_1.length l0_1) (hc0_1 : l0_1.length ≤ c0_1) (h : impl_IsRelation.f k a0_0 l0_1 = some r) :
 Calls Tryd.prog 102 #[.agg #[.int .i64 a0_0,.slice A0_1 l0_1.length c0_1]] w fun e w'=>e = .returned (.bool r) ∧ Below w.heap.size w w':=by
 have hu26:=Tryd.underlying26;have HR0_1:=A_ hr0_1;have HC0_1:=A_ hc0_1;clear hr0_1 hc0_1;have HB:=A_ (Below.refl w.heap.size w);have H : ((impl_within.f a0_0 0 10).bind fun t148=>(if t148 = true then (if (l0_1.length : Int) = a0_0 then (if 0 ≤ a0_0 then ((impl_allWithin.f k l0_1 0 (wrap64 ((shl .i64 1 a0_0) - 1))).bind fun t149=>(some t149)) else (none)) else (some false)) else (some false))) = some r:=h;clear h;replace H:=Option.bind_eq_some_iff.mp H;obtain ⟨t148,A20,H⟩:=H;replace H : (if t148 = true then (if (l0_1.length : Int) = a0_0 then (if 0 ≤ a0_0 then ((impl_allWithin.f k l0_1 0 (wrap64 ((shl .i64 1 a0_0) - 1))).bind fun t149=>(some t149)) else (none)) else (some false)) else (some false)) = some r:=H;have A2:=A_ A20;clear A20;by_cases c3 : t148 = true
 ·subst c3;have H1 : (if (l0_1.length : Int) = a0_0 then (if 0 ≤ a0_0 then ((impl_allWithin.f k l0_1 0 (wrap64 ((shl .i64 1 a0_0) - 1))).bind fun t149=>(some t149)) else (none)) else (some false)) = some r:=by rw [if_pos rfl] at H;exact H
  clear H;have H:=H1;clear H1;by_cases c4 : (l0_1.length : Int) = a0_0
  ·rw [if_pos c4] at H;have c4b0 : ((l0_1.length : Int) == a0_0) = true:=beq_iff_eq.mpr c4;have c4b1 : ((l0_1.length : Int) != a0_0) = false:=bne_eq_false_iff_eq.mpr c4;clear c4;by_cases c5 : 0 ≤ a0_0
   ·rw [if_pos c5] at H;have c5b0:=eq_true c5;have c5b1 : decide (0 ≤ a0_0) = true:=decide_eq_true c5;clear c5;obtain ⟨ji6,hji6⟩ : ∃ j_ : Int,(shl .i64 1 a0_0) = j_:=⟨_,rfl⟩;replace H : ((impl_allWithin.f k l0_1 0 (wrap64 ((ji6) - 1))).bind fun t149=>(some t149)) = some r:=by first|(rw [hji6] at H;exact H)|(simp only [hji6] at H ⊢;exact H)
    (try rw [hji6] at A2);have hji6_ : (IntKind.i64.wrap (1 * 2 ^ min a0_0.toNat 64)) = ji6:=hji6;have hji6z : a0_0 ≤ 64 → (IntKind.i64.wrap (1 * 2 ^ a0_0.toNat)) = ji6:=shl_small hji6;have hji6u : (IntKind.i64.wrap (2 ^ min a0_0.toNat 64)) = ji6:=by have h_:=hji6_;rw [Int.one_mul] at h_;exact h_
    have hji6v : a0_0 ≤ 64 → (IntKind.i64.wrap (2 ^ a0_0.toNat)) = ji6:=fun hle_=>by have h_:=hji6z hle_;rw [Int.one_mul] at h_;exact h_
    have hji6y : (wrap64 (1 * 2 ^ min a0_0.toNat 64)) = ji6:=(i64_w _).symm.trans hji6_;have hji6x : a0_0 ≤ 64 → (wrap64 (1 * 2 ^ a0_0.toNat)) = ji6:=fun h_=>(i64_w _).symm.trans (hji6z h_)
    replace H:=Option.bind_eq_some_iff.mp H;obtain ⟨t149,A70,H⟩:=H;replace H : (some t149) = some r:=H;have A7:=A_ A70;clear A70;obtain rfl:=Option.some.inj H;go_enter Tryd.func102,Tryd.ntmps102
    go_wp2_with (first|((with_reducible refine gate_dst (N:=1) rfl ?_);(try (refine gate_guard (by rfl) ?_;dsimp only));refine box_event ?hg (N:=1) ?hd (cs:=#[.int .i64 a0_0,.slice A0_1 l0_1.length c0_1]) (t:=26) ?hr ?_;(case hd=>rfl);(case hg=>rfl);(case hr=>first|(go_simp;done)|(go_simp;rfl));intro gb147 hg w8 hbox hb;have BK147:=A_ (hbox);have GW147:=A_ ((by rw [hg];exact (below_size bb_) : w.heap.size ≤ gb147));have GE147:=A_ ((by rw [hg];exact (below_size bb_) : w.heap.size ≤ gb147));replace HB:=A_ (below_step bb_ hb);clear hb hbox hg;have hcz9_0 : w8.cell? ⟨gb147,0,none⟩ = some (.int .i64 a0_0):=blk_cell BK147.out 0;have hcz9_1 : w8.cell? ⟨gb147,1,none⟩ = some (.slice A0_1 l0_1.length c0_1):=blk_cell BK147.out 1;have hfz9_0:=blk_frozen BK147.out 0;have hfz9_1:=blk_frozen BK147.out 1)|(go_at_call 93;(with_reducible refine (impl_within.calls a0_0 0 10 true _ A2.out).mono ?_);rintro e w' ⟨rfl,⟨nd,rfl⟩⟩;(try first|exact ⟨rfl,_,World.drewN_drewN _ _ _⟩|exact ⟨rfl,_,Eq.trans (World.drewN_drewN _ _ _) (congrArg (World.drewN _) (Nat.add_assoc _ _ _))⟩))|(go_at_call 94;(with_reducible refine (impl_allWithin.calls k _ _ l0_1 0 (wrap64 ((ji6) - 1)) t149 _ ?side1 ?side2 A7.out).mono ?_);(case side1=>exact cl_ (Kd.C_below HR0_1.out bb_));(case side2=>exact HC0_1.out);rintro e w' ⟨rfl,⟨nd,rfl⟩⟩;(try first|exact ⟨rfl,_,World.drewN_drewN _ _ _⟩|exact ⟨rfl,_,Eq.trans (World.drewN_drewN _ _ _) (congrArg (World.drewN _) (Nat.add_assoc _ _ _))⟩)))
    repeat (go_quiet (first|((with_reducible refine gate_dst (N:=1) rfl ?_);(try (refine gate_guard (by rfl) ?_;dsimp only));refine box_event ?hg (N:=1) ?hd (cs:=#[.int .i64 a0_0,.slice A0_1 l0_1.length c0_1]) (t:=26) ?hr ?_;(case hd=>rfl);(case hg=>rfl);(case hr=>first|(go_simp;done)|(go_simp;rfl));intro gb147 hg w8 hbox hb;have BK147:=A_ (hbox);have GW147:=A_ ((by rw [hg];exact (below_size bb_) : w.heap.size ≤ gb147));have GE147:=A_ ((by rw [hg];exact (below_size bb_) : w.heap.size ≤ gb147));replace HB:=A_ (below_step bb_ hb);clear hb hbox hg;have hcz9_0 : w8.cell? ⟨gb147,0,none⟩ = some (.int .i64 a0_0):=blk_cell BK147.out 0;have hcz9_1 : w8.cell? ⟨gb147,1,none⟩ = some (.slice A0_1 l0_1.length c0_1):=blk_cell BK147.out 1;have hfz9_0:=blk_frozen BK147.out 0;have hfz9_1:=blk_frozen BK147.out 1)|(go_at_call 93;(with_reducible refine (impl_within.calls a0_0 0 10 true _ A2.out).mono ?_);rintro e w' ⟨rfl,⟨nd,rfl⟩⟩;(try first|exact ⟨rfl,_,World.drewN_drewN _ _ _⟩|exact ⟨rfl,_,Eq.trans (World.drewN_drewN _ _ _) (congrArg (World.drewN _) (Nat.add_assoc _ _ _))⟩))|(go_at_call 94;(with_reducible refine (impl_allWithin.calls k _ _ l0_1 0 (wrap64 ((ji6) - 1)) t149 _ ?side1 ?side2 A7.out).mono ?_);(case side1=>exact cl_ (Kd.C_below HR0_1.out bb_));(case side2=>exact HC0_1.out);rintro e w' ⟨rfl,⟨nd,rfl⟩⟩;(try first|exact ⟨rfl,_,World.drewN_drewN _ _ _⟩|exact ⟨rfl,_,Eq.trans (World.drewN_drewN _ _ _) (congrArg (World.drewN _) (Nat.add_assoc _ _ _))⟩)));try go_wp2_with (first|((with_reducible refine gate_dst (N:=1) rfl ?_);(try (refine gate_guard (by rfl) ?_;dsimp only));refine box_event ?hg (N:=1) ?hd (cs:=#[.int .i64 a0_0,.slice A0_1 l0_1.length c0_1]) (t:=26) ?hr ?_;(case hd=>rfl);(case hg=>rfl);(case hr=>first|(go_simp;done)|(go_simp;rfl));intro gb147 hg w8 hbox hb;have BK147:=A_ (hbox);have GW147:=A_ ((by rw [hg];exact (below_size bb_) : w.heap.size ≤ gb147));have GE147:=A_ ((by rw [hg];exact (below_size bb_) : w.heap.size ≤ gb147));replace HB:=A_ (below_step bb_ hb);clear hb hbox hg;have hcz9_0 : w8.cell? ⟨gb147,0,none⟩ = some (.int .i64 a0_0):=blk_cell BK147.out 0;have hcz9_1 : w8.cell? ⟨gb147,1,none⟩ = some (.slice A0_1 l0_1.length c0_1):=blk_cell BK147.out 1;have hfz9_0:=blk_frozen BK147.out 0;have hfz9_1:=blk_frozen BK147.out 1)|(go_at_call 93;(with_reducible refine (impl_within.calls a0_0 0 10 true _ A2.out).mono ?_);rintro e w' ⟨rfl,⟨nd,rfl⟩⟩;(try first|exact ⟨rfl,_,World.drewN_drewN _ _ _⟩|exact ⟨rfl,_,Eq.trans (World.drewN_drewN _ _ _) (congrArg (World.drewN _) (Nat.add_assoc _ _ _))⟩))|(go_at_call 94;(with_reducible refine (impl_allWithin.calls k _ _ l0_1 0 (wrap64 ((ji6) - 1)) t149 _ ?side1 ?side2 A7.out).mono ?_);(case side1=>exact cl_ (Kd.C_below HR0_1.out bb_));(case side2=>exact HC0_1.out);rintro e w' ⟨rfl,⟨nd,rfl⟩⟩;(try first|exact ⟨rfl,_,World.drewN_drewN _ _ _⟩|exact ⟨rfl,_,Eq.trans (World.drewN_drewN _ _ _) (congrArg (World.drewN _) (Nat.add_assoc _ _ _))⟩))))
    go_ret
    exact ⟨by first|rfl|(simp [errW_none,errW_some] <;> rfl)|(simp only [← hji6];first|rfl|(simp [errW_none,errW_some] <;> rfl))|(simp [*,errW_none,errW_some] <;> rfl),bb_⟩
   ·rw [if_neg c5] at H;exact absurd H (by simp)
  ·rw [if_neg c4] at H;have c4b0 : ((l0_1.length : Int) == a0_0) = false:=beq_eq_false_iff_ne.mpr c4;have c4b1 : ((l0_1.length : Int) != a0_0) = true:=bne_iff_ne.mpr c4;obtain rfl:=Option.some.inj H;go_enter Tryd.func102,Tryd.ntmps102
   go_wp2_with (first|((with_reducible refine gate_dst (N:=1) rfl ?_);(try (refine gate_guard (by rfl) ?_;dsimp only));refine box_event ?hg (N:=1) ?hd (cs:=#[.int .i64 a0_0,.slice A0_1 l0_1.length c0_1]) (t:=26) ?hr ?_;(case hd=>rfl);(case hg=>rfl);(case hr=>first|(go_simp;done)|(go_simp;rfl));intro gb147 hg w10 hbox hb;have BK147:=A_ (hbox);have GW147:=A_ ((by rw [hg];exact (below_size bb_) : w.heap.size ≤ gb147));have GE147:=A_ ((by rw [hg];exact (below_size bb_) : w.heap.size ≤ gb147));replace HB:=A_ (below_step bb_ hb);clear hb hbox hg;have hcz11_0 : w10.cell? ⟨gb147,0,none⟩ = some (.int .i64 a0_0):=blk_cell BK147.out 0;have hcz11_1 : w10.cell? ⟨gb147,1,none⟩ = some (.slice A0_1 l0_1.length c0_1):=blk_cell BK147.out 1;have hfz11_0:=blk_frozen BK147.out 0;have hfz11_1:=blk_frozen BK147.out 1)|(go_at_call 93;(with_reducible refine (impl_within.calls a0_0 0 10 true _ A2.out).mono ?_);rintro e w' ⟨rfl,⟨nd,rfl⟩⟩;(try first|exact ⟨rfl,_,World.drewN_drewN _ _ _⟩|exact ⟨rfl,_,Eq.trans (World.drewN_drewN _ _ _) (congrArg (World.drewN _) (Nat.add_assoc _ _ _))⟩)))
   repeat (go_quiet (first|((with_reducible refine gate_dst (N:=1) rfl ?_);(try (refine gate_guard (by rfl) ?_;dsimp only));refine box_event ?hg (N:=1) ?hd (cs:=#[.int .i64 a0_0,.slice A0_1 l0_1.length c0_1]) (t:=26) ?hr ?_;(case hd=>rfl);(case hg=>rfl);(case hr=>first|(go_simp;done)|(go_simp;rfl));intro gb147 hg w10 hbox hb;have BK147:=A_ (hbox);have GW147:=A_ ((by rw [hg];exact (below_size bb_) : w.heap.size ≤ gb147));have GE147:=A_ ((by rw [hg];exact (below_size bb_) : w.heap.size ≤ gb147));replace HB:=A_ (below_step bb_ hb);clear hb hbox hg;have hcz11_0 : w10.cell? ⟨gb147,0,none⟩ = some (.int .i64 a0_0):=blk_cell BK147.out 0;have hcz11_1 : w10.cell? ⟨gb147,1,none⟩ = some (.slice A0_1 l0_1.length c0_1):=blk_cell BK147.out 1;have hfz11_0:=blk_frozen BK147.out 0;have hfz11_1:=blk_frozen BK147.out 1)|(go_at_call 93;(with_reducible refine (impl_within.calls a0_0 0 10 true _ A2.out).mono ?_);rintro e w' ⟨rfl,⟨nd,rfl⟩⟩;(try first|exact ⟨rfl,_,World.drewN_drewN _ _ _⟩|exact ⟨rfl,_,Eq.trans (World.drewN_drewN _ _ _) (congrArg (World.drewN _) (Nat.add_assoc _ _ _))⟩)));try go_wp2_with (first|((with_reducible refine gate_dst (N:=1) rfl ?_);(try (refine gate_guard (by rfl) ?_;dsimp only));refine box_event ?hg (N:=1) ?hd (cs:=#[.int .i64 a0_0,.slice A0_1 l0_1.length c0_1]) (t:=26) ?hr ?_;(case hd=>rfl);(case hg=>rfl);(case hr=>first|(go_simp;done)|(go_simp;rfl));intro gb147 hg w10 hbox hb;have BK147:=A_ (hbox);have GW147:=A_ ((by rw [hg];exact (below_size bb_) : w.heap.size ≤ gb147));have GE147:=A_ ((by rw [hg];exact (below_size bb_) : w.heap.size ≤ gb147));replace HB:=A_ (below_step bb_ hb);clear hb hbox hg;have hcz11_0 : w10.cell? ⟨gb147,0,none⟩ = some (.int .i64 a0_0):=blk_cell BK147.out 0;have hcz11_1 : w10.cell? ⟨gb147,1,none⟩ = some (.slice A0_1 l0_1.length c0_1):=blk_cell BK147.out 1;have hfz11_0:=blk_frozen BK147.out 0;have hfz11_1:=blk_frozen BK147.out 1)|(go_at_call 93;(with_reducible refine (impl_within.calls a0_0 0 10 true _ A2.out).mono ?_);rintro e w' ⟨rfl,⟨nd,rfl⟩⟩;(try first|exact ⟨rfl,_,World.drewN_drewN _ _ _⟩|exact ⟨rfl,_,Eq.trans (World.drewN_drewN _ _ _) (congrArg (World.drewN _) (Nat.add_assoc _ _ _))⟩))))
   go_ret
   exact ⟨by first|rfl|(simp [errW_none,errW_some] <;> rfl)|(simp [*,errW_none,errW_some] <;> rfl),bb_⟩
 ·replace c3:=Bool.eq_false_iff.mpr c3;subst c3;have H1 : (some false) = some r:=by rw [if_neg (show ¬ (false = true) by decide)] at H;exact H
  clear H;have H:=H1;clear H1;obtain rfl:=Option.some.inj H;go_enter Tryd.func102,Tryd.ntmps102
  go_wp2_with (first|((with_reducible refine gate_dst (N:=1) rfl ?_);(try (refine gate_guard (by rfl) ?_;dsimp only));refine box_event ?hg (N:=1) ?hd (cs:=#[.int .i64 a0_0,.slice A0_1 l0_1.length c0_1]) (t:=26) ?hr ?_;(case hd=>rfl);(case hg=>rfl);(case hr=>first|(go_simp;done)|(go_simp;rfl));intro gb147 hg w12 hbox hb;have BK147:=A_ (hbox);have GW147:=A_ ((by rw [hg];exact (below_size bb_) : w.heap.size ≤ gb147));have GE147:=A_ ((by rw [hg];exact (below_size bb_) : w.heap.size ≤ gb147));replace HB:=A_ (below_step bb_ hb);clear hb hbox hg;have hcz13_0 : w12.cell? ⟨gb147,0,none⟩ = some (.int .i64 a0_0):=blk_cell BK147.out 0;have hcz13_1 : w12.cell? ⟨gb147,1,none⟩ = some (.slice A0_1 l0_1.length c0_1):=blk_cell BK147.out 1;have hfz13_0:=blk_frozen BK147.out 0;have hfz13_1:=blk_frozen BK147.out 1)|(go_at_call 93;(with_reducible refine (impl_within.calls a0_0 0 10 false _ A2.out).mono ?_);rintro e w' ⟨rfl,⟨nd,rfl⟩⟩;(try first|exact ⟨rfl,_,World.drewN_drewN _ _ _⟩|exact ⟨rfl,_,Eq.trans (World.drewN_drewN _ _ _) (congrArg (World.drewN _) (Nat.add_assoc _ _ _))⟩)))
  repeat (go_quiet (first|((with_reducible refine gate_dst (N:=1) rfl ?_);(try (refine gate_guard (by rfl) ?_;dsimp only));refine box_event ?hg (N:=1) ?hd (cs:=#[.int .i64 a0_0,.slice A0_1 l0_1.length c0_1]) (t:=26) ?hr ?_;(case hd=>rfl);(case hg=>rfl);(case hr=>first|(go_simp;done)|(go_simp;rfl));intro gb147 hg w12 hbox hb;have BK147:=A_ (hbox);have GW147:=A_ ((by rw [hg];exact (below_size bb_) : w.heap.size ≤ gb147));have GE147:=A_ ((by rw [hg];exact (below_size bb_) : w.heap.size ≤ gb147));replace HB:=A_ (below_step bb_ hb);clear hb hbox hg;have hcz13_0 : w12.cell? ⟨gb147,0,none⟩ = some (.int .i64 a0_0):=blk_cell BK147.out 0;have hcz13_1 : w12.cell? ⟨gb147,1,none⟩ = some (.slice A0_1 l0_1.length c0_1):=blk_cell BK147.out 1;have hfz13_0:=blk_frozen BK147.out 0;have hfz13_1:=blk_frozen BK147.out 1)|(go_at_call 93;(with_reducible refine (impl_within.calls a0_0 0 10 false _ A2.out).mono ?_);rintro e w' ⟨rfl,⟨nd,rfl⟩⟩;(try first|exact ⟨rfl,_,World.drewN_drewN _ _ _⟩|exact ⟨rfl,_,Eq.trans (World.drewN_drewN _ _ _) (congrArg (World.drewN _) (Nat.add_assoc _ _ _))⟩)));try go_wp2_with (first|((with_reducible refine gate_dst (N:=1) rfl ?_);(try (refine gate_guard (by rfl) ?_;dsimp only));refine box_event ?hg (N:=1) ?hd (cs:=#[.int .i64 a0_0,.slice A0_1 l0_1.length c0_1]) (t:=26) ?hr ?_;(case hd=>rfl);(case hg=>rfl);(case hr=>first|(go_simp;done)|(go_simp;rfl));intro gb147 hg w12 hbox hb;have BK147:=A_ (hbox);have GW147:=A_ ((by rw [hg];exact (below_size bb_) : w.heap.size ≤ gb147));have GE147:=A_ ((by rw [hg];exact (below_size bb_) : w.heap.size ≤ gb147));replace HB:=A_ (below_step bb_ hb);clear hb hbox hg;have hcz13_0 : w12.cell? ⟨gb147,0,none⟩ = some (.int .i64 a0_0):=blk_cell BK147.out 0;have hcz13_1 : w12.cell? ⟨gb147,1,none⟩ = some (.slice A0_1 l0_1.length c0_1):=blk_cell BK147.out 1;have hfz13_0:=blk_frozen BK147.out 0;have hfz13_1:=blk_frozen BK147.out 1)|(go_at_call 93;(with_reducible refine (impl_within.calls a0_0 0 10 false _ A2.out).mono ?_);rintro e w' ⟨rfl,⟨nd,rfl⟩⟩;(try first|exact ⟨rfl,_,World.drewN_drewN _ _ _⟩|exact ⟨rfl,_,Eq.trans (World.drewN_drewN _ _ _) (congrArg (World.drewN _) (Nat.add_assoc _ _ _))⟩))))
  go_ret
  exact ⟨by first|rfl|(simp [errW_none,errW_some] <;> rfl)|(simp [*,errW_none,errW_some] <;> rfl),bb_⟩
def bits_TrailingZeros64.f (a0 : Int) : Option Int := if 0 ≤ a0 ∧ a0 < 18446744073709551616 then some ((Lib.ctz 64 a0.toNat : Nat) : Int) else none
set_option maxHeartbeats 1000000 in
theorem tz64_core (x k idx : Nat) (w : World) (hx0 : ((x : Int) == 0) = false)
 (key : IntKind.u64.wrap (bits BinOp.and IntKind.u64 (x : Int) (IntKind.u64.wrap (-(x : Int))) * 285870213051353865) / 288230376151711744 = (idx : Int))
 (hi : idx < 64) (hk : k < 64) (hcell : w.cell? ⟨1,idx,none⟩ = some (.int .u8 k)) :
 Calls Tryd.prog 178 #[.int .u64 x] w fun e w'=>e = .returned (.int .i64 k) ∧ w = w':=by
 go_enter Tryd.func178,Tryd.ntmps178
 go_wp2_with (simp only [key])
 go_ret
 exact ⟨rfl,rfl⟩
theorem tz64_zero (w : World) :
 Calls Tryd.prog 178 #[.int .u64 0] w fun e w'=>e = .returned (.int .i64 64) ∧ w = w':=by
 go_enter Tryd.func178,Tryd.ntmps178
 go_wp2
 go_ret
 exact ⟨rfl,rfl⟩
theorem bits_TrailingZeros64.calls (a0 : Int) (r : Int) (w : World) (hT : TabOK w) (h : bits_TrailingZeros64.f a0 = some r) :
 Calls Tryd.prog 178 #[.int .u64 a0] w fun e w'=>e = .returned (.int .i64 r) ∧ Drawn0 w w':=by
 unfold bits_TrailingZeros64.f at h
 split at h
 ·rename_i hb
  obtain ⟨x,rfl⟩:=Int.eq_ofNat_of_zero_le hb.1;injection h with h;subst h;rw [Int.toNat_natCast];by_cases hx0 : x = 0
  ·subst hx0;refine (tz64_zero w).mono ?_
   rintro e w' ⟨rfl,rfl⟩
   exact ⟨rfl,Drawn0.refl _⟩
  ·obtain ⟨hlow,hk⟩:=Lib.lowest_bit 64 x hx0 (by omega);obtain ⟨hi,htab⟩:=Lib.deBruijn64_at _ hk;have hcell:=hT _ hi;rw [htab] at hcell;refine (tz64_core x _ _ w (by simp;omega) (tz64_key x _ (by omega) hx0 hlow) hi hk hcell).mono ?_
   rintro e w' ⟨rfl,rfl⟩
   exact ⟨rfl,Drawn0.refl _⟩
 ·cases h
def bits_TrailingZeros.f (a0 : Int) : Option (Int) := (bits_TrailingZeros64.f a0).bind fun t150 => (some t150)
set_option maxHeartbeats 8000000 in
set_option maxRecDepth 100000 in
theorem bits_TrailingZeros.calls (a0 : Int) (r : Int) (w : World) (hT : TabOK w) (h : bits_TrailingZeros.f a0 = some r) :
 Calls Tryd.prog 157 #[.int .u64 a0] w fun e w'=>e = .returned (.int .i64 r) ∧ Drawn0 w w':=by
 have HT:=A_ hT;clear hT;have H : ((bits_TrailingZeros64.f a0).bind fun t150=>(some t150)) = some r:=h;clear h;replace H:=Option.bind_eq_some_iff.mp H;obtain ⟨t150,A20,H⟩:=H;replace H : (some t150) = some r:=H;have A2:=A_ A20;clear A20;obtain rfl:=Option.some.inj H;go_enter Tryd.func157,Tryd.ntmps157
 go_wp2_with (first|((with_reducible refine gate_callee (f:=178) rfl ?_);refine goesL_ (some 7) rfl rfl Tryd.func178 (by kernel_rfl) rfl #[.int .u64 a0] rfl au_ ?_;(with_reducible refine (bits_TrailingZeros64.calls a0 t150 _ ?side1 A2.out).mono ?_);(case side1=>first|exact HT.out|(repeat (first|exact HT.out|apply TabOK.drewN|apply TabOK.drew|apply TabOK.alloc)));rintro e w' ⟨rfl,⟨nd,rfl⟩⟩;refine ⟨_,rfl,?_⟩))
 go_ret
 exact ⟨by first|rfl|(simp;done)|(simp [*];done),by repeat (first|exact Drawn0.refl _|apply Drawn0.step)⟩
def impl_members.l0 : Nat → Int → List Int → Option (List Int)
 | 0,_,_=>none
 | k + 1,x0,x3=>if x0 = 0 then (some x3) else ((bits_TrailingZeros.f (IntKind.u64.wrap (x0))).bind fun t154=>(if x3.length < 17592186044416 then (impl_members.l0 k (Go.bits .and .i64 x0 (wrap64 (x0 - 1))) (x3 ++ [t154])) else (none)))
def impl_members.f (k : Nat) (a0 : Int) : Option (List Int) := impl_members.l0 k a0 (([] : List Int))
set_option maxHeartbeats 8000000 in
set_option maxRecDepth 100000 in
theorem impl_members.calls (k : Nat) (a0 : Int) (r : List Int) (w : World) (hT : TabOK w) (h : impl_members.f k a0 = some r) :
 Calls Tryd.prog 106 #[.int .i64 a0] w fun e w'=>∃ v0_ : Value,e = .returned (v0_) ∧ Kd.R (Kd.int .i64) 3 w' w.heap.size (fun _=>True) v0_ r ∧ Below w.heap.size w w':=by
 have HT:=A_ hT;clear hT;have HB:=A_ (Below.refl w.heap.size w);have H : (impl_members.l0 k a0 (([] : List Int))) = some r:=h;clear h;obtain ⟨y151,hy151⟩ : ∃ y_ : List Int,y_ = (([] : List Int)):=⟨_,rfl⟩;replace H : (impl_members.l0 k a0 y151) = some r:=by first|(rw [hy151];with_reducible exact H)|(have H2_:=(Option.bind_some _ _).symm.trans H;rw [hy151];with_reducible exact H2_)|(have H2_:=(Option.bind_some _ _).symm.trans H;with_reducible exact H2_)|with_reducible exact H|(rw [hy151];exact H)|exact H
 have Ny151:=A_ hy151;clear hy151;have H':=A_ H;clear H;go_enter Tryd.func106,Tryd.ntmps106
 go_wp2_with (first|((with_reducible refine gate_dst (N:=4) rfl ?_);refine Kd.R_lit (Kd.int .i64) _ 3 ?hg (N:=4) ?hd (xs:=([] : List Int)) (inner:=[]) (ok:=fun _=>True) (okp:=fun _=>True) ?hr ?hp (fun _ hk=>hk) trivial (Below.refl _ _) (Nat.le_refl _) (by simp) ?_;(case hd=>rfl);(case hg=>rfl);(case hr=>first|(go_simp;done)|(go_simp;rfl));(case hp=>exact (Reps.none _ _));intro v152 w2 ho3 hb hg_ hnew_;clear hg_ hnew_;(first|rw [← Ny151.out] at ho3|(simp only [Int.reduceToNat] at ho3;rw [← Ny151.out] at ho3));have HO153:=A_ (Kd.R_lower ho3 (below_size bb_));replace HB:=A_ (below_step bb_ hb);clear hb ho3))
 go_loopg [0,3] k (fun kq v0 v3 w'=>∃ (x0_1 : Int) (x3_1 : List Int),v0 = .int .i64 x0_1 ∧ Aside0 (impl_members.l0 kq x0_1 x3_1 = some r) ∧ Aside0 (kq ≤ k) ∧ Aside0 (Kd.R (Kd.int .i64) 3 w' w.heap.size (fun _=>True) v3 x3_1) ∧ Aside0 (Below w.heap.size w w'))
 case atStart=>exact ⟨(a0),(y151),(by first|rfl|(simp;done)|(simp [*];done)),H',⟨Nat.le_refl _⟩,⟨by (with_reducible repeat (first|apply Kd.R_alloc|apply Kd.R_drewN|apply Kd.R_drew));exact HO153.out⟩,⟨bb_⟩⟩
 case round =>
  clear H';try clear c1
  try clear p2
  obtain ⟨x0_1,x3_1,rfl,HA,HK1,HO_3,HB⟩:=hrel;cases gk with
  | zero => exact absurd HA.out (by simp [impl_members.l0])
  | succ k1 =>
   have H:=HA.out;clear HA;simp only [impl_members.l0] at H
   by_cases c4 : x0_1 = 0
   ·rw [if_pos c4] at H;have c4b0 : (x0_1 == 0) = true:=beq_iff_eq.mpr c4;have c4b1 : (x0_1 != 0) = false:=bne_eq_false_iff_eq.mpr c4;clear c4;obtain rfl:=Option.some.inj H;go_wp2
    go_ret
    exact ⟨_,by first|rfl|(simp [errW_none,errW_some] <;> rfl)|(simp [*,errW_none,errW_some] <;> rfl),by (with_reducible repeat (first|apply Kd.R_alloc|apply Kd.R_drewN|apply Kd.R_drew));exact HO_3.out,bb_⟩
   ·rw [if_neg c4] at H;have c4b0 : (x0_1 == 0) = false:=beq_eq_false_iff_ne.mpr c4;have c4b1 : (x0_1 != 0) = true:=bne_iff_ne.mpr c4;replace H:=Option.bind_eq_some_iff.mp H;obtain ⟨t154,A50,H⟩:=H;replace H : (if x3_1.length < 17592186044416 then (impl_members.l0 k1 (Go.bits .and .i64 x0_1 (wrap64 (x0_1 - 1))) (x3_1 ++ [t154])) else (none)) = some r:=H;have A5:=A_ A50;clear A50;by_cases c6 : x3_1.length < 17592186044416
    ·rw [if_pos c6] at H;have LMc6:=A_ c6;clear c6;obtain ⟨y155,hy155⟩ : ∃ y_ : List Int,y_ = (x3_1 ++ [t154]):=⟨_,rfl⟩;replace H : (impl_members.l0 k1 (Go.bits .and .i64 x0_1 (wrap64 (x0_1 - 1))) y155) = some r:=by first|(rw [hy155];with_reducible exact H)|(have H2_:=(Option.bind_some _ _).symm.trans H;rw [hy155];with_reducible exact H2_)|(have H2_:=(Option.bind_some _ _).symm.trans H;with_reducible exact H2_)|with_reducible exact H|(rw [hy155];exact H)|exact H
     have Ny155:=A_ hy155;clear hy155;have H':=A_ H;clear H;go_wp2_with (first|((with_reducible refine gate_callee (f:=157) rfl ?_);refine goesL_ (some 14) rfl rfl Tryd.func157 (by kernel_rfl) rfl #[.int .u64 (IntKind.u64.wrap (x0_1))] rfl au_ ?_;(with_reducible refine (bits_TrailingZeros.calls (IntKind.u64.wrap (x0_1)) t154 _ ?side1 A5.out).mono ?_);(case side1=>first|exact HT.out|exact HT.out.below bb_|(repeat (first|exact HT.out|apply TabOK.drewN|apply TabOK.drew|apply TabOK.alloc)));rintro e w' ⟨rfl,⟨nd,rfl⟩⟩;refine ⟨_,rfl,?_⟩)|((with_reducible refine gate_builtin (b:=.append) (xs:=#[.tmp 11,.tmp 15]) rfl ?_);at_builtin;refine Kd.R_append (Kd.int .i64) (w0:=w) w.heap.size rfl (.tmp 11) (.tmp 15) 22 3 (.int .i64 0) 8 rfl Tryd.underlying22 info3 rfl (by decide) (by omega) u3 x3_1 t154 [.int .i64 t154] (fun _=>True) (fun _=>False) rfl rfl ?aP (fun _ hk=>hk.elim) ?aF ?aO ?aB ?aS ?aL ?_;(case aP=>exact rfl);(case aB=>exact bb_);(case aF=>exact (fun _ _=>trivial));(case aO=>exact (rl_ HO_3));(case aS=>exact (below_size bb_));(case aL=>have:=LMc6.out;omega);intro v156 w7 ho hb hg hat;rw [← Ny155.out] at ho;replace HB:=A_ (hb);have HO157:=A_ (ho);clear HO_3;clear ho hb hg hat))
     go_roundg k1
     case measure=>have:=HK1.out;omega
     case rel=>exact ⟨(Go.bits .and .i64 x0_1 (wrap64 (x0_1 - 1))),(y155),(by first|rfl|(simp;done)|(simp [*];done)),H',⟨by have:=HK1.out;omega⟩,⟨by (with_reducible repeat (first|apply Kd.R_alloc|apply Kd.R_drewN|apply Kd.R_drew));exact HO157.out⟩,⟨bb_⟩⟩
    ·rw [if_neg c6] at H;exact absurd H (by simp)
mutual
def impl_IsOrder.l0 : Nat → List Int → Int → Int → Int → List Int → Option (Bool)
 | 0,_,_,_,_,_=>none
 | k + 1,x11,x12,x13,x159000,x159001=>if x13 < x12 then (if 0 ≤ x13 then (if x13 < (x11.length : Int) then ((impl_Order_better.f x159000 x159001 x13 x13).bind fun t161=>(if t161 = true then (some false) else ((impl_members.f k (rd x11 x13)).bind fun t162=>(impl_IsOrder.l1 k (rd x11 x13) x11 x12 x13 t162 (t162.length : Int) 0 x159000 x159001)))) else (none)) else (none)) else (some true)
def impl_IsOrder.l1 : Nat → Int → List Int → Int → Int → List Int → Int → Int → Int → List Int → Option (Bool)
 | 0,_,_,_,_,_,_,_,_,_=>none
 | k + 1,x4,x11,x12,x13,x23,x24,x25,x159000,x159001=>if x25 < x24 then (if 0 ≤ x25 then (if x25 < (x23.length : Int) then (if 0 ≤ (rd x23 x25) then (if (rd x23 x25) < (x159001.length : Int) then (if (Go.bits .andNot .i64 (rd x159001 (rd x23 x25)) x4) = 0 then (impl_IsOrder.l1 k x4 x11 x12 x13 x23 x24 (wrap64 (x25 + 1)) x159000 x159001) else (some false)) else (none)) else (none)) else (none)) else (none)) else (impl_IsOrder.l0 k x11 x12 (wrap64 (x13 + 1)) x159000 x159001)
end
def impl_IsOrder.f (k : Nat) (a0_0 : Int) (l0_1 : List Int) : Option (Bool) := (impl_IsRelation.f k a0_0 l0_1).bind fun t159 => (if t159 = true then (impl_IsOrder.l0 k l0_1 (l0_1.length : Int) 0 a0_0 l0_1) else (some false))
set_option maxHeartbeats 8000000 in
set_option maxRecDepth 100000 in
theorem impl_IsOrder.calls (k : Nat) (a0_0 : Int) (A0_1 : Option Addr) (c0_1 : Nat) (l0_1 : List Int) (r : Bool) (w : World) (hr0_1 : Kd.C (Kd.int .i64) w A0_1 l0_1.length l0_1) (hc0_1 : l0_1.length ≤ c0_1) (hT : TabOK w) (h : impl_IsOrder.f k a0_0 l0_1 = some r) :
 Calls Tryd.prog 32 #[.agg #[.int .i64 a0_0,.slice A0_1 l0_1.length c0_1]] w fun e w'=>e = .returned (.bool r) ∧ Below w.heap.size w w':=by
 have hu26:=Tryd.underlying26;have HT:=A_ hT;clear hT;have HR0_1:=A_ hr0_1;have HC0_1:=A_ hc0_1;clear hr0_1 hc0_1;have HB:=A_ (Below.refl w.heap.size w);have H : ((impl_IsRelation.f k a0_0 l0_1).bind fun t159=>(if t159 = true then (impl_IsOrder.l0 k l0_1 (l0_1.length : Int) 0 a0_0 l0_1) else (some false))) = some r:=h;clear h;replace H:=Option.bind_eq_some_iff.mp H;obtain ⟨t159,A20,H⟩:=H;replace H : (if t159 = true then (impl_IsOrder.l0 k l0_1 (l0_1.length : Int) 0 a0_0 l0_1) else (some false)) = some r:=H;have A2:=A_ A20;clear A20;by_cases c3 : t159 = true
 ·subst c3;have H1 : (impl_IsOrder.l0 k l0_1 (l0_1.length : Int) 0 a0_0 l0_1) = some r:=by rw [if_pos rfl] at H;exact H
  clear H;have H:=H1;clear H1;have H':=A_ H;clear H;go_enter Tryd.func32,Tryd.ntmps32
  go_wp2_with (first|((with_reducible refine gate_dst (N:=1) rfl ?_);refine box_event ?hg (N:=1) ?hd (cs:=#[.int .i64 a0_0,.slice A0_1 l0_1.length c0_1]) (t:=26) ?hr ?_;(case hd=>rfl);(case hg=>rfl);(case hr=>first|(go_simp;done)|(go_simp;rfl));intro gb158 hg w4 hbox hb;have BK158:=A_ (hbox);have GW158:=A_ ((by rw [hg];exact (below_size bb_) : w.heap.size ≤ gb158));have GE158:=A_ ((by rw [hg];exact (below_size bb_) : w.heap.size ≤ gb158));replace HB:=A_ (below_step bb_ hb);clear hb hbox hg;have hcz5_0 : w4.cell? ⟨gb158,0,none⟩ = some (.int .i64 a0_0):=blk_cell BK158.out 0;have hcz5_1 : w4.cell? ⟨gb158,1,none⟩ = some (.slice A0_1 l0_1.length c0_1):=blk_cell BK158.out 1;have hfz5_0:=blk_frozen BK158.out 0;have hfz5_1:=blk_frozen BK158.out 1)|((with_reducible refine gate_callee (f:=102) rfl ?_);refine goesL_ (some 8) rfl rfl Tryd.func102 (by kernel_rfl) rfl #[.agg #[.int .i64 a0_0,.slice A0_1 l0_1.length c0_1]] rfl au_ ?_;(with_reducible refine (impl_IsRelation.calls k a0_0 _ _ l0_1 true _ ?side1 ?side2 A2.out).mono ?_);(case side1=>exact cl_ (Kd.C_below HR0_1.out HB.out));(case side2=>exact HC0_1.out);rintro e w6 ⟨rfl,hb⟩;refine ⟨_,rfl,?_⟩;replace BK158:=bz BK158 hb;replace HB:=A_ (below_step bb_ hb);(try clear hb);(try clear hb2);(try clear hk);(try clear hi);have hcz7_0 : w6.cell? ⟨gb158,0,none⟩ = some (.int .i64 a0_0):=blk_cell BK158.out 0;have hcz7_1 : w6.cell? ⟨gb158,1,none⟩ = some (.slice A0_1 l0_1.length c0_1):=blk_cell BK158.out 1;have hfz7_0:=blk_frozen BK158.out 0;have hfz7_1:=blk_frozen BK158.out 1))
  go_loopg [13] k (fun kq v13 w'=>∃ (x13_1 : Int),v13 = .int .i64 x13_1 ∧ Aside0 (impl_IsOrder.l0 kq l0_1 (l0_1.length : Int) x13_1 a0_0 l0_1 = some r) ∧ Aside0 (kq ≤ k) ∧ Aside0 (w'.heap[gb158]? = some (.cells #[.int .i64 a0_0,(.slice A0_1 l0_1.length c0_1)] 26 (0,0))) ∧ Aside0 (Below w.heap.size w w'))
  case atStart=>exact ⟨(0),(by first|rfl|(simp;done)|(simp [*];done)),H',⟨Nat.le_refl _⟩,⟨bl_ BK158⟩,⟨bb_⟩⟩
  case round =>
   clear H';try clear c1
   try clear p2
   try clear c3
   try clear hcz5_0
   try clear hcz5_1
   try clear hcz7_0
   try clear hcz7_1
   try clear hfz5_0
   try clear hfz5_1
   try clear hfz7_0
   try clear hfz7_1
   obtain ⟨x13_1,rfl,HA,HK1,BK158,HB⟩:=hrel;cases gk with
   | zero=>exact absurd HA.out (by simp [impl_IsOrder.l0])
   | succ k1 =>
    have H:=HA.out;clear HA;simp only [impl_IsOrder.l0] at H
    by_cases c8 : x13_1 < (l0_1.length : Int)
    ·rw [if_pos c8] at H;have c8b0 : decide (x13_1 < (l0_1.length : Int)) = true:=decide_eq_true c8;clear c8;by_cases c9 : 0 ≤ x13_1
     ·rw [if_pos c9] at H;have c9b0 : decide (0 ≤ x13_1) = true:=decide_eq_true c9;clear c9;by_cases c10 : x13_1 < (l0_1.length : Int)
      ·rw [if_pos c10] at H;have c10b0 : decide (x13_1 < (l0_1.length : Int)) = true:=decide_eq_true c10;clear c10;replace H:=Option.bind_eq_some_iff.mp H;obtain ⟨t161,A110,H⟩:=H;replace H : (if t161 = true then (some false) else ((impl_members.f k1 (rd l0_1 x13_1)).bind fun t162=>(impl_IsOrder.l1 k1 (rd l0_1 x13_1) l0_1 (l0_1.length : Int) x13_1 t162 (t162.length : Int) 0 a0_0 l0_1))) = some r:=H;have A11:=A_ A110;clear A110;by_cases c12 : t161 = true
       ·subst c12;have H1 : (some false) = some r:=by rw [if_pos rfl] at H;exact H
        clear H;have H:=H1;clear H1;obtain rfl:=Option.some.inj H;have p160 : 0 ≤ (x13_1 : Int):=of_decide_eq_true (by first|(with_reducible assumption)|assumption);have q160 : x13_1 < (l0_1.length : Int):=of_decide_eq_true (by first|(with_reducible assumption)|assumption);obtain ⟨ad160,e160,hx160_0⟩:=Kd.at_int HR0_1.out x13_1 p160 q160;cases e160
        (try replace hx160_0:=(HB.out.cell (World.block_lt_of_cell? w _ hx160_0)).trans hx160_0);replace p160:=eq_true p160;replace q160:=eq_true q160;have hcz13_0 : wr.cell? ⟨gb158,0,none⟩ = some (.int .i64 a0_0):=blk_cell BK158.out 0;have hcz13_1 : wr.cell? ⟨gb158,1,none⟩ = some (.slice (some ad160) l0_1.length c0_1):=blk_cell BK158.out 1;have hfz13_0:=blk_frozen BK158.out 0;have hfz13_1:=blk_frozen BK158.out 1;go_wp2_with (first|((with_reducible refine gate_callee (f:=87) rfl ?_);refine goesL_ (some 21) rfl rfl Tryd.func87 (by kernel_rfl) rfl #[.agg #[.int .i64 a0_0,.slice (some ad160) l0_1.length c0_1],.int .i64 x13_1,.int .i64 x13_1] rfl au_ ?_;(with_reducible refine (impl_Order_better.calls a0_0 _ _ l0_1 x13_1 x13_1 true _ ?side1 ?side2 A11.out).mono ?_);(case side1=>exact cl_ (Kd.C_below HR0_1.out HB.out));(case side2=>exact HC0_1.out);rintro e w14 ⟨rfl,hb⟩;refine ⟨_,rfl,?_⟩;replace BK158:=bz BK158 hb;replace HB:=A_ (below_step bb_ hb);(try clear hb);(try clear hb2);(try clear hk);(try clear hi)))
        go_ret
        exact ⟨by first|rfl|(simp [errW_none,errW_some] <;> rfl)|(simp [*,errW_none,errW_some] <;> rfl),bb_⟩
       ·replace c12:=Bool.eq_false_iff.mpr c12;subst c12;have H1 : ((impl_members.f k1 (rd l0_1 x13_1)).bind fun t162=>(impl_IsOrder.l1 k1 (rd l0_1 x13_1) l0_1 (l0_1.length : Int) x13_1 t162 (t162.length : Int) 0 a0_0 l0_1)) = some r:=by rw [if_neg (show ¬ (false = true) by decide)] at H;exact H
        clear H;have H:=H1;clear H1;replace H:=Option.bind_eq_some_iff.mp H;obtain ⟨t162,A150,H⟩:=H;replace H : (impl_IsOrder.l1 k1 (rd l0_1 x13_1) l0_1 (l0_1.length : Int) x13_1 t162 (t162.length : Int) 0 a0_0 l0_1) = some r:=H;have A15:=A_ A150;clear A150;have H':=A_ H;clear H;have p160 : 0 ≤ (x13_1 : Int):=of_decide_eq_true (by first|(with_reducible assumption)|assumption);have q160 : x13_1 < (l0_1.length : Int):=of_decide_eq_true (by first|(with_reducible assumption)|assumption);obtain ⟨ad160,e160,hx160_0⟩:=Kd.at_int HR0_1.out x13_1 p160 q160;cases e160
        (try replace hx160_0:=(HB.out.cell (World.block_lt_of_cell? w _ hx160_0)).trans hx160_0);replace p160:=eq_true p160;replace q160:=eq_true q160;have hcz16_0 : wr.cell? ⟨gb158,0,none⟩ = some (.int .i64 a0_0):=blk_cell BK158.out 0;have hcz16_1 : wr.cell? ⟨gb158,1,none⟩ = some (.slice (some ad160) l0_1.length c0_1):=blk_cell BK158.out 1;have hfz16_0:=blk_frozen BK158.out 0;have hfz16_1:=blk_frozen BK158.out 1;go_wp2_with (first|((with_reducible refine gate_callee (f:=87) rfl ?_);refine goesL_ (some 21) rfl rfl Tryd.func87 (by kernel_rfl) rfl #[.agg #[.int .i64 a0_0,.slice (some ad160) l0_1.length c0_1],.int .i64 x13_1,.int .i64 x13_1] rfl au_ ?_;(with_reducible refine (impl_Order_better.calls a0_0 _ _ l0_1 x13_1 x13_1 false _ ?side1 ?side2 A11.out).mono ?_);(case side1=>exact cl_ (Kd.C_below HR0_1.out HB.out));(case side2=>exact HC0_1.out);rintro e w17 ⟨rfl,hb⟩;refine ⟨_,rfl,?_⟩;replace BK158:=bz BK158 hb;replace HB:=A_ (below_step bb_ hb);(try clear hb);(try clear hb2);(try clear hk);(try clear hi))|((with_reducible refine gate_callee (f:=106) rfl ?_);refine goesL_ (some 23) rfl rfl Tryd.func106 (by kernel_rfl) rfl #[.int .i64 (rd l0_1 x13_1)] rfl au_ ?_;(with_reducible refine (impl_members.calls k1 (rd l0_1 x13_1) t162 _ ?side1 A15.out).mono ?_);(case side1=>first|exact HT.out|exact HT.out.below bb_|(repeat (first|exact HT.out|apply TabOK.drewN|apply TabOK.drew|apply TabOK.alloc)));rintro e w18 ⟨v163,rfl,ho0,hb⟩;refine ⟨_,rfl,?_⟩;have HO164:=A_ (Kd.R_lower ho0 (below_size bb_));replace BK158:=bz BK158 hb;replace HB:=A_ (below_step bb_ hb);(try clear hb);(try clear hb2);(try clear hk);(try clear hi);(try clear ho0);obtain ⟨Ao19,co19,eo19⟩:=Kd.R_slice HO164.out;subst eo19))
        go_loopg [25] k1 (fun kq v25 w'=>∃ (x25_2 : Int),v25 = .int .i64 x25_2 ∧ Aside0 (impl_IsOrder.l1 kq (rd l0_1 x13_1) l0_1 (l0_1.length : Int) x13_1 t162 (t162.length : Int) x25_2 a0_0 l0_1 = some r) ∧ Aside0 (kq ≤ k1) ∧ Aside0 (Kd.R (Kd.int .i64) 3 w' w.heap.size (fun _=>True) (.slice Ao19 t162.length co19) t162) ∧ Aside0 (w'.heap[gb158]? = some (.cells #[.int .i64 a0_0,(.slice (some ad160) l0_1.length c0_1)] 26 (0,0))) ∧ Aside0 (Below w.heap.size w w'))
        case atStart=>exact ⟨(0),(by first|rfl|(simp;done)|(simp [*];done)),H',⟨Nat.le_refl _⟩,⟨by (with_reducible repeat (first|apply Kd.R_alloc|apply Kd.R_drewN|apply Kd.R_drew));exact HO164.out⟩,⟨bl_ BK158⟩,⟨bb_⟩⟩
        case round =>
         clear H';try clear c1
         try clear p1
         try clear q1
         try clear hx1
         try clear p2
         try clear c3
         try clear c8
         try clear c8b0
         try clear c9
         try clear c9b0
         try clear c10
         try clear c10b0
         try clear c12
         try clear p16
         try clear q16
         try clear hx16
         try clear hcz13_0
         try clear hcz13_1
         try clear hcz16_0
         try clear hcz16_1
         try clear hcz5_0
         try clear hcz5_1
         try clear hcz7_0
         try clear hcz7_1
         try clear hfz13_0
         try clear hfz13_1
         try clear hfz16_0
         try clear hfz16_1
         try clear hfz5_0
         try clear hfz5_1
         try clear hfz7_0
         try clear hfz7_1
         try clear hx160_0
         try clear p160
         try clear p2
         try clear q160
         obtain ⟨x25_2,rfl,HA,HK2,HO_23,BK158,HB⟩:=hrel;cases gk with
         | zero=>exact absurd HA.out (by simp [impl_IsOrder.l1])
         | succ k2 =>
          have H:=HA.out;clear HA;simp only [impl_IsOrder.l1] at H
          by_cases c20 : x25_2 < (t162.length : Int)
          ·rw [if_pos c20] at H;have c20b0 : decide (x25_2 < (t162.length : Int)) = true:=decide_eq_true c20;clear c20;by_cases c21 : 0 ≤ x25_2
           ·rw [if_pos c21] at H;have c21b0 : decide (0 ≤ x25_2) = true:=decide_eq_true c21;clear c21;by_cases c22 : x25_2 < (t162.length : Int)
            ·rw [if_pos c22] at H;have c22b0 : decide (x25_2 < (t162.length : Int)) = true:=decide_eq_true c22;clear c22;by_cases c23 : 0 ≤ (rd t162 x25_2)
             ·rw [if_pos c23] at H;have c23b0 : decide (0 ≤ (rd t162 x25_2)) = true:=decide_eq_true c23;clear c23;by_cases c24 : (rd t162 x25_2) < (l0_1.length : Int)
              ·rw [if_pos c24] at H;have c24b0 : decide ((rd t162 x25_2) < (l0_1.length : Int)) = true:=decide_eq_true c24;clear c24;by_cases c25 : (Go.bits .andNot .i64 (rd l0_1 (rd t162 x25_2)) (rd l0_1 x13_1)) = 0
               ·rw [if_pos c25] at H;have c25b0 : ((Go.bits .andNot .i64 (rd l0_1 (rd t162 x25_2)) (rd l0_1 x13_1)) == 0) = true:=beq_iff_eq.mpr c25;have c25b1 : ((Go.bits .andNot .i64 (rd l0_1 (rd t162 x25_2)) (rd l0_1 x13_1)) != 0) = false:=bne_eq_false_iff_eq.mpr c25;clear c25;have H':=A_ H;clear H;have p165 : 0 ≤ (x25_2 : Int):=of_decide_eq_true (by first|(with_reducible assumption)|assumption);have q165 : x25_2 < (t162.length : Int):=of_decide_eq_true (by first|(with_reducible assumption)|assumption);obtain ⟨ad165,e165,hx165_0⟩:=Kd.at_int (Kd.R_reads' HO_23.out).2.2 x25_2 p165 q165;cases e165
                replace p165:=eq_true p165;replace q165:=eq_true q165;have hcz26_0 : wr.cell? ⟨gb158,0,none⟩ = some (.int .i64 a0_0):=blk_cell BK158.out 0;have hcz26_1 : wr.cell? ⟨gb158,1,none⟩ = some (.slice (some ad160) l0_1.length c0_1):=blk_cell BK158.out 1;have hfz26_0:=blk_frozen BK158.out 0;have hfz26_1:=blk_frozen BK158.out 1;have p166 : 0 ≤ ((rd t162 x25_2) : Int):=of_decide_eq_true (by first|(with_reducible assumption)|assumption);have q166 : (rd t162 x25_2) < (l0_1.length : Int):=of_decide_eq_true (by first|(with_reducible assumption)|assumption);obtain ⟨ad166,e166,hx166_0⟩:=Kd.at_int HR0_1.out (rd t162 x25_2) p166 q166;obtain rfl : ad160 = ad166:=(by injection e166);(try replace hx166_0:=(HB.out.cell (World.block_lt_of_cell? w _ hx166_0)).trans hx166_0);replace p166:=eq_true p166;replace q166:=eq_true q166;go_wp2
                go_roundg k2
                case measure=>have:=HK1.out;have:=HK2.out;omega
                case rel=>exact ⟨(wrap64 (x25_2 + 1)),(by first|rfl|(simp;done)|(simp [*];done)),H',⟨by have:=HK1.out;have:=HK2.out;omega⟩,⟨by (with_reducible repeat (first|apply Kd.R_alloc|apply Kd.R_drewN|apply Kd.R_drew));exact HO_23.out⟩,⟨bl_ BK158⟩,⟨bb_⟩⟩
               ·rw [if_neg c25] at H;have c25b0 : ((Go.bits .andNot .i64 (rd l0_1 (rd t162 x25_2)) (rd l0_1 x13_1)) == 0) = false:=beq_eq_false_iff_ne.mpr c25;have c25b1 : ((Go.bits .andNot .i64 (rd l0_1 (rd t162 x25_2)) (rd l0_1 x13_1)) != 0) = true:=bne_iff_ne.mpr c25;obtain rfl:=Option.some.inj H;have p165 : 0 ≤ (x25_2 : Int):=of_decide_eq_true (by first|(with_reducible assumption)|assumption);have q165 : x25_2 < (t162.length : Int):=of_decide_eq_true (by first|(with_reducible assumption)|assumption);obtain ⟨ad165,e165,hx165_0⟩:=Kd.at_int (Kd.R_reads' HO_23.out).2.2 x25_2 p165 q165;cases e165
                replace p165:=eq_true p165;replace q165:=eq_true q165;have hcz27_0 : wr.cell? ⟨gb158,0,none⟩ = some (.int .i64 a0_0):=blk_cell BK158.out 0;have hcz27_1 : wr.cell? ⟨gb158,1,none⟩ = some (.slice (some ad160) l0_1.length c0_1):=blk_cell BK158.out 1;have hfz27_0:=blk_frozen BK158.out 0;have hfz27_1:=blk_frozen BK158.out 1;have p166 : 0 ≤ ((rd t162 x25_2) : Int):=of_decide_eq_true (by first|(with_reducible assumption)|assumption);have q166 : (rd t162 x25_2) < (l0_1.length : Int):=of_decide_eq_true (by first|(with_reducible assumption)|assumption);obtain ⟨ad166,e166,hx166_0⟩:=Kd.at_int HR0_1.out (rd t162 x25_2) p166 q166;obtain rfl : ad160 = ad166:=(by injection e166);(try replace hx166_0:=(HB.out.cell (World.block_lt_of_cell? w _ hx166_0)).trans hx166_0);replace p166:=eq_true p166;replace q166:=eq_true q166;go_wp2
                go_ret
                exact ⟨by first|rfl|(simp [errW_none,errW_some] <;> rfl)|(simp [*,errW_none,errW_some] <;> rfl),bb_⟩
              ·rw [if_neg c24] at H;exact absurd H (by simp)
             ·rw [if_neg c23] at H;exact absurd H (by simp)
            ·rw [if_neg c22] at H;exact absurd H (by simp)
           ·rw [if_neg c21] at H;exact absurd H (by simp)
          ·rw [if_neg c20] at H;have c20b0 : decide (x25_2 < (t162.length : Int)) = false:=decide_eq_false c20;clear c20;have H':=A_ H;clear H;go_wp2
           go_roundg k2
           case measure=>have:=HK1.out;have:=HK2.out;omega
           case rel=>exact ⟨(wrap64 (x13_1 + 1)),(by first|rfl|(simp;done)|(simp [*];done)),H',⟨by have:=HK1.out;have:=HK2.out;omega⟩,⟨bl_ BK158⟩,⟨bb_⟩⟩
      ·rw [if_neg c10] at H;exact absurd H (by simp)
     ·rw [if_neg c9] at H;exact absurd H (by simp)
    ·rw [if_neg c8] at H;have c8b0 : decide (x13_1 < (l0_1.length : Int)) = false:=decide_eq_false c8;clear c8;obtain rfl:=Option.some.inj H;go_wp2
     go_ret
     exact ⟨by first|rfl|(simp [errW_none,errW_some] <;> rfl)|(simp [*,errW_none,errW_some] <;> rfl),bb_⟩
 ·replace c3:=Bool.eq_false_iff.mpr c3;subst c3;have H1 : (some false) = some r:=by rw [if_neg (show ¬ (false = true) by decide)] at H;exact H
  clear H;have H:=H1;clear H1;obtain rfl:=Option.some.inj H;go_enter Tryd.func32,Tryd.ntmps32
  go_wp2_with (first|((with_reducible refine gate_dst (N:=1) rfl ?_);refine box_event ?hg (N:=1) ?hd (cs:=#[.int .i64 a0_0,.slice A0_1 l0_1.length c0_1]) (t:=26) ?hr ?_;(case hd=>rfl);(case hg=>rfl);(case hr=>first|(go_simp;done)|(go_simp;rfl));intro gb158 hg w28 hbox hb;have BK158:=A_ (hbox);have GW158:=A_ ((by rw [hg];exact (below_size bb_) : w.heap.size ≤ gb158));have GE158:=A_ ((by rw [hg];exact (below_size bb_) : w.heap.size ≤ gb158));replace HB:=A_ (below_step bb_ hb);clear hb hbox hg;have hcz29_0 : w28.cell? ⟨gb158,0,none⟩ = some (.int .i64 a0_0):=blk_cell BK158.out 0;have hcz29_1 : w28.cell? ⟨gb158,1,none⟩ = some (.slice A0_1 l0_1.length c0_1):=blk_cell BK158.out 1;have hfz29_0:=blk_frozen BK158.out 0;have hfz29_1:=blk_frozen BK158.out 1)|((with_reducible refine gate_callee (f:=102) rfl ?_);refine goesL_ (some 8) rfl rfl Tryd.func102 (by kernel_rfl) rfl #[.agg #[.int .i64 a0_0,.slice A0_1 l0_1.length c0_1]] rfl au_ ?_;(with_reducible refine (impl_IsRelation.calls k a0_0 _ _ l0_1 false _ ?side1 ?side2 A2.out).mono ?_);(case side1=>exact cl_ (Kd.C_below HR0_1.out HB.out));(case side2=>exact HC0_1.out);rintro e w30 ⟨rfl,hb⟩;refine ⟨_,rfl,?_⟩;replace BK158:=bz BK158 hb;replace HB:=A_ (below_step bb_ hb);(try clear hb);(try clear hb2);(try clear hk);(try clear hi)))
  go_ret
  exact ⟨by first|rfl|(simp [errW_none,errW_some] <;> rfl)|(simp [*,errW_none,errW_some] <;> rfl),bb_⟩
def impl_Order_mirror_1.f (a0 : Int) (a1 : Int) (a2_0 : Int) (l2_1 : List Int) : Option (Bool) := (impl_Order_better.f a2_0 l2_1 a1 a0).bind fun t367 => (some t367)
set_option maxHeartbeats 8000000 in
set_option maxRecDepth 100000 in
theorem impl_Order_mirror_1.calls (a0 : Int) (a1 : Int) (g2_ : Nat) (a2_0 : Int) (A2_1 : Option Addr) (c2_1 : Nat) (l2_1 : List Int) (r : Bool) (w : World) (hb2 : w.heap[g2_]? = some (.cells #[.int .i64 a2_0,.slice A2_1 l2_1.length c2_1] 26 (0,0))) (hr2_1 : Kd.C (Kd.int .i64) w A2_1 l2_1.length l2_1) (hc2_1 : l2_1.length ≤ c2_1) (h : impl_Order_mirror_1.f a0 a1 a2_0 l2_1 = some r) :
 Calls Tryd.prog 155 #[.int .i64 a0,.int .i64 a1,.pointer (some ⟨g2_,0,none⟩)] w fun e w'=>e = .returned (.bool r) ∧ Below w.heap.size w w':=by
 have hu26:=Tryd.underlying26;have HR2_1:=A_ hr2_1;have HC2_1:=A_ hc2_1;clear hr2_1 hc2_1;have BK366:=A_ hb2;clear hb2;have HB:=A_ (Below.refl w.heap.size w);have H : ((impl_Order_better.f a2_0 l2_1 a1 a0).bind fun t367=>(some t367)) = some r:=h;clear h;replace H:=Option.bind_eq_some_iff.mp H;obtain ⟨t367,A40,H⟩:=H;replace H : (some t367) = some r:=H;have A4:=A_ A40;clear A40;obtain rfl:=Option.some.inj H;have hcz5_0 : w.cell? ⟨g2_,0,none⟩ = some (.int .i64 a2_0):=blk_cell BK366.out 0;have hcz5_1 : w.cell? ⟨g2_,1,none⟩ = some (.slice A2_1 l2_1.length c2_1):=blk_cell BK366.out 1;have hfz5_0:=blk_frozen BK366.out 0;have hfz5_1:=blk_frozen BK366.out 1;go_enter Tryd.func155,Tryd.ntmps155
 go_wp2_with (first|((with_reducible refine gate_callee (f:=87) rfl ?_);refine goesL_ (some 9) rfl rfl Tryd.func87 (by kernel_rfl) rfl #[.agg #[.int .i64 a2_0,.slice A2_1 l2_1.length c2_1],.int .i64 a1,.int .i64 a0] rfl au_ ?_;(with_reducible refine (impl_Order_better.calls a2_0 _ _ l2_1 a1 a0 t367 _ ?side1 ?side2 A4.out).mono ?_);(case side1=>repeat (first|exact HR2_1.out|(with_reducible refine Kd.C_alloc ?_ _)|(with_reducible refine Kd.C_drewN ?_ _)|(with_reducible refine Kd.C_drew ?_)));(case side2=>exact HC2_1.out);rintro e w6 ⟨rfl,hb⟩;refine ⟨_,rfl,?_⟩;replace BK366:=bz BK366 hb;replace HB:=A_ (below_step bb_ hb);(try clear hb);(try clear hb2);(try clear hk);(try clear hi)))
 go_ret
 exact ⟨by first|rfl|(simp [errW_none,errW_some] <;> rfl)|(simp [*,errW_none,errW_some] <;> rfl),bb_⟩
def impl_Order_mirror.f (k : Nat) (a0_0 : Int) (l0_1 : List Int) : Option (Int × List Int) := (impl_relation.f k a0_0 (fun x0_ x1_ => impl_Order_mirror_1.f x0_ x1_ a0_0 l0_1)).bind fun bt370 => (some (bt370.1, bt370.2))
set_option maxHeartbeats 8000000 in
set_option maxRecDepth 100000 in
theorem impl_Order_mirror.calls (k : Nat) (a0_0 : Int) (A0_1 : Option Addr) (c0_1 : Nat) (l0_1 : List Int) (r1 : Int) (r2 : List Int) (w : World) (hr0_1 : Kd.C (Kd.int .i64) w A0_1 l0_1.length l0_1) (hc0_1 : l0_1.length ≤ c0_1) (h : impl_Order_mirror.f k a0_0 l0_1 = some (r1,r2)) :
 Calls Tryd.prog 103 #[.agg #[.int .i64 a0_0,.slice A0_1 l0_1.length c0_1]] w fun e w'=>∃ v1_ : Value,e = .returned (.agg #[.int .i64 r1,v1_]) ∧ Kd.R (Kd.int .i64) 3 w' w.heap.size (fun _=>True) v1_ r2 ∧ Below w.heap.size w w':=by
 have hu26:=Tryd.underlying26;have HR0_1:=A_ hr0_1;have HC0_1:=A_ hc0_1;clear hr0_1 hc0_1;have HB:=A_ (Below.refl w.heap.size w);have H : ((impl_relation.f k a0_0 (fun x0_ x1_=>impl_Order_mirror_1.f x0_ x1_ a0_0 l0_1)).bind fun bt370=>(some (bt370.1,bt370.2))) = some (r1,r2):=h;clear h;replace H:=Option.bind_eq_some_iff.mp H;obtain ⟨⟨t370,t371⟩,A20,H⟩:=H;replace H : (some (t370,t371)) = some (r1,r2):=H;have A2:=A_ A20;clear A20;simp only [Option.some.injEq,Prod.mk.injEq] at H
 obtain ⟨rfl,rfl⟩:=H;go_enter Tryd.func103,Tryd.ntmps103
 go_wp2_with (first|((with_reducible refine gate_dst (N:=1) rfl ?_);refine box_event ?hg (N:=1) ?hd (cs:=#[.int .i64 a0_0,.slice A0_1 l0_1.length c0_1]) (t:=26) ?hr ?_;(case hd=>rfl);(case hg=>rfl);(case hr=>first|(go_simp;done)|(go_simp;rfl));intro gb368 hg w3 hbox hb;have BK368:=A_ (hbox);have GW368:=A_ ((by rw [hg];exact (below_size bb_) : w.heap.size ≤ gb368));have GE368:=A_ ((by rw [hg];exact (below_size bb_) : w.heap.size ≤ gb368));replace HB:=A_ (below_step bb_ hb);clear hb hbox hg)|((with_reducible refine gate_dst (N:=2) rfl ?_);refine box_event ?hg (N:=2) ?hd (cs:=#[.int .i64 0,.slice none 0 0]) (t:=26) ?hr ?_;(case hd=>rfl);(case hg=>rfl);(case hr=>first|(go_simp;done)|(go_simp;rfl));intro gb369 hg w4 hbox hb;have BK369:=A_ (hbox);have GW369:=A_ ((by rw [hg];exact (below_size bb_) : w.heap.size ≤ gb369));have GE369:=A_ ((by rw [hg];exact (below_size bb_) : w.heap.size ≤ gb369));replace HB:=A_ (below_step bb_ hb);have NB368_369:=A_ ((by rw [hg];exact Nat.ne_of_lt (blk_lt (bl_ BK368)) : gb368 ≠ gb369));have NB369_368:=A_ ((by rw [hg];exact Nat.ne_of_gt (blk_lt (bl_ BK368)) : gb369 ≠ gb368));replace BK368:=bz BK368 hb;clear hb hbox hg;have hnb5:=NB368_369.out;have hnc5:=NB369_368.out;have hcz6_0 : w4.cell? ⟨gb368,0,none⟩ = some (.int .i64 a0_0):=blk_cell BK368.out 0;have hcz6_1 : w4.cell? ⟨gb368,1,none⟩ = some (.slice A0_1 l0_1.length c0_1):=blk_cell BK368.out 1;have hfz6_0:=blk_frozen BK368.out 0;have hfz6_1:=blk_frozen BK368.out 1)|((with_reducible refine gate_callee (f:=85) rfl ?_);refine goesL_ (some 6) rfl rfl Tryd.func85 (by kernel_rfl) rfl #[.int .i64 a0_0,.func (.func 155) #[] #[.pointer (some ⟨gb368,0,none⟩)]] rfl au_ ?_;(with_reducible refine (impl_relation.calls k a0_0 (fun x0_ x1_=>impl_Order_mirror_1.f x0_ x1_ a0_0 l0_1) t370 t371 _ _ _ ?side1 ?side2 A2.out).mono ?_);(case side1=>exact fun a_ w_=>enters_of Tryd.func155 (by kernel_rfl) rfl a_ w_);(case side2=>(intro W_ x0_ x1_ r_ hB_ h_;refine Calls.mono (impl_Order_mirror_1.calls x0_ x1_ gb368 a0_0 _ _ l0_1 r_ W_ (blk_below (g:=gb368) (o:=.cells #[.int .i64 a0_0,.slice A0_1 l0_1.length c0_1] 26 (0,0)) (bl_ BK368) hB_) (Kd.C_below (by exact cl_ (Kd.C_below HR0_1.out HB.out)) hB_) (by exact HC0_1.out) h_) ?_;rintro e_ w_ ⟨h1_,h2_⟩;exact ⟨h1_,h2_⟩));rintro e w7 ⟨v372,rfl,ho0,hb⟩;refine ⟨_,rfl,?_⟩;have HO373:=A_ (Kd.R_lower ho0 (below_size bb_));replace BK368:=bz BK368 hb;replace BK369:=bz BK369 hb;replace HB:=A_ (below_step bb_ hb);(try clear hb);(try clear hb2);(try clear hk);(try clear hi);(try clear ho0);have hcz8_0 : w7.cell? ⟨gb369,0,none⟩ = some (.int .i64 0):=blk_cell BK369.out 0;have hcz8_1 : w7.cell? ⟨gb369,1,none⟩ = some (.slice none 0 0):=blk_cell BK369.out 1;have hfz8_0:=blk_frozen BK369.out 0;have hfz8_1:=blk_frozen BK369.out 1;obtain ⟨Ao9,co9,eo9⟩:=Kd.R_slice HO373.out;subst eo9))
 refine bodyPost_ret (results_cell_row rfl _ _ gb369 26 #[.int .i64 t370,.slice Ao9 t371.length co9] (0,0) _ rfl (by (with_reducible repeat (first|refine blk_drewN ?_ _|refine blk_drew ?_|refine blk_alloc ?_ _));refine blk_put (cs:=#[.int .i64 t370,.slice none 0 0]) ?_ 1 _ rfl;(with_reducible repeat (first|refine blk_drewN ?_ _|refine blk_drew ?_|refine blk_alloc ?_ _));refine blk_put (cs:=#[.int .i64 0,.slice none 0 0]) ?_ 0 _ rfl;(with_reducible repeat (first|refine blk_drewN ?_ _|refine blk_drew ?_|refine blk_alloc ?_ _));exact BK369.out) Tryd.underlying26 rfl (by kernel_rfl)) rfl ?_
 exact ⟨_,by first|rfl|(simp [errW_none,errW_some] <;> rfl)|(simp [*,errW_none,errW_some] <;> rfl),by (with_reducible repeat (first|apply Kd.R_alloc|apply Kd.R_drewN|apply Kd.R_drew));exact Kd.R_mono (Kd.R_far (p:=⟨gb369,1,none⟩) (Kd.R_far (p:=⟨gb369,0,none⟩) (Kd.R_types HO373.out BK369.out (by decide)) (fun _ hk=>hk.2) (.int .i64 t370)) (fun _ hk=>hk.2) (.slice Ao9 t371.length co9)) (fun _ hk=>trivial),bb_⟩
def impl_Order_all.f (a0_0 : Int) (l0_1 : List Int) : Option (Int) := if 0 ≤ a0_0 then (some (wrap64 ((shl .i64 1 a0_0) - 1))) else (none)
set_option maxHeartbeats 8000000 in
set_option maxRecDepth 100000 in
theorem impl_Order_all.calls (a0_0 : Int) (A0_1 : Option Addr) (c0_1 : Nat) (l0_1 : List Int) (r : Int) (w : World) (hr0_1 : Kd.C (Kd.int .i64) w A0_1 l0_1.length l0_1) (hc0_1 : l0_1.length ≤ c0_1) (h : impl_Order_all.f a0_0 l0_1 = some r) :
 Calls Tryd.prog 118 #[.agg #[.int .i64 a0_0,.slice A0_1 l0_1.length c0_1]] w fun e w'=>e = .returned (.int .i64 r) ∧ Below w.heap.size w w':=by
 have hu26:=Tryd.underlying26;have HR0_1:=A_ hr0_1;have HC0_1:=A_ hc0_1;clear hr0_1 hc0_1;have HB:=A_ (Below.refl w.heap.size w);have H : (if 0 ≤ a0_0 then (some (wrap64 ((shl .i64 1 a0_0) - 1))) else (none)) = some r:=h;clear h;by_cases c2 : 0 ≤ a0_0
 ·rw [if_pos c2] at H;have c2b0:=eq_true c2;have c2b1 : decide (0 ≤ a0_0) = true:=decide_eq_true c2;clear c2;obtain ⟨ji3,hji3⟩ : ∃ j_ : Int,(shl .i64 1 a0_0) = j_:=⟨_,rfl⟩;replace H : (some (wrap64 ((ji3) - 1))) = some r:=by first|(rw [hji3] at H;exact H)|(simp only [hji3] at H ⊢;exact H)
  have hji3_ : (IntKind.i64.wrap (1 * 2 ^ min a0_0.toNat 64)) = ji3:=hji3;have hji3z : a0_0 ≤ 64 → (IntKind.i64.wrap (1 * 2 ^ a0_0.toNat)) = ji3:=shl_small hji3;have hji3u : (IntKind.i64.wrap (2 ^ min a0_0.toNat 64)) = ji3:=by have h_:=hji3_;rw [Int.one_mul] at h_;exact h_
  have hji3v : a0_0 ≤ 64 → (IntKind.i64.wrap (2 ^ a0_0.toNat)) = ji3:=fun hle_=>by have h_:=hji3z hle_;rw [Int.one_mul] at h_;exact h_
  have hji3y : (wrap64 (1 * 2 ^ min a0_0.toNat 64)) = ji3:=(i64_w _).symm.trans hji3_;have hji3x : a0_0 ≤ 64 → (wrap64 (1 * 2 ^ a0_0.toNat)) = ji3:=fun h_=>(i64_w _).symm.trans (hji3z h_)
  obtain rfl:=Option.some.inj H;go_enter Tryd.func118,Tryd.ntmps118
  go_wp2_with (first|((with_reducible refine gate_dst (N:=1) rfl ?_);refine box_event ?hg (N:=1) ?hd (cs:=#[.int .i64 a0_0,.slice A0_1 l0_1.length c0_1]) (t:=26) ?hr ?_;(case hd=>rfl);(case hg=>rfl);(case hr=>first|(go_simp;done)|(go_simp;rfl));intro gb374 hg w4 hbox hb;have BK374:=A_ (hbox);have GW374:=A_ ((by rw [hg];exact (below_size bb_) : w.heap.size ≤ gb374));have GE374:=A_ ((by rw [hg];exact (below_size bb_) : w.heap.size ≤ gb374));replace HB:=A_ (below_step bb_ hb);clear hb hbox hg;have hcz5_0 : w4.cell? ⟨gb374,0,none⟩ = some (.int .i64 a0_0):=blk_cell BK374.out 0;have hcz5_1 : w4.cell? ⟨gb374,1,none⟩ = some (.slice A0_1 l0_1.length c0_1):=blk_cell BK374.out 1;have hfz5_0:=blk_frozen BK374.out 0;have hfz5_1:=blk_frozen BK374.out 1))
  go_ret
  exact ⟨by first|rfl|(simp [errW_none,errW_some] <;> rfl)|(simp only [← hji3];first|rfl|(simp [errW_none,errW_some] <;> rfl))|(simp [*,errW_none,errW_some] <;> rfl),bb_⟩
 ·rw [if_neg c2] at H;exact absurd H (by simp)
def impl_Order_indifferent.l0 : Nat → List Int → Int → Int → Int → List Int → Int → List Int → Option (List Int)
 | 0,_,_,_,_,_,_,_=>none
 | k + 1,x3,x10,x11,x376000,x376001,x384000,x384001=>if x11 < x10 then ((impl_Order_all.f x376000 x376001).bind fun t384=>(if 0 ≤ x11 then (if x11 < (x376001.length : Int) then (if x11 < (x384001.length : Int) then (if x3.length < 17592186044416 then (impl_Order_indifferent.l0 k (x3 ++ [Go.bits .andNot .i64 (Go.bits .andNot .i64 (Go.bits .andNot .i64 t384 (rd x376001 x11)) (rd x384001 x11)) (shl .i64 1 x11)]) x10 (wrap64 (x11 + 1)) x376000 x376001 x384000 x384001) else (none)) else (none)) else (none)) else (none))) else (some x3)
def impl_Order_indifferent.f (k : Nat) (a0_0 : Int) (l0_1 : List Int) : Option (List Int) := (impl_Order_mirror.f k a0_0 l0_1).bind fun bt379 => (impl_Order_indifferent.l0 k (([] : List Int)) a0_0 0 a0_0 l0_1 bt379.1 bt379.2)
def impl_Order_indifferent.T5 : Bool × List (List Nat × List Nat) := (true, [([], []), ([], []), ([1], [1]), ([], []), ([3], [3]), ([], []), ([4, 5], [4, 5]), ([6], [6]), ([2, 7], [2, 7]), ([], []), ([9], [9]), ([], []), ([10, 11], [10, 11]), ([12], [12]), ([8, 13], [8, 13]), ([], []), ([15], [15]), ([14, 16], [14, 16]), ([17], [17]), ([0, 18, 2], [0, 18]), ([19, 19, 0, 1, 2, 3, 4, 5, 6, 7, 8, 9, 10, 11, 12, 13, 14, 15, 16, 17, 18, 19], [0, 19])])
def impl_Order_indifferent.B5 : List Nat := [0, 0, 2, 0, 8, 0, 56, 120, 254, 0, 512, 0, 3584, 7680, 16382, 0, 32768, 131070, 262142, 524287, 1048575]
theorem impl_Order_indifferent.tab5 : rtab .any (opsOf Tryd.f108 5) = impl_Order_indifferent.T5:=by kernel_rfl
theorem impl_Order_indifferent.bits5 : waitsOk impl_Order_indifferent.T5.2 impl_Order_indifferent.B5 = true:=by kernel_rfl
set_option maxHeartbeats 8000000 in
set_option maxRecDepth 100000 in
theorem impl_Order_indifferent.calls (k : Nat) (a0_0 : Int) (A0_1 : Option Addr) (c0_1 : Nat) (l0_1 : List Int) (r : List Int) (w : World) (hr0_1 : Kd.C (Kd.int .i64) w A0_1 l0_1.length l0_1) (hc0_1 : l0_1.length ≤ c0_1) (h : impl_Order_indifferent.f k a0_0 l0_1 = some r) :
 Calls Tryd.prog 108 #[.agg #[.int .i64 a0_0,.slice A0_1 l0_1.length c0_1]] w fun e w'=>∃ v0_ : Value,e = .returned (v0_) ∧ Kd.R (Kd.int .i64) 3 w' w.heap.size (fun _=>True) v0_ r ∧ Below w.heap.size w w':=by
 have hu26:=Tryd.underlying26;have HR0_1:=A_ hr0_1;have HC0_1:=A_ hc0_1;clear hr0_1 hc0_1;have HB:=A_ (Below.refl w.heap.size w);have H : ((impl_Order_mirror.f k a0_0 l0_1).bind fun bt379=>(impl_Order_indifferent.l0 k (([] : List Int)) a0_0 0 a0_0 l0_1 bt379.1 bt379.2)) = some r:=h;clear h;obtain ⟨y376,hy376⟩ : ∃ y_ : List Int,y_ = (([] : List Int)):=⟨_,rfl⟩;replace H : ((impl_Order_mirror.f k a0_0 l0_1).bind fun bt379=>(impl_Order_indifferent.l0 k y376 a0_0 0 a0_0 l0_1 bt379.1 bt379.2)) = some r:=by first|(rw [hy376];with_reducible exact H)|(have H2_:=(Option.bind_some _ _).symm.trans H;rw [hy376];with_reducible exact H2_)|(have H2_:=(Option.bind_some _ _).symm.trans H;with_reducible exact H2_)|with_reducible exact H|(rw [hy376];exact H)|exact H
 have Ny376:=A_ hy376;clear hy376;replace H:=Option.bind_eq_some_iff.mp H;obtain ⟨⟨t379,t380⟩,A20,H⟩:=H;replace H : (impl_Order_indifferent.l0 k y376 a0_0 0 a0_0 l0_1 t379 t380) = some r:=H;have A2:=A_ A20;clear A20;have H':=A_ H;clear H;go_enter Tryd.func108,Tryd.ntmps108
 go_wp2_with (first|((with_reducible refine gate_dst (N:=1) rfl ?_);refine box_event ?hg (N:=1) ?hd (cs:=#[.int .i64 a0_0,.slice A0_1 l0_1.length c0_1]) (t:=26) ?hr ?_;(case hd=>rfl);(case hg=>rfl);(case hr=>first|(go_simp;done)|(go_simp;rfl));intro gb375 hg w3 hbox hb;have BK375:=A_ (hbox);have GW375:=A_ ((by rw [hg];exact (below_size bb_) : w.heap.size ≤ gb375));have GE375:=A_ ((by rw [hg];exact (below_size bb_) : w.heap.size ≤ gb375));replace HB:=A_ (below_step bb_ hb);clear hb hbox hg)|((with_reducible refine gate_dst (N:=6) rfl ?_);refine Kd.R_lit (Kd.int .i64) _ 3 ?hg (N:=6) ?hd (xs:=([] : List Int)) (inner:=[]) (ok:=fun _=>True) (okp:=fun _=>True) ?hr ?hp (fun _ hk=>hk) trivial (Below.refl _ _) (Nat.le_refl _) (by simp) ?_;(case hd=>rfl);(case hg=>rfl);(case hr=>first|(go_simp;done)|(go_simp;rfl));(case hp=>exact (Reps.none _ _));intro v377 w4 ho5 hb hg_ hnew_;clear hg_ hnew_;(first|rw [← Ny376.out] at ho5|(simp only [Int.reduceToNat] at ho5;rw [← Ny376.out] at ho5));have HO378:=A_ (Kd.R_lower ho5 (below_size bb_));replace BK375:=bz BK375 hb;replace HB:=A_ (below_step bb_ hb);clear hb ho5;have hcz6_0 : w4.cell? ⟨gb375,0,none⟩ = some (.int .i64 a0_0):=blk_cell BK375.out 0;have hcz6_1 : w4.cell? ⟨gb375,1,none⟩ = some (.slice A0_1 l0_1.length c0_1):=blk_cell BK375.out 1;have hfz6_0:=blk_frozen BK375.out 0;have hfz6_1:=blk_frozen BK375.out 1)|((with_reducible refine gate_callee (f:=103) rfl ?_);refine goesL_ (some 8) rfl rfl Tryd.func103 (by kernel_rfl) rfl #[.agg #[.int .i64 a0_0,.slice A0_1 l0_1.length c0_1]] rfl au_ ?_;(with_reducible refine (impl_Order_mirror.calls k a0_0 _ _ l0_1 t379 t380 _ ?side1 ?side2 A2.out).mono ?_);(case side1=>exact cl_ (Kd.C_below HR0_1.out HB.out));(case side2=>exact HC0_1.out);rintro e w7 ⟨v381,rfl,ho0,hb⟩;refine ⟨_,rfl,?_⟩;have HO382:=A_ (Kd.R_lower (Kd.R_new' ho0 (Kd.R_lt (rl_ HO378))) (below_size bb_));replace HO378:=A_ (Kd.R_elder' (rl_ HO378) (Kd.R_base ho0) hb);replace BK375:=bz BK375 hb;replace HB:=A_ (below_step bb_ hb);(try clear hb);(try clear hb2);(try clear hk);(try clear hi);(try clear ho0))|((with_reducible refine gate_dst (N:=4) rfl ?_);refine box_event ?hg (N:=4) ?hd (cs:=#[.int .i64 0,.slice none 0 0]) (t:=26) ?hr ?_;(case hd=>rfl);(case hg=>rfl);(case hr=>first|(go_simp;done)|(go_simp;rfl));intro gb383 hg w8 hbox hb;replace HO378:=rb_ HO378 hb;replace HO382:=rb_ HO382 hb;have BK383:=A_ (hbox);have GW383:=A_ ((by rw [hg];exact (below_size bb_) : w.heap.size ≤ gb383));have GE383:=A_ ((by rw [hg];exact (below_size bb_) : w.heap.size ≤ gb383));replace HB:=A_ (below_step bb_ hb);have NB375_383:=A_ ((by rw [hg];exact Nat.ne_of_lt (blk_lt (bl_ BK375)) : gb375 ≠ gb383));have NB383_375:=A_ ((by rw [hg];exact Nat.ne_of_gt (blk_lt (bl_ BK375)) : gb383 ≠ gb375));replace BK375:=bz BK375 hb;clear hb hbox hg;have hnb9:=NB383_375.out;have hnc9:=NB375_383.out;have hcz10_0 : w8.cell? ⟨gb383,0,none⟩ = some (.int .i64 0):=blk_cell BK383.out 0;have hcz10_1 : w8.cell? ⟨gb383,1,none⟩ = some (.slice none 0 0):=blk_cell BK383.out 1;have hfz10_0:=blk_frozen BK383.out 0;have hfz10_1:=blk_frozen BK383.out 1;obtain ⟨Ao11,co11,eo11⟩:=Kd.R_slice HO382.out;subst eo11;have hcz12_0 : w8.cell? ⟨gb375,0,none⟩ = some (.int .i64 a0_0):=blk_cell BK375.out 0;have hcz12_1 : w8.cell? ⟨gb375,1,none⟩ = some (.slice A0_1 l0_1.length c0_1):=blk_cell BK375.out 1;have hfz12_0:=blk_frozen BK375.out 0;have hfz12_1:=blk_frozen BK375.out 1))
 go_loopg [3,11] k (fun kq v3 v11 w'=>∃ (x3_1 : List Int) (x11_1 : Int),v11 = .int .i64 x11_1 ∧ Aside0 (impl_Order_indifferent.l0 kq x3_1 a0_0 x11_1 a0_0 l0_1 t379 t380 = some r) ∧ Aside0 (kq ≤ k) ∧ Aside0 (Kd.R (Kd.int .i64) 3 w' w.heap.size (fun k_=>some k_ ≠ ((.slice Ao11 t380.length co11) : Value).ownBlock) v3 x3_1) ∧ Aside0 (Kd.R (Kd.int .i64) 3 w' w.heap.size (fun k_=>some k_ ≠ (v3 : Value).ownBlock) (.slice Ao11 t380.length co11) t380) ∧ Aside0 (w'.heap[gb375]? = some (.cells #[.int .i64 a0_0,(.slice A0_1 l0_1.length c0_1)] 26 (0,0))) ∧ Aside0 (w'.heap[gb383]? = some (.cells #[.int .i64 t379,(.slice Ao11 t380.length co11)] 26 (0,0))) ∧ Aside0 (Below w.heap.size w w'))
 case atStart=>exact ⟨(y376),(0),(by first|rfl|(simp;done)|(simp [*];done)),H',⟨Nat.le_refl _⟩,⟨by (with_reducible repeat (first|apply Kd.R_alloc|apply Kd.R_drewN|apply Kd.R_drew));exact Kd.R_mono (Kd.R_far (p:=⟨gb383,1,none⟩) (Kd.R_far (p:=⟨gb383,0,none⟩) (Kd.R_types HO378.out BK383.out (by decide)) (fun _ hk=>hk.2) (.int .i64 t379)) (fun _ hk=>hk.2) (.slice Ao11 t380.length co11)) (fun _ hk=>hk.1.2)⟩,⟨by (with_reducible repeat (first|apply Kd.R_alloc|apply Kd.R_drewN|apply Kd.R_drew));exact Kd.R_mono (Kd.R_far (p:=⟨gb383,1,none⟩) (Kd.R_far (p:=⟨gb383,0,none⟩) (Kd.R_types HO382.out BK383.out (by decide)) (fun _ hk=>hk.2) (.int .i64 t379)) (fun _ hk=>hk.2) (.slice Ao11 t380.length co11)) (fun _ hk=>hk.1.2)⟩,⟨by (with_reducible repeat (first|refine blk_drewN ?_ _|refine blk_drew ?_|refine blk_alloc ?_ _));refine blk_far ?_ NB375_383.out _;(with_reducible repeat (first|refine blk_drewN ?_ _|refine blk_drew ?_|refine blk_alloc ?_ _));refine blk_far ?_ NB375_383.out _;(with_reducible repeat (first|refine blk_drewN ?_ _|refine blk_drew ?_|refine blk_alloc ?_ _));exact BK375.out⟩,⟨by (with_reducible repeat (first|refine blk_drewN ?_ _|refine blk_drew ?_|refine blk_alloc ?_ _));refine blk_put (cs:=#[.int .i64 t379,.slice none 0 0]) ?_ 1 _ rfl;(with_reducible repeat (first|refine blk_drewN ?_ _|refine blk_drew ?_|refine blk_alloc ?_ _));refine blk_put (cs:=#[.int .i64 0,.slice none 0 0]) ?_ 0 _ rfl;(with_reducible repeat (first|refine blk_drewN ?_ _|refine blk_drew ?_|refine blk_alloc ?_ _));exact BK383.out⟩,⟨bb_⟩⟩
 case round =>
  clear H';try clear c1
  try clear p2
  try clear c9
  try clear c10
  try clear hcz10_0
  try clear hcz10_1
  try clear hcz12_0
  try clear hcz12_1
  try clear hcz6_0
  try clear hcz6_1
  try clear hfz10_0
  try clear hfz10_1
  try clear hfz12_0
  try clear hfz12_1
  try clear hfz6_0
  try clear hfz6_1
  obtain ⟨x3_1,x11_1,rfl,HA,HK1,HO_3,HO_384001,BK375,BK383,HB⟩:=hrel;cases gk with
  | zero => exact absurd HA.out (by simp [impl_Order_indifferent.l0])
  | succ k1 =>
   have H:=HA.out;clear HA;simp only [impl_Order_indifferent.l0] at H
   by_cases c13 : x11_1 < a0_0
   ·rw [if_pos c13] at H;have c13b0 : decide (x11_1 < a0_0) = true:=decide_eq_true c13;clear c13;replace H:=Option.bind_eq_some_iff.mp H;obtain ⟨t384,A140,H⟩:=H;replace H : (if 0 ≤ x11_1 then (if x11_1 < (l0_1.length : Int) then (if x11_1 < (t380.length : Int) then (if x3_1.length < 17592186044416 then (impl_Order_indifferent.l0 k1 (x3_1 ++ [Go.bits .andNot .i64 (Go.bits .andNot .i64 (Go.bits .andNot .i64 t384 (rd l0_1 x11_1)) (rd t380 x11_1)) (shl .i64 1 x11_1)]) a0_0 (wrap64 (x11_1 + 1)) a0_0 l0_1 t379 t380) else (none)) else (none)) else (none)) else (none)) = some r:=H;have A14:=A_ A140;clear A140;by_cases c15 : 0 ≤ x11_1
    ·rw [if_pos c15] at H;have c15b0 : decide (0 ≤ x11_1) = true:=decide_eq_true c15;clear c15;by_cases c16 : x11_1 < (l0_1.length : Int)
     ·rw [if_pos c16] at H;have c16b0 : decide (x11_1 < (l0_1.length : Int)) = true:=decide_eq_true c16;clear c16;by_cases c17 : x11_1 < (t380.length : Int)
      ·rw [if_pos c17] at H;have c17b0 : decide (x11_1 < (t380.length : Int)) = true:=decide_eq_true c17;clear c17;have c18b0:=eq_true (of_decide_eq_true (by first|(with_reducible assumption)|assumption) : 0 ≤ x11_1);obtain ⟨ji19,hji19⟩ : ∃ j_ : Int,(shl .i64 1 x11_1) = j_:=⟨_,rfl⟩;replace H : (if x3_1.length < 17592186044416 then (impl_Order_indifferent.l0 k1 (x3_1 ++ [Go.bits .andNot .i64 (Go.bits .andNot .i64 (Go.bits .andNot .i64 t384 (rd l0_1 x11_1)) (rd t380 x11_1)) (ji19)]) a0_0 (wrap64 (x11_1 + 1)) a0_0 l0_1 t379 t380) else (none)) = some r:=by first|(rw [hji19] at H;exact H)|(simp only [hji19] at H ⊢;exact H)
       (try rw [hji19] at A14);have hji19_ : (IntKind.i64.wrap (1 * 2 ^ min x11_1.toNat 64)) = ji19:=hji19;have hji19z : x11_1 ≤ 64 → (IntKind.i64.wrap (1 * 2 ^ x11_1.toNat)) = ji19:=shl_small hji19;have hji19u : (IntKind.i64.wrap (2 ^ min x11_1.toNat 64)) = ji19:=by have h_:=hji19_;rw [Int.one_mul] at h_;exact h_
       have hji19v : x11_1 ≤ 64 → (IntKind.i64.wrap (2 ^ x11_1.toNat)) = ji19:=fun hle_=>by have h_:=hji19z hle_;rw [Int.one_mul] at h_;exact h_
       have hji19y : (wrap64 (1 * 2 ^ min x11_1.toNat 64)) = ji19:=(i64_w _).symm.trans hji19_;have hji19x : x11_1 ≤ 64 → (wrap64 (1 * 2 ^ x11_1.toNat)) = ji19:=fun h_=>(i64_w _).symm.trans (hji19z h_)
       by_cases c20 : x3_1.length < 17592186044416
       ·rw [if_pos c20] at H;have LMc20:=A_ c20;clear c20;obtain ⟨y387,hy387⟩ : ∃ y_ : List Int,y_ = (x3_1 ++ [Go.bits .andNot .i64 (Go.bits .andNot .i64 (Go.bits .andNot .i64 t384 (rd l0_1 x11_1)) (rd t380 x11_1)) (ji19)]):=⟨_,rfl⟩;replace H : (impl_Order_indifferent.l0 k1 y387 a0_0 (wrap64 (x11_1 + 1)) a0_0 l0_1 t379 t380) = some r:=by first|(rw [hy387];with_reducible exact H)|(have H2_:=(Option.bind_some _ _).symm.trans H;rw [hy387];with_reducible exact H2_)|(have H2_:=(Option.bind_some _ _).symm.trans H;with_reducible exact H2_)|with_reducible exact H|(rw [hy387];exact H)|exact H
        have Ny387:=A_ hy387;clear hy387;have H':=A_ H;clear H;try go_wp2
        replace HO_3:=A_ (Kd.R_drew HO_3.out);replace HO_384001:=A_ (Kd.R_drew HO_384001.out);replace BK375:=A_ (blk_drew BK375.out);replace BK383:=A_ (blk_drew BK383.out);replace HB:=A_ (below_drew1 HB.out);have p385 : 0 ≤ (x11_1 : Int):=of_decide_eq_true (by first|(with_reducible assumption)|assumption);have q385 : x11_1 < (l0_1.length : Int):=of_decide_eq_true (by first|(with_reducible assumption)|assumption);obtain ⟨ad385,e385,hx385_0⟩:=Kd.at_int HR0_1.out x11_1 p385 q385;have hw385_0:=hx385_0;cases e385
        (try replace hx385_0:=(HB.out.cell (World.block_lt_of_cell? w _ hx385_0)).trans hx385_0);replace p385:=eq_true p385;replace q385:=eq_true q385;have p386 : 0 ≤ (x11_1 : Int):=of_decide_eq_true (by first|(with_reducible assumption)|assumption);have q386 : x11_1 < (t380.length : Int):=of_decide_eq_true (by first|(with_reducible assumption)|assumption);obtain ⟨ad386,e386,hx386_0⟩:=Kd.at_int (Kd.R_reads' HO_384001.out).2.2 x11_1 p386 q386;cases e386
        replace p386:=eq_true p386;replace q386:=eq_true q386;refine start_ (n:=21) (S:=fun w'=>w'.cell? ⟨gb375,0,none⟩ = some (.int .i64 a0_0) ∧ w'.cell? ⟨gb375,1,none⟩ = some (.slice (some ad385) l0_1.length c0_1) ∧ w'.cell? ⟨gb383,0,none⟩ = some (.int .i64 t379) ∧ w'.cell? ⟨gb383,1,none⟩ = some (.slice (some ad386) t380.length co11) ∧ w'.cell? (ad385.add (x11_1).toNat) = some (.int .i64 (rd l0_1 x11_1)) ∧ w'.cell? (ad386.add (x11_1).toNat) = some (.int .i64 (rd t380 x11_1))) (ds:=[18,19]) #[F,F,F,F,F,F,F,F,F,F,F,F,F,F,F,F,F,F,F,F,F] (by kernel_rfl) rfl rfl ⟨blk_cell BK375.out 0,blk_cell BK375.out 1,blk_cell BK383.out 0,blk_cell BK383.out 1,((HB.out.cell (World.block_lt_of_cell? w _ hw385_0)).trans hw385_0),hx386_0⟩ (fun hHeld=>?_);refine with_tabW impl_Order_indifferent.tab5 impl_Order_indifferent.bits5 (fun HT_ HW_=>?_)
        generalize wr.drew = w21 at HO_3 HO_384001 BK375 BK383 HB hx385_0 hx386_0 hHeld ⊢
        refine pure_ (i:=0) (N:=some 14) (v:=?_) (a':=?_) #[T,F,F,F,F,F,F,F,F,F,F,F,F,F,F,F,F,F,F,F,F] rfl rfl (any_of HT_.out (by kernel_rfl)) (fun _ _ _ h=>h) (Or.inl ⟨by rfl,?_⟩) ?_ ?_
        rotate_left;·intro w';go_simp;with_reducible rfl
        rotate_left;·simp only [Act.put,L_,M_,N_,i64_w,i32_w];rfl
        refine pure_ (i:=3) (N:=some 17) (v:=?_) (a':=?_) #[T,F,F,T,F,F,F,F,F,F,F,F,F,F,F,F,F,F,F,F,F] rfl rfl (any_of HT_.out (by kernel_rfl)) (fun _ _ _ h=>h) (Or.inl ⟨by rfl,?_⟩) ?_ ?_
        rotate_left;·intro w';go_simp;with_reducible rfl
        rotate_left;·simp only [Act.put,L_,M_,N_,i64_w,i32_w];rfl
        refine pure_ (i:=5) (N:=some 19) (v:=?_) (a':=?_) #[T,F,F,T,F,T,F,F,F,F,F,F,F,F,F,F,F,F,F,F,F] rfl rfl (any_of HT_.out (by kernel_rfl)) (fun _ _ _ h=>h) (Or.inl ⟨by rfl,?_⟩) ?_ ?_
        rotate_left;·intro w';go_simp;with_reducible rfl
        rotate_left;·simp only [Act.put,L_,M_,N_,i64_w,i32_w];rfl
        refine pure_ (i:=9) (N:=some 23) (v:=?_) (a':=?_) #[T,F,F,T,F,T,F,F,F,T,F,F,F,F,F,F,F,F,F,F,F] rfl rfl (any_of HT_.out (by kernel_rfl)) (fun _ _ _ h=>h) (Or.inl ⟨by rfl,?_⟩) ?_ ?_
        rotate_left;·intro w';go_simp;with_reducible rfl
        rotate_left;·simp only [Act.put,L_,M_,N_,i64_w,i32_w];rfl
        refine pure_ (i:=11) (N:=some 25) (v:=?_) (a':=?_) #[T,F,F,T,F,T,F,F,F,T,F,T,F,F,F,F,F,F,F,F,F] rfl rfl (any_of HT_.out (by kernel_rfl)) (fun _ _ _ h=>h) (Or.inl ⟨by rfl,?_⟩) ?_ ?_
        rotate_left;·intro w';go_simp;with_reducible rfl
        rotate_left;·simp only [Act.put,L_,M_,N_,i64_w,i32_w];rfl
        refine pure_ (i:=15) (N:=some 29) (v:=?_) (a':=?_) #[T,F,F,T,F,T,F,F,F,T,F,T,F,F,F,T,F,F,F,F,F] rfl rfl (any_of HT_.out (by kernel_rfl)) (fun _ _ _ h=>h) (Or.inl ⟨by rfl,?_⟩) ?_ ?_
        rotate_left;·intro w';go_simp;with_reducible rfl
        rotate_left;·simp only [Act.put,L_,M_,N_,i64_w,i32_w];rfl
        refine pure_ (i:=16) (N:=some 30) (v:=?_) (a':=?_) #[T,F,F,T,F,T,F,F,F,T,F,T,F,F,F,T,T,F,F,F,F] rfl rfl (any_of HT_.out (by kernel_rfl)) (fun _ _ _ h=>h) (Or.inl ⟨by rfl,?_⟩) ?_ ?_
        rotate_left;·intro w';go_simp;with_reducible rfl
        rotate_left;·simp only [Act.put,L_,M_,N_,i64_w,i32_w];rfl
        refine take_ (i:=1) (N:=some 15) (v:=?_) (a':=?_) #[T,T,F,T,F,T,F,F,F,T,F,T,F,F,F,T,T,F,F,F,F] rfl rfl (take_ofW HT_.out HW_.out (by kernel_rfl)) (fun _ _ _ h=>h) (Or.inl ⟨by rfl,?_⟩) hHeld ?_ ?_
        rotate_left
        ·rintro w' ⟨s0,s1,s2,s3,s4,s5⟩
         go_simp
         with_reducible rfl
        rotate_left;·simp only [Act.put,L_,M_,N_,i64_w,i32_w];rfl
        refine take_ (i:=4) (N:=some 18) (v:=?_) (a':=?_) #[T,T,F,T,T,T,F,F,F,T,F,T,F,F,F,T,T,F,F,F,F] rfl rfl (take_ofW HT_.out HW_.out (by kernel_rfl)) (fun _ _ _ h=>h) (Or.inl ⟨by rfl,?_⟩) hHeld ?_ ?_
        rotate_left
        ·rintro w' ⟨s0,s1,s2,s3,s4,s5⟩
         go_simp
         with_reducible rfl
        rotate_left;·simp only [Act.put,L_,M_,N_,i64_w,i32_w];rfl
        refine pure_ (i:=6) (N:=some 20) (v:=?_) (a':=?_) #[T,T,F,T,T,T,T,F,F,T,F,T,F,F,F,T,T,F,F,F,F] rfl rfl (any_of HT_.out (by kernel_rfl)) (fun _ _ _ h=>h) (Or.inl ⟨by rfl,?_⟩) ?_ ?_
        rotate_left;·intro w';go_simp;with_reducible rfl
        rotate_left;·simp only [Act.put,L_,M_,N_,i64_w,i32_w];rfl
        refine take_ (i:=7) (N:=some 21) (v:=?_) (a':=?_) #[T,T,F,T,T,T,T,T,F,T,F,T,F,F,F,T,T,F,F,F,F] rfl rfl (take_ofW HT_.out HW_.out (by kernel_rfl)) (fun _ _ _ h=>h) (Or.inl ⟨by rfl,?_⟩) hHeld ?_ ?_
        rotate_left
        ·rintro w' ⟨s0,s1,s2,s3,s4,s5⟩
         go_simp
         with_reducible rfl
        rotate_left;·simp only [Act.put,L_,M_,N_,i64_w,i32_w];rfl
        refine take_ (i:=10) (N:=some 24) (v:=?_) (a':=?_) #[T,T,F,T,T,T,T,T,F,T,T,T,F,F,F,T,T,F,F,F,F] rfl rfl (take_ofW HT_.out HW_.out (by kernel_rfl)) (fun _ _ _ h=>h) (Or.inl ⟨by rfl,?_⟩) hHeld ?_ ?_
        rotate_left
        ·rintro w' ⟨s0,s1,s2,s3,s4,s5⟩
         go_simp
         with_reducible rfl
        rotate_left;·simp only [Act.put,L_,M_,N_,i64_w,i32_w];rfl
        refine pure_ (i:=12) (N:=some 26) (v:=?_) (a':=?_) #[T,T,F,T,T,T,T,T,F,T,T,T,T,F,F,T,T,F,F,F,F] rfl rfl (any_of HT_.out (by kernel_rfl)) (fun _ _ _ h=>h) (Or.inl ⟨by rfl,?_⟩) ?_ ?_
        rotate_left;·intro w';go_simp;with_reducible rfl
        rotate_left;·simp only [Act.put,L_,M_,N_,i64_w,i32_w];rfl
        refine take_ (i:=13) (N:=some 27) (v:=?_) (a':=?_) #[T,T,F,T,T,T,T,T,F,T,T,T,T,T,F,T,T,F,F,F,F] rfl rfl (take_ofW HT_.out HW_.out (by kernel_rfl)) (fun _ _ _ h=>h) (Or.inl ⟨by rfl,?_⟩) hHeld ?_ ?_
        rotate_left
        ·rintro w' ⟨s0,s1,s2,s3,s4,s5⟩
         go_simp
         with_reducible rfl
        rotate_left;·simp only [Act.put,L_,M_,N_,i64_w,i32_w];rfl
        refine one_ (i:=2) (N:=some 16) #[T,T,T,T,T,T,T,T,F,T,T,T,T,T,F,T,T,F,F,F,F] rfl rfl (one_of HT_.out (by kernel_rfl)) (by decide) (fun K hK=>?_)
        refine goes_ Tryd.func118 (by kernel_rfl) rfl #[.agg #[.int .i64 a0_0,.slice (some ad385) l0_1.length c0_1]] (by rfl) rfl rfl au_ ?_
        with_reducible refine (impl_Order_all.calls a0_0 _ _ l0_1 t384 _ ?side1 ?side2 A14.out).mono ?_
        (case side1=>exact cl_ (Kd.C_below HR0_1.out HB.out))
        (case side2=>exact HC0_1.out)
        rintro e w22 ⟨rfl,hb⟩
        have HS5_:=(hb.cell (World.block_lt_of_cell? _ _ (hHeld.2.2.2.2.2))).trans (hHeld.2.2.2.2.2);refine ⟨_,rfl,?_⟩
        replace HO_3:=rb_ HO_3 hb;replace HO_384001:=rb_ HO_384001 hb;replace BK375:=bz BK375 hb;replace BK383:=bz BK383 hb;replace HB:=A_ (below_step bb_ hb);(try clear hb);(try clear hb2);(try clear hk);(try clear hi);refine hK.out _ _ ⟨blk_cell BK375.out 0,blk_cell BK375.out 1,blk_cell BK383.out 0,blk_cell BK383.out 1,((HB.out.cell (World.block_lt_of_cell? w _ hw385_0)).trans hw385_0),HS5_⟩ (fun hHeld=>?_)
        clear hK K;refine norm_ (a':=?_) ?_ ?_
        rotate_left
        ·show Act.put _ (some 16) _ = _
         simp only [Act.put,L_,M_,N_,i64_w,i32_w]
         rfl
        refine pure_ (i:=8) (N:=some 22) (v:=?_) (a':=?_) #[T,T,T,T,T,T,T,T,T,T,T,T,T,T,F,T,T,F,F,F,F] rfl rfl (any_of HT_.out (by kernel_rfl)) (fun _ _ _ h=>h) (Or.inl ⟨by rfl,?_⟩) ?_ ?_
        rotate_left;·intro w';go_simp;with_reducible rfl
        rotate_left;·simp only [Act.put,L_,M_,N_,i64_w,i32_w];rfl
        refine pure_ (i:=14) (N:=some 28) (v:=?_) (a':=?_) #[T,T,T,T,T,T,T,T,T,T,T,T,T,T,T,T,T,F,F,F,F] rfl rfl (any_of HT_.out (by kernel_rfl)) (fun _ _ _ h=>h) (Or.inl ⟨by rfl,?_⟩) ?_ ?_
        rotate_left;·intro w';go_simp;with_reducible rfl
        rotate_left;·simp only [Act.put,L_,M_,N_,i64_w,i32_w];rfl
        refine pure_ (i:=17) (N:=some 31) (v:=?_) (a':=?_) #[T,T,T,T,T,T,T,T,T,T,T,T,T,T,T,T,T,T,F,F,F] rfl rfl (any_of HT_.out (by kernel_rfl)) (fun _ _ _ h=>h) (Or.inl ⟨by rfl,?_⟩) ?_ ?_
        rotate_left;·intro w';go_simp;with_reducible rfl
        rotate_left;·simp only [Act.put,L_,M_,N_,i64_w,i32_w];rfl
        refine last_ (i:=18) (N:=some 32) #[T,T,T,T,T,T,T,T,T,T,T,T,T,T,T,T,T,T,T,F,F] rfl rfl (one_of HT_.out (by kernel_rfl)) (by decide) (fun K hK=>?_)
        refine value_ (w1:=?_) (v:=?_) (by rfl) rfl ?_ ?_
        rotate_left 2
        ·go_simp
         constructor
         ·rfl
         ·rfl
        refine hK.out _ _ ?_
        clear hK K;refine norm_ (a':=?_) ?_ ?_
        rotate_left
        ·show Act.put _ (some 32) _ = _
         simp only [Act.put,L_,M_,N_,i64_w,i32_w]
         rfl
        refine last_ (i:=19) (N:=some 33) #[T,T,T,T,T,T,T,T,T,T,T,T,T,T,T,T,T,T,T,T,F] rfl rfl (one_of HT_.out (by kernel_rfl)) (by decide) (fun K hK=>?_)
        refine Kd.R_append_step (Kd.int .i64) (w0:=w) w.heap.size (by rfl) (.tmp 14) (.tmp 32) 22 3 (.int .i64 0) 8 rfl Tryd.underlying22 info3 rfl (by decide) (by omega) u3 x3_1 (Go.bits .andNot .i64 (Go.bits .andNot .i64 (Go.bits .andNot .i64 t384 (rd l0_1 x11_1)) (rd t380 x11_1)) (ji19)) [.int .i64 (Go.bits .andNot .i64 (Go.bits .andNot .i64 (Go.bits .andNot .i64 t384 (rd l0_1 x11_1)) (rd t380 x11_1)) (ji19))] (fun k_=>some k_ ≠ (.slice (some ad386) t380.length co11 : Value).ownBlock) (fun _=>False) rfl rfl ?aP (fun _ hk=>hk.elim) ?aF ?aO ?aB ?aS ?aL ?_
        (case aP=>exact rfl)
        (case aB=>exact bb_)
        (case aF=>exact (fun k_ hk=>Kd.fresh' (Kd.R_lt (rl_ HO_384001)) k_ hk))
        (case aO=>exact (rl_ HO_3))
        (case aS=>exact (below_size bb_))
        (case aL=>have:=LMc20.out;omega)
        intro v388 w23 ho hb hg hat
        rw [← Ny387.out] at ho;replace HO_384001:=A_ (Kd.R_after (ok:=(fun _=>True)) (by (with_reducible repeat (first|apply Kd.R_alloc|apply Kd.R_drewN|apply Kd.R_drew));exact Kd.R_mono HO_384001.out (fun _ hk=>⟨trivial,hk⟩)) hg hat);replace BK375:=A_ (blk_grown (g:=gb375) (o:=.cells #[.int .i64 a0_0,.slice (some ad385) l0_1.length c0_1] 26 (0,0)) (bl_ BK375) hg (Kd.R_ne HO_3.out BK375.out (by decide)));replace BK383:=A_ (blk_grown (g:=gb383) (o:=.cells #[.int .i64 t379,.slice (some ad386) t380.length co11] 26 (0,0)) (bl_ BK383) hg (Kd.R_ne HO_3.out BK383.out (by decide)));replace HB:=A_ (hb);have HO389:=A_ (ho);clear HO_3;clear ho hb hg hat;refine hK.out _ _ ?_
        clear hK K;refine norm_ (a':=?_) ?_ ?_
        rotate_left
        ·show Act.put _ (some 33) _ = _
         simp only [Act.put,L_,M_,N_,i64_w,i32_w]
         rfl
        refine pure_ (i:=20) (N:=some 3) (v:=?_) (a':=?_) #[T,T,T,T,T,T,T,T,T,T,T,T,T,T,T,T,T,T,T,T,T] rfl rfl (any_of HT_.out (by kernel_rfl)) (fun _ _ _ h=>h) (Or.inl ⟨by rfl,?_⟩) ?_ ?_
        rotate_left;·intro w';go_simp;with_reducible rfl
        rotate_left;·simp only [Act.put,L_,M_,N_,i64_w,i32_w];rfl
        refine done_ (done_of HT_.out (by kernel_rfl)) ?_
        try go_wp2
        go_roundg k1
        case measure=>have:=HK1.out;omega
        case rel=>exact ⟨(y387),(wrap64 (x11_1 + 1)),(by first|rfl|(simp;done)|(simp [*];done)),H',⟨by have:=HK1.out;omega⟩,⟨by (with_reducible repeat (first|apply Kd.R_alloc|apply Kd.R_drewN|apply Kd.R_drew));exact HO389.out⟩,⟨by (with_reducible repeat (first|apply Kd.R_alloc|apply Kd.R_drewN|apply Kd.R_drew));exact Kd.R_mono HO_384001.out (fun _ hk=>hk.2)⟩,⟨bl_ BK375⟩,⟨bl_ BK383⟩,⟨bb_⟩⟩
       ·rw [if_neg c20] at H;exact absurd H (by simp)
      ·rw [if_neg c17] at H;exact absurd H (by simp)
     ·rw [if_neg c16] at H;exact absurd H (by simp)
    ·rw [if_neg c15] at H;exact absurd H (by simp)
   ·rw [if_neg c13] at H;have c13b0 : decide (x11_1 < a0_0) = false:=decide_eq_false c13;clear c13;obtain rfl:=Option.some.inj H;go_wp2
    go_ret
    exact ⟨_,by first|rfl|(simp [errW_none,errW_some] <;> rfl)|(simp [*,errW_none,errW_some] <;> rfl),by (with_reducible repeat (first|apply Kd.R_alloc|apply Kd.R_drewN|apply Kd.R_drew));exact Kd.R_mono HO_3.out (fun _ hk=>trivial),bb_⟩
mutual
def impl_Order_threeOne.l0 : Nat → List Int → Int → Int → Int → List Int → Option (List Int)
 | 0,_,_,_,_,_=>none
 | k + 1,x3,x13,x14,x391000,x391001=>if x14 < x13 then (if 0 ≤ x14 then (if x14 < (x391001.length : Int) then ((impl_members.f k (rd x391001 x14)).bind fun t395=>(impl_Order_threeOne.l1 k x3 x14 x13 x14 t395 (t395.length : Int) 0 x391000 x391001)) else (none)) else (none)) else (some ([] : List Int))
def impl_Order_threeOne.l1 : Nat → List Int → Int → Int → Int → List Int → Int → Int → Int → List Int → Option (List Int)
 | 0,_,_,_,_,_,_,_,_,_=>none
 | k + 1,x3,x4,x13,x14,x22,x23,x24,x391000,x391001=>if x24 < x23 then (if 0 ≤ x24 then (if x24 < (x22.length : Int) then (if 0 ≤ (rd x22 x24) then (if (rd x22 x24) < (x391001.length : Int) then ((impl_members.f k (rd x391001 (rd x22 x24))).bind fun t400=>(impl_Order_threeOne.l2 k x3 x4 (rd x22 x24) x13 x14 x22 x23 x24 t400 (t400.length : Int) 0 x391000 x391001)) else (none)) else (none)) else (none)) else (none)) else (impl_Order_threeOne.l0 k x3 x13 (wrap64 (x14 + 1)) x391000 x391001)
def impl_Order_threeOne.l2 : Nat → List Int → Int → Int → Int → Int → List Int → Int → Int → List Int → Int → Int → Int → List Int → Option (List Int)
 | 0,_,_,_,_,_,_,_,_,_,_,_,_,_=>none
 | k + 1,x3,x4,x6,x13,x14,x22,x23,x24,x33,x34,x35,x391000,x391001=>if x35 < x34 then (if 0 ≤ x35 then (if x35 < (x33.length : Int) then (if 0 ≤ x4 then (if x4 < (x3.length : Int) then (if 0 ≤ x6 then (if x6 < (x3.length : Int) then (if 0 ≤ (rd x33 x35) then (if (rd x33 x35) < (x3.length : Int) then (if (Go.bits .and .i64 (Go.bits .and .i64 (rd x3 x4) (rd x3 x6)) (rd x3 (rd x33 x35))) = 0 then (impl_Order_threeOne.l2 k x3 x4 x6 x13 x14 x22 x23 x24 x33 x34 (wrap64 (x35 + 1)) x391000 x391001) else ((impl_members.f k (Go.bits .and .i64 (Go.bits .and .i64 (rd x3 x4) (rd x3 x6)) (rd x3 (rd x33 x35)))).bind fun t407=>(if 0 < (t407.length : Int) then (some (([x4,x6,rd x33 x35,rd t407 0] : List Int))) else (none)))) else (none)) else (none)) else (none)) else (none)) else (none)) else (none)) else (none)) else (none)) else (impl_Order_threeOne.l1 k x3 x4 x13 x14 x22 x23 (wrap64 (x24 + 1)) x391000 x391001)
end
def impl_Order_threeOne.f (k : Nat) (a0_0 : Int) (l0_1 : List Int) : Option (List Int) := (impl_Order_indifferent.f k a0_0 l0_1).bind fun t391 => (impl_Order_threeOne.l0 k t391 a0_0 0 a0_0 l0_1)
set_option maxHeartbeats 8000000 in
set_option maxRecDepth 100000 in
theorem impl_Order_threeOne.calls (k : Nat) (a0_0 : Int) (A0_1 : Option Addr) (c0_1 : Nat) (l0_1 : List Int) (r : List Int) (w : World) (hr0_1 : Kd.C (Kd.int .i64) w A0_1 l0_1.length l0_1) (hc0_1 : l0_1.length ≤ c0_1) (hT : TabOK w) (h : impl_Order_threeOne.f k a0_0 l0_1 = some r) :
 Calls Tryd.prog 140 #[.agg #[.int .i64 a0_0,.slice A0_1 l0_1.length c0_1]] w fun e w'=>∃ v0_ : Value,e = .returned (v0_) ∧ Kd.R (Kd.int .i64) 3 w' w.heap.size (fun _=>True) v0_ r ∧ Below w.heap.size w w' ∧ (r = [] → v0_ = .slice none 0 0):=by
 have hu26:=Tryd.underlying26;have HT:=A_ hT;clear hT;have HR0_1:=A_ hr0_1;have HC0_1:=A_ hc0_1;clear hr0_1 hc0_1;have HB:=A_ (Below.refl w.heap.size w);have H : ((impl_Order_indifferent.f k a0_0 l0_1).bind fun t391=>(impl_Order_threeOne.l0 k t391 a0_0 0 a0_0 l0_1)) = some r:=h;clear h;replace H:=Option.bind_eq_some_iff.mp H;obtain ⟨t391,A20,H⟩:=H;replace H : (impl_Order_threeOne.l0 k t391 a0_0 0 a0_0 l0_1) = some r:=H;have A2:=A_ A20;clear A20;have H':=A_ H;clear H;go_enter Tryd.func140,Tryd.ntmps140
 go_wp2_with (first|((with_reducible refine gate_dst (N:=1) rfl ?_);refine box_event ?hg (N:=1) ?hd (cs:=#[.int .i64 a0_0,.slice A0_1 l0_1.length c0_1]) (t:=26) ?hr ?_;(case hd=>rfl);(case hg=>rfl);(case hr=>first|(go_simp;done)|(go_simp;rfl));intro gb390 hg w3 hbox hb;have BK390:=A_ (hbox);have GW390:=A_ ((by rw [hg];exact (below_size bb_) : w.heap.size ≤ gb390));have GE390:=A_ ((by rw [hg];exact (below_size bb_) : w.heap.size ≤ gb390));replace HB:=A_ (below_step bb_ hb);clear hb hbox hg;have hcz4_0 : w3.cell? ⟨gb390,0,none⟩ = some (.int .i64 a0_0):=blk_cell BK390.out 0;have hcz4_1 : w3.cell? ⟨gb390,1,none⟩ = some (.slice A0_1 l0_1.length c0_1):=blk_cell BK390.out 1;have hfz4_0:=blk_frozen BK390.out 0;have hfz4_1:=blk_frozen BK390.out 1)|(go_at_call 108;(with_reducible refine (impl_Order_indifferent.calls k a0_0 _ _ l0_1 t391 _ ?side1 ?side2 A2.out).mono ?_);(case side1=>exact cl_ (Kd.C_below HR0_1.out HB.out));(case side2=>exact HC0_1.out);rintro e w5 ⟨v392,rfl,ho0,hb⟩;have HO393:=A_ (Kd.R_lower ho0 (below_size bb_));replace BK390:=bz BK390 hb;replace HB:=A_ (below_step bb_ hb);(try clear hb);(try clear hb2);(try clear hk);(try clear hi);(try clear ho0);have hcz6_0 : w5.cell? ⟨gb390,0,none⟩ = some (.int .i64 a0_0):=blk_cell BK390.out 0;have hcz6_1 : w5.cell? ⟨gb390,1,none⟩ = some (.slice A0_1 l0_1.length c0_1):=blk_cell BK390.out 1;have hfz6_0:=blk_frozen BK390.out 0;have hfz6_1:=blk_frozen BK390.out 1))
 repeat (go_quiet (first|((with_reducible refine gate_dst (N:=1) rfl ?_);refine box_event ?hg (N:=1) ?hd (cs:=#[.int .i64 a0_0,.slice A0_1 l0_1.length c0_1]) (t:=26) ?hr ?_;(case hd=>rfl);(case hg=>rfl);(case hr=>first|(go_simp;done)|(go_simp;rfl));intro gb390 hg w3 hbox hb;have BK390:=A_ (hbox);have GW390:=A_ ((by rw [hg];exact (below_size bb_) : w.heap.size ≤ gb390));have GE390:=A_ ((by rw [hg];exact (below_size bb_) : w.heap.size ≤ gb390));replace HB:=A_ (below_step bb_ hb);clear hb hbox hg;have hcz4_0 : w3.cell? ⟨gb390,0,none⟩ = some (.int .i64 a0_0):=blk_cell BK390.out 0;have hcz4_1 : w3.cell? ⟨gb390,1,none⟩ = some (.slice A0_1 l0_1.length c0_1):=blk_cell BK390.out 1;have hfz4_0:=blk_frozen BK390.out 0;have hfz4_1:=blk_frozen BK390.out 1)|(go_at_call 108;(with_reducible refine (impl_Order_indifferent.calls k a0_0 _ _ l0_1 t391 _ ?side1 ?side2 A2.out).mono ?_);(case side1=>exact cl_ (Kd.C_below HR0_1.out HB.out));(case side2=>exact HC0_1.out);rintro e w5 ⟨v392,rfl,ho0,hb⟩;have HO393:=A_ (Kd.R_lower ho0 (below_size bb_));replace BK390:=bz BK390 hb;replace HB:=A_ (below_step bb_ hb);(try clear hb);(try clear hb2);(try clear hk);(try clear hi);(try clear ho0);have hcz6_0 : w5.cell? ⟨gb390,0,none⟩ = some (.int .i64 a0_0):=blk_cell BK390.out 0;have hcz6_1 : w5.cell? ⟨gb390,1,none⟩ = some (.slice A0_1 l0_1.length c0_1):=blk_cell BK390.out 1;have hfz6_0:=blk_frozen BK390.out 0;have hfz6_1:=blk_frozen BK390.out 1));try go_wp2_with (first|((with_reducible refine gate_dst (N:=1) rfl ?_);refine box_event ?hg (N:=1) ?hd (cs:=#[.int .i64 a0_0,.slice A0_1 l0_1.length c0_1]) (t:=26) ?hr ?_;(case hd=>rfl);(case hg=>rfl);(case hr=>first|(go_simp;done)|(go_simp;rfl));intro gb390 hg w3 hbox hb;have BK390:=A_ (hbox);have GW390:=A_ ((by rw [hg];exact (below_size bb_) : w.heap.size ≤ gb390));have GE390:=A_ ((by rw [hg];exact (below_size bb_) : w.heap.size ≤ gb390));replace HB:=A_ (below_step bb_ hb);clear hb hbox hg;have hcz4_0 : w3.cell? ⟨gb390,0,none⟩ = some (.int .i64 a0_0):=blk_cell BK390.out 0;have hcz4_1 : w3.cell? ⟨gb390,1,none⟩ = some (.slice A0_1 l0_1.length c0_1):=blk_cell BK390.out 1;have hfz4_0:=blk_frozen BK390.out 0;have hfz4_1:=blk_frozen BK390.out 1)|(go_at_call 108;(with_reducible refine (impl_Order_indifferent.calls k a0_0 _ _ l0_1 t391 _ ?side1 ?side2 A2.out).mono ?_);(case side1=>exact cl_ (Kd.C_below HR0_1.out HB.out));(case side2=>exact HC0_1.out);rintro e w5 ⟨v392,rfl,ho0,hb⟩;have HO393:=A_ (Kd.R_lower ho0 (below_size bb_));replace BK390:=bz BK390 hb;replace HB:=A_ (below_step bb_ hb);(try clear hb);(try clear hb2);(try clear hk);(try clear hi);(try clear ho0);have hcz6_0 : w5.cell? ⟨gb390,0,none⟩ = some (.int .i64 a0_0):=blk_cell BK390.out 0;have hcz6_1 : w5.cell? ⟨gb390,1,none⟩ = some (.slice A0_1 l0_1.length c0_1):=blk_cell BK390.out 1;have hfz6_0:=blk_frozen BK390.out 0;have hfz6_1:=blk_frozen BK390.out 1)))
 go_loopg [14] k (fun kq v14 w'=>∃ (x14_1 : Int),v14 = .int .i64 x14_1 ∧ Aside0 (impl_Order_threeOne.l0 kq t391 a0_0 x14_1 a0_0 l0_1 = some r) ∧ Aside0 (kq ≤ k) ∧ Aside0 (Kd.R (Kd.int .i64) 3 w' w.heap.size (fun _=>True) v392 t391) ∧ Aside0 (w'.heap[gb390]? = some (.cells #[.int .i64 a0_0,(.slice A0_1 l0_1.length c0_1)] 26 (0,0))) ∧ Aside0 (Below w.heap.size w w'))
 case atStart=>exact ⟨(0),(by first|rfl|(simp;done)|(simp [*];done)),H',⟨Nat.le_refl _⟩,⟨by (with_reducible repeat (first|apply Kd.R_alloc|apply Kd.R_drewN|apply Kd.R_drew));exact HO393.out⟩,⟨bl_ BK390⟩,⟨bb_⟩⟩
 case round =>
  clear H';try clear c1
  try clear p2
  try clear hcz4_0
  try clear hcz4_1
  try clear hcz6_0
  try clear hcz6_1
  try clear hfz4_0
  try clear hfz4_1
  try clear hfz6_0
  try clear hfz6_1
  obtain ⟨x14_1,rfl,HA,HK1,HO_3,BK390,HB⟩:=hrel;cases gk with
  | zero => exact absurd HA.out (by simp [impl_Order_threeOne.l0])
  | succ k1 =>
   have H:=HA.out;clear HA;simp only [impl_Order_threeOne.l0] at H
   by_cases c7 : x14_1 < a0_0
   ·rw [if_pos c7] at H;have c7b0 : decide (x14_1 < a0_0) = true:=decide_eq_true c7;clear c7;by_cases c8 : 0 ≤ x14_1
    ·rw [if_pos c8] at H;have c8b0 : decide (0 ≤ x14_1) = true:=decide_eq_true c8;clear c8;by_cases c9 : x14_1 < (l0_1.length : Int)
     ·rw [if_pos c9] at H;have c9b0 : decide (x14_1 < (l0_1.length : Int)) = true:=decide_eq_true c9;clear c9;replace H:=Option.bind_eq_some_iff.mp H;obtain ⟨t395,A100,H⟩:=H;replace H : (impl_Order_threeOne.l1 k1 t391 x14_1 a0_0 x14_1 t395 (t395.length : Int) 0 a0_0 l0_1) = some r:=H;have A10:=A_ A100;clear A100;have H':=A_ H;clear H;have hcz11_0 : wr.cell? ⟨gb390,0,none⟩ = some (.int .i64 a0_0):=blk_cell BK390.out 0;have hcz11_1 : wr.cell? ⟨gb390,1,none⟩ = some (.slice A0_1 l0_1.length c0_1):=blk_cell BK390.out 1;have hfz11_0:=blk_frozen BK390.out 0;have hfz11_1:=blk_frozen BK390.out 1;have p394 : 0 ≤ (x14_1 : Int):=of_decide_eq_true (by first|(with_reducible assumption)|assumption);have q394 : x14_1 < (l0_1.length : Int):=of_decide_eq_true (by first|(with_reducible assumption)|assumption);obtain ⟨ad394,e394,hx394_0⟩:=Kd.at_int HR0_1.out x14_1 p394 q394;cases e394
      (try replace hx394_0:=(HB.out.cell (World.block_lt_of_cell? w _ hx394_0)).trans hx394_0);replace p394:=eq_true p394;replace q394:=eq_true q394;go_wp2_with (first|(go_at_call 106;(with_reducible refine (impl_members.calls k1 (rd l0_1 x14_1) t395 _ ?side1 A10.out).mono ?_);(case side1=>first|exact HT.out|exact HT.out.below bb_|(repeat (first|exact HT.out|apply TabOK.drewN|apply TabOK.drew|apply TabOK.alloc)));rintro e w12 ⟨v396,rfl,ho0,hb⟩;have HO397:=A_ (Kd.R_lower (Kd.R_new' ho0 (Kd.R_lt (rl_ HO_3))) (below_size bb_));replace HO_3:=A_ (Kd.R_elder' (rl_ HO_3) (Kd.R_base ho0) hb);replace BK390:=bz BK390 hb;replace HB:=A_ (below_step bb_ hb);(try clear hb);(try clear hb2);(try clear hk);(try clear hi);(try clear ho0);obtain ⟨Ao13,co13,eo13⟩:=Kd.R_slice HO397.out;subst eo13))
      repeat (go_quiet (first|(go_at_call 106;(with_reducible refine (impl_members.calls k1 (rd l0_1 x14_1) t395 _ ?side1 A10.out).mono ?_);(case side1=>first|exact HT.out|exact HT.out.below bb_|(repeat (first|exact HT.out|apply TabOK.drewN|apply TabOK.drew|apply TabOK.alloc)));rintro e w12 ⟨v396,rfl,ho0,hb⟩;have HO397:=A_ (Kd.R_lower (Kd.R_new' ho0 (Kd.R_lt (rl_ HO_3))) (below_size bb_));replace HO_3:=A_ (Kd.R_elder' (rl_ HO_3) (Kd.R_base ho0) hb);replace BK390:=bz BK390 hb;replace HB:=A_ (below_step bb_ hb);(try clear hb);(try clear hb2);(try clear hk);(try clear hi);(try clear ho0);obtain ⟨Ao13,co13,eo13⟩:=Kd.R_slice HO397.out;subst eo13));try go_wp2_with (first|(go_at_call 106;(with_reducible refine (impl_members.calls k1 (rd l0_1 x14_1) t395 _ ?side1 A10.out).mono ?_);(case side1=>first|exact HT.out|exact HT.out.below bb_|(repeat (first|exact HT.out|apply TabOK.drewN|apply TabOK.drew|apply TabOK.alloc)));rintro e w12 ⟨v396,rfl,ho0,hb⟩;have HO397:=A_ (Kd.R_lower (Kd.R_new' ho0 (Kd.R_lt (rl_ HO_3))) (below_size bb_));replace HO_3:=A_ (Kd.R_elder' (rl_ HO_3) (Kd.R_base ho0) hb);replace BK390:=bz BK390 hb;replace HB:=A_ (below_step bb_ hb);(try clear hb);(try clear hb2);(try clear hk);(try clear hi);(try clear ho0);obtain ⟨Ao13,co13,eo13⟩:=Kd.R_slice HO397.out;subst eo13)))
      go_loopg [24] k1 (fun kq v24 w'=>∃ (x24_2 : Int),v24 = .int .i64 x24_2 ∧ Aside0 (impl_Order_threeOne.l1 kq t391 x14_1 a0_0 x14_1 t395 (t395.length : Int) x24_2 a0_0 l0_1 = some r) ∧ Aside0 (kq ≤ k1) ∧ Aside0 (Kd.R (Kd.int .i64) 3 w' w.heap.size (fun k_=>some k_ ≠ ((.slice Ao13 t395.length co13) : Value).ownBlock) v392 t391) ∧ Aside0 (Kd.R (Kd.int .i64) 3 w' w.heap.size (fun k_=>some k_ ≠ (v392 : Value).ownBlock) (.slice Ao13 t395.length co13) t395) ∧ Aside0 (w'.heap[gb390]? = some (.cells #[.int .i64 a0_0,(.slice (some ad394) l0_1.length c0_1)] 26 (0,0))) ∧ Aside0 (Below w.heap.size w w'))
      case atStart=>exact ⟨(0),(by first|rfl|(simp;done)|(simp [*];done)),H',⟨Nat.le_refl _⟩,⟨by (with_reducible repeat (first|apply Kd.R_alloc|apply Kd.R_drewN|apply Kd.R_drew));exact Kd.R_mono HO_3.out (fun _ hk=>hk.2)⟩,⟨by (with_reducible repeat (first|apply Kd.R_alloc|apply Kd.R_drewN|apply Kd.R_drew));exact Kd.R_mono HO397.out (fun _ hk=>hk.2)⟩,⟨bl_ BK390⟩,⟨bb_⟩⟩
      case round =>
       clear H';try clear c1
       try clear p2
       try clear p3
       try clear q3
       try clear hx3
       try clear c7
       try clear c7b0
       try clear c8
       try clear c8b0
       try clear c9
       try clear c9b0
       try clear hcz11_0
       try clear hcz11_1
       try clear hcz4_0
       try clear hcz4_1
       try clear hcz6_0
       try clear hcz6_1
       try clear hfz11_0
       try clear hfz11_1
       try clear hfz4_0
       try clear hfz4_1
       try clear hfz6_0
       try clear hfz6_1
       try clear hx394_0
       try clear p2
       try clear p394
       try clear q394
       obtain ⟨x24_2,rfl,HA,HK2,HO_3,HO_22,BK390,HB⟩:=hrel;cases gk with
       | zero=>exact absurd HA.out (by simp [impl_Order_threeOne.l1])
       | succ k2 =>
        have H:=HA.out;clear HA;simp only [impl_Order_threeOne.l1] at H
        by_cases c14 : x24_2 < (t395.length : Int)
        ·rw [if_pos c14] at H;have c14b0 : decide (x24_2 < (t395.length : Int)) = true:=decide_eq_true c14;clear c14;by_cases c15 : 0 ≤ x24_2
         ·rw [if_pos c15] at H;have c15b0 : decide (0 ≤ x24_2) = true:=decide_eq_true c15;clear c15;by_cases c16 : x24_2 < (t395.length : Int)
          ·rw [if_pos c16] at H;have c16b0 : decide (x24_2 < (t395.length : Int)) = true:=decide_eq_true c16;clear c16;by_cases c17 : 0 ≤ (rd t395 x24_2)
           ·rw [if_pos c17] at H;have c17b0 : decide (0 ≤ (rd t395 x24_2)) = true:=decide_eq_true c17;clear c17;by_cases c18 : (rd t395 x24_2) < (l0_1.length : Int)
            ·rw [if_pos c18] at H;have c18b0 : decide ((rd t395 x24_2) < (l0_1.length : Int)) = true:=decide_eq_true c18;clear c18;replace H:=Option.bind_eq_some_iff.mp H;obtain ⟨t400,A190,H⟩:=H;replace H : (impl_Order_threeOne.l2 k2 t391 x14_1 (rd t395 x24_2) a0_0 x14_1 t395 (t395.length : Int) x24_2 t400 (t400.length : Int) 0 a0_0 l0_1) = some r:=H;have A19:=A_ A190;clear A190;have H':=A_ H;clear H;have p398 : 0 ≤ (x24_2 : Int):=of_decide_eq_true (by first|(with_reducible assumption)|assumption);have q398 : x24_2 < (t395.length : Int):=of_decide_eq_true (by first|(with_reducible assumption)|assumption);obtain ⟨ad398,e398,hx398_0⟩:=Kd.at_int (Kd.R_reads' HO_22.out).2.2 x24_2 p398 q398;cases e398
             replace p398:=eq_true p398;replace q398:=eq_true q398;have hcz20_0 : wr.cell? ⟨gb390,0,none⟩ = some (.int .i64 a0_0):=blk_cell BK390.out 0;have hcz20_1 : wr.cell? ⟨gb390,1,none⟩ = some (.slice (some ad394) l0_1.length c0_1):=blk_cell BK390.out 1;have hfz20_0:=blk_frozen BK390.out 0;have hfz20_1:=blk_frozen BK390.out 1;have p399 : 0 ≤ ((rd t395 x24_2) : Int):=of_decide_eq_true (by first|(with_reducible assumption)|assumption);have q399 : (rd t395 x24_2) < (l0_1.length : Int):=of_decide_eq_true (by first|(with_reducible assumption)|assumption);obtain ⟨ad399,e399,hx399_0⟩:=Kd.at_int HR0_1.out (rd t395 x24_2) p399 q399;obtain rfl : ad394 = ad399:=(by injection e399);(try replace hx399_0:=(HB.out.cell (World.block_lt_of_cell? w _ hx399_0)).trans hx399_0);replace p399:=eq_true p399;replace q399:=eq_true q399;go_wp2_with (first|(go_at_call 106;(with_reducible refine (impl_members.calls k2 (rd l0_1 (rd t395 x24_2)) t400 _ ?side1 A19.out).mono ?_);(case side1=>first|exact HT.out|exact HT.out.below bb_|(repeat (first|exact HT.out|apply TabOK.drewN|apply TabOK.drew|apply TabOK.alloc)));rintro e w21 ⟨v401,rfl,ho0,hb⟩;have HO402:=A_ (Kd.R_lower (Kd.R_new' (Kd.R_new' ho0 (Kd.R_lt (rl_ HO_3))) (Kd.R_lt (rl_ HO_22))) (below_size bb_));replace HO_3:=A_ (Kd.R_elder' (rl_ HO_3) (Kd.R_base ho0) hb);replace HO_22:=A_ (Kd.R_elder' (rl_ HO_22) (Kd.R_base ho0) hb);replace BK390:=bz BK390 hb;replace HB:=A_ (below_step bb_ hb);(try clear hb);(try clear hb2);(try clear hk);(try clear hi);(try clear ho0);obtain ⟨Ao22,co22,eo22⟩:=Kd.R_slice HO402.out;subst eo22))
             repeat (go_quiet (first|(go_at_call 106;(with_reducible refine (impl_members.calls k2 (rd l0_1 (rd t395 x24_2)) t400 _ ?side1 A19.out).mono ?_);(case side1=>first|exact HT.out|exact HT.out.below bb_|(repeat (first|exact HT.out|apply TabOK.drewN|apply TabOK.drew|apply TabOK.alloc)));rintro e w21 ⟨v401,rfl,ho0,hb⟩;have HO402:=A_ (Kd.R_lower (Kd.R_new' (Kd.R_new' ho0 (Kd.R_lt (rl_ HO_3))) (Kd.R_lt (rl_ HO_22))) (below_size bb_));replace HO_3:=A_ (Kd.R_elder' (rl_ HO_3) (Kd.R_base ho0) hb);replace HO_22:=A_ (Kd.R_elder' (rl_ HO_22) (Kd.R_base ho0) hb);replace BK390:=bz BK390 hb;replace HB:=A_ (below_step bb_ hb);(try clear hb);(try clear hb2);(try clear hk);(try clear hi);(try clear ho0);obtain ⟨Ao22,co22,eo22⟩:=Kd.R_slice HO402.out;subst eo22));try go_wp2_with (first|(go_at_call 106;(with_reducible refine (impl_members.calls k2 (rd l0_1 (rd t395 x24_2)) t400 _ ?side1 A19.out).mono ?_);(case side1=>first|exact HT.out|exact HT.out.below bb_|(repeat (first|exact HT.out|apply TabOK.drewN|apply TabOK.drew|apply TabOK.alloc)));rintro e w21 ⟨v401,rfl,ho0,hb⟩;have HO402:=A_ (Kd.R_lower (Kd.R_new' (Kd.R_new' ho0 (Kd.R_lt (rl_ HO_3))) (Kd.R_lt (rl_ HO_22))) (below_size bb_));replace HO_3:=A_ (Kd.R_elder' (rl_ HO_3) (Kd.R_base ho0) hb);replace HO_22:=A_ (Kd.R_elder' (rl_ HO_22) (Kd.R_base ho0) hb);replace BK390:=bz BK390 hb;replace HB:=A_ (below_step bb_ hb);(try clear hb);(try clear hb2);(try clear hk);(try clear hi);(try clear ho0);obtain ⟨Ao22,co22,eo22⟩:=Kd.R_slice HO402.out;subst eo22)))
             go_loopg [35] k2 (fun kq v35 w'=>∃ (x35_3 : Int),v35 = .int .i64 x35_3 ∧ Aside0 (impl_Order_threeOne.l2 kq t391 x14_1 (rd t395 x24_2) a0_0 x14_1 t395 (t395.length : Int) x24_2 t400 (t400.length : Int) x35_3 a0_0 l0_1 = some r) ∧ Aside0 (kq ≤ k2) ∧ Aside0 (Kd.R (Kd.int .i64) 3 w' w.heap.size (fun k_=>some k_ ≠ ((.slice (some ad398) t395.length co13) : Value).ownBlock ∧ some k_ ≠ ((.slice Ao22 t400.length co22) : Value).ownBlock) v392 t391) ∧ Aside0 (Kd.R (Kd.int .i64) 3 w' w.heap.size (fun k_=>some k_ ≠ (v392 : Value).ownBlock ∧ some k_ ≠ ((.slice Ao22 t400.length co22) : Value).ownBlock) (.slice (some ad398) t395.length co13) t395) ∧ Aside0 (Kd.R (Kd.int .i64) 3 w' w.heap.size (fun k_=>some k_ ≠ (v392 : Value).ownBlock ∧ some k_ ≠ ((.slice (some ad398) t395.length co13) : Value).ownBlock) (.slice Ao22 t400.length co22) t400) ∧ Aside0 (w'.heap[gb390]? = some (.cells #[.int .i64 a0_0,(.slice (some ad394) l0_1.length c0_1)] 26 (0,0))) ∧ Aside0 (Below w.heap.size w w'))
             case atStart=>exact ⟨(0),(by first|rfl|(simp;done)|(simp [*];done)),H',⟨Nat.le_refl _⟩,⟨by (with_reducible repeat (first|apply Kd.R_alloc|apply Kd.R_drewN|apply Kd.R_drew));exact HO_3.out⟩,⟨by (with_reducible repeat (first|apply Kd.R_alloc|apply Kd.R_drewN|apply Kd.R_drew));exact HO_22.out⟩,⟨by (with_reducible repeat (first|apply Kd.R_alloc|apply Kd.R_drewN|apply Kd.R_drew));exact Kd.R_mono HO402.out (fun _ hk=>⟨hk.1.2,hk.2⟩)⟩,⟨bl_ BK390⟩,⟨bb_⟩⟩
             case round =>
              clear H';try clear c1
              try clear p2
              try clear p3
              try clear q3
              try clear hx3
              try clear c7
              try clear c7b0
              try clear c8
              try clear c8b0
              try clear c9
              try clear c9b0
              try clear c14
              try clear c14b0
              try clear c15
              try clear c15b0
              try clear c16
              try clear c16b0
              try clear c17
              try clear c17b0
              try clear c18
              try clear c18b0
              try clear hcz11_0
              try clear hcz11_1
              try clear hcz20_0
              try clear hcz20_1
              try clear hcz4_0
              try clear hcz4_1
              try clear hcz6_0
              try clear hcz6_1
              try clear hfz11_0
              try clear hfz11_1
              try clear hfz20_0
              try clear hfz20_1
              try clear hfz4_0
              try clear hfz4_1
              try clear hfz6_0
              try clear hfz6_1
              try clear hx394_0
              try clear hx398_0
              try clear hx399_0
              try clear p2
              try clear p3
              try clear p394
              try clear p398
              try clear p399
              try clear q3
              try clear q394
              try clear q398
              try clear q399
              obtain ⟨x35_3,rfl,HA,HK3,HO_3,HO_22,HO_33,BK390,HB⟩:=hrel;cases gk with
              | zero=>exact absurd HA.out (by simp [impl_Order_threeOne.l2])
              | succ k3 =>
               have H:=HA.out;clear HA;simp only [impl_Order_threeOne.l2] at H
               by_cases c23 : x35_3 < (t400.length : Int)
               ·rw [if_pos c23] at H;have c23b0 : decide (x35_3 < (t400.length : Int)) = true:=decide_eq_true c23;clear c23;by_cases c24 : 0 ≤ x35_3
                ·rw [if_pos c24] at H;have c24b0 : decide (0 ≤ x35_3) = true:=decide_eq_true c24;clear c24;by_cases c25 : x35_3 < (t400.length : Int)
                 ·rw [if_pos c25] at H;have c25b0 : decide (x35_3 < (t400.length : Int)) = true:=decide_eq_true c25;clear c25;by_cases c26 : 0 ≤ x14_1
                  ·rw [if_pos c26] at H;have c26b0 : decide (0 ≤ x14_1) = true:=decide_eq_true c26;clear c26;by_cases c27 : x14_1 < (t391.length : Int)
                   ·rw [if_pos c27] at H;have c27b0 : decide (x14_1 < (t391.length : Int)) = true:=decide_eq_true c27;clear c27;by_cases c28 : 0 ≤ (rd t395 x24_2)
                    ·rw [if_pos c28] at H;have c28b0 : decide (0 ≤ (rd t395 x24_2)) = true:=decide_eq_true c28;clear c28;by_cases c29 : (rd t395 x24_2) < (t391.length : Int)
                     ·rw [if_pos c29] at H;have c29b0 : decide ((rd t395 x24_2) < (t391.length : Int)) = true:=decide_eq_true c29;clear c29;by_cases c30 : 0 ≤ (rd t400 x35_3)
                      ·rw [if_pos c30] at H;have c30b0 : decide (0 ≤ (rd t400 x35_3)) = true:=decide_eq_true c30;clear c30;by_cases c31 : (rd t400 x35_3) < (t391.length : Int)
                       ·rw [if_pos c31] at H;have c31b0 : decide ((rd t400 x35_3) < (t391.length : Int)) = true:=decide_eq_true c31;clear c31;by_cases c32 : (Go.bits .and .i64 (Go.bits .and .i64 (rd t391 x14_1) (rd t391 (rd t395 x24_2))) (rd t391 (rd t400 x35_3))) = 0
                        ·rw [if_pos c32] at H;have c32b0 : ((Go.bits .and .i64 (Go.bits .and .i64 (rd t391 x14_1) (rd t391 (rd t395 x24_2))) (rd t391 (rd t400 x35_3))) == 0) = true:=beq_iff_eq.mpr c32;have c32b1 : ((Go.bits .and .i64 (Go.bits .and .i64 (rd t391 x14_1) (rd t391 (rd t395 x24_2))) (rd t391 (rd t400 x35_3))) != 0) = false:=bne_eq_false_iff_eq.mpr c32;clear c32;have H':=A_ H;clear H;have p403 : 0 ≤ (x35_3 : Int):=of_decide_eq_true (by first|(with_reducible assumption)|assumption);have q403 : x35_3 < (t400.length : Int):=of_decide_eq_true (by first|(with_reducible assumption)|assumption);obtain ⟨ad403,e403,hx403_0⟩:=Kd.at_int (Kd.R_reads' HO_33.out).2.2 x35_3 p403 q403;cases e403
                         replace p403:=eq_true p403;replace q403:=eq_true q403;obtain ⟨Ao33,co33,eo33⟩:=Kd.R_slice HO_3.out;subst eo33;have p404 : 0 ≤ (x14_1 : Int):=of_decide_eq_true (by first|(with_reducible assumption)|assumption);have q404 : x14_1 < (t391.length : Int):=of_decide_eq_true (by first|(with_reducible assumption)|assumption);obtain ⟨ad404,e404,hx404_0⟩:=Kd.at_int (Kd.R_reads' HO_3.out).2.2 x14_1 p404 q404;cases e404
                         replace p404:=eq_true p404;replace q404:=eq_true q404;have p405 : 0 ≤ ((rd t395 x24_2) : Int):=of_decide_eq_true (by first|(with_reducible assumption)|assumption);have q405 : (rd t395 x24_2) < (t391.length : Int):=of_decide_eq_true (by first|(with_reducible assumption)|assumption);obtain ⟨ad405,e405,hx405_0⟩:=Kd.at_int (Kd.R_reads' HO_3.out).2.2 (rd t395 x24_2) p405 q405;obtain rfl : ad404 = ad405:=(by injection e405);replace p405:=eq_true p405;replace q405:=eq_true q405;have p406 : 0 ≤ ((rd t400 x35_3) : Int):=of_decide_eq_true (by first|(with_reducible assumption)|assumption);have q406 : (rd t400 x35_3) < (t391.length : Int):=of_decide_eq_true (by first|(with_reducible assumption)|assumption);obtain ⟨ad406,e406,hx406_0⟩:=Kd.at_int (Kd.R_reads' HO_3.out).2.2 (rd t400 x35_3) p406 q406;obtain rfl : ad404 = ad406:=(by injection e406);replace p406:=eq_true p406;replace q406:=eq_true q406;go_wp2
                         repeat (go_quiet (fail);try go_wp2)
                         go_roundg k3
                         case measure=>have:=HK1.out;have:=HK2.out;have:=HK3.out;omega
                         case rel=>exact ⟨(wrap64 (x35_3 + 1)),(by first|rfl|(simp;done)|(simp [*];done)),H',⟨by have:=HK1.out;have:=HK2.out;have:=HK3.out;omega⟩,⟨by (with_reducible repeat (first|apply Kd.R_alloc|apply Kd.R_drewN|apply Kd.R_drew));exact HO_3.out⟩,⟨by (with_reducible repeat (first|apply Kd.R_alloc|apply Kd.R_drewN|apply Kd.R_drew));exact HO_22.out⟩,⟨by (with_reducible repeat (first|apply Kd.R_alloc|apply Kd.R_drewN|apply Kd.R_drew));exact HO_33.out⟩,⟨bl_ BK390⟩,⟨bb_⟩⟩
                        ·rw [if_neg c32] at H;have c32b0 : ((Go.bits .and .i64 (Go.bits .and .i64 (rd t391 x14_1) (rd t391 (rd t395 x24_2))) (rd t391 (rd t400 x35_3))) == 0) = false:=beq_eq_false_iff_ne.mpr c32;have c32b1 : ((Go.bits .and .i64 (Go.bits .and .i64 (rd t391 x14_1) (rd t391 (rd t395 x24_2))) (rd t391 (rd t400 x35_3))) != 0) = true:=bne_iff_ne.mpr c32;replace H:=Option.bind_eq_some_iff.mp H;obtain ⟨t407,A340,H⟩:=H;replace H : (if 0 < (t407.length : Int) then (some (([x14_1,(rd t395 x24_2),rd t400 x35_3,rd t407 0] : List Int))) else (none)) = some r:=H;have A34:=A_ A340;clear A340;by_cases c35 : 0 < (t407.length : Int)
                         ·rw [if_pos c35] at H;have c35b0 : decide (0 < (t407.length : Int)) = true:=decide_eq_true c35;have c35b1 : decide (0 < t407.length) = true:=decide_eq_true (by omega);clear c35;obtain ⟨y411,hy411⟩ : ∃ y_ : List Int,y_ = (([x14_1,(rd t395 x24_2),rd t400 x35_3,rd t407 0] : List Int)):=⟨_,rfl⟩;replace H : (some y411) = some r:=by first|(rw [hy411];with_reducible exact H)|(have H2_:=(Option.bind_some _ _).symm.trans H;rw [hy411];with_reducible exact H2_)|(have H2_:=(Option.bind_some _ _).symm.trans H;with_reducible exact H2_)|with_reducible exact H|(rw [hy411];exact H)|exact H
                          have Ny411:=A_ hy411;clear hy411;obtain rfl:=Option.some.inj H;have p403 : 0 ≤ (x35_3 : Int):=of_decide_eq_true (by first|(with_reducible assumption)|assumption);have q403 : x35_3 < (t400.length : Int):=of_decide_eq_true (by first|(with_reducible assumption)|assumption);obtain ⟨ad403,e403,hx403_0⟩:=Kd.at_int (Kd.R_reads' HO_33.out).2.2 x35_3 p403 q403;cases e403
                          replace p403:=eq_true p403;replace q403:=eq_true q403;obtain ⟨Ao36,co36,eo36⟩:=Kd.R_slice HO_3.out;subst eo36;have p404 : 0 ≤ (x14_1 : Int):=of_decide_eq_true (by first|(with_reducible assumption)|assumption);have q404 : x14_1 < (t391.length : Int):=of_decide_eq_true (by first|(with_reducible assumption)|assumption);obtain ⟨ad404,e404,hx404_0⟩:=Kd.at_int (Kd.R_reads' HO_3.out).2.2 x14_1 p404 q404;cases e404
                          replace p404:=eq_true p404;replace q404:=eq_true q404;have p405 : 0 ≤ ((rd t395 x24_2) : Int):=of_decide_eq_true (by first|(with_reducible assumption)|assumption);have q405 : (rd t395 x24_2) < (t391.length : Int):=of_decide_eq_true (by first|(with_reducible assumption)|assumption);obtain ⟨ad405,e405,hx405_0⟩:=Kd.at_int (Kd.R_reads' HO_3.out).2.2 (rd t395 x24_2) p405 q405;obtain rfl : ad404 = ad405:=(by injection e405);replace p405:=eq_true p405;replace q405:=eq_true q405;have p406 : 0 ≤ ((rd t400 x35_3) : Int):=of_decide_eq_true (by first|(with_reducible assumption)|assumption);have q406 : (rd t400 x35_3) < (t391.length : Int):=of_decide_eq_true (by first|(with_reducible assumption)|assumption);obtain ⟨ad406,e406,hx406_0⟩:=Kd.at_int (Kd.R_reads' HO_3.out).2.2 (rd t400 x35_3) p406 q406;obtain rfl : ad404 = ad406:=(by injection e406);replace p406:=eq_true p406;replace q406:=eq_true q406;go_wp2_with (first|(go_at_call 106;(with_reducible refine (impl_members.calls k3 (Go.bits .and .i64 (Go.bits .and .i64 (rd t391 x14_1) (rd t391 (rd t395 x24_2))) (rd t391 (rd t400 x35_3))) t407 _ ?side1 A34.out).mono ?_);(case side1=>first|exact HT.out|exact HT.out.below bb_|(repeat (first|exact HT.out|apply TabOK.drewN|apply TabOK.drew|apply TabOK.alloc)));rintro e w37 ⟨v408,rfl,ho0,hb⟩;have HO409:=A_ (Kd.R_lower (Kd.R_new' (Kd.R_new' (Kd.R_new' ho0 (Kd.R_lt (rl_ HO_3))) (Kd.R_lt (rl_ HO_22))) (Kd.R_lt (rl_ HO_33))) (below_size bb_));replace HO_3:=A_ (Kd.R_elder' (rl_ HO_3) (Kd.R_base ho0) hb);replace HO_22:=A_ (Kd.R_elder' (rl_ HO_22) (Kd.R_base ho0) hb);replace HO_33:=A_ (Kd.R_elder' (rl_ HO_33) (Kd.R_base ho0) hb);replace BK390:=bz BK390 hb;replace HB:=A_ (below_step bb_ hb);(try clear hb);(try clear hb2);(try clear hk);(try clear hi);(try clear ho0);obtain ⟨Ao38,co38,eo38⟩:=Kd.R_slice HO409.out;subst eo38;have p410 : 0 ≤ (0 : Int):=(by omega);have q410 : 0 < (t407.length : Int):=of_decide_eq_true (by first|(with_reducible assumption)|assumption);obtain ⟨ad410,e410,hx410_0⟩:=Kd.at_int (Kd.R_reads' HO409.out).2.2 0 p410 q410;cases e410;have qi410 : (0 < t407.length) = True:=eq_true (by omega);(try rw [show ((0 : Int)).toNat = 0 from rfl] at hx410_0);(try rw [Addr.add_zero'] at hx410_0);replace p410:=eq_true p410;replace q410:=eq_true q410)|((with_reducible refine gate_dst (N:=62) rfl ?_);refine Kd.R_lit (Kd.int .i64) _ 3 ?hg (N:=62) ?hd (xs:=([x14_1,(rd t395 x24_2),rd t400 x35_3,rd t407 0] : List Int)) (inner:=[.int .i64 x14_1,.int .i64 (rd t395 x24_2),.int .i64 (rd t400 x35_3),.int .i64 (rd t407 0)]) (ok:=fun _=>True) (okp:=fun _=>True) ?hr ?hp (fun _ hk=>hk) trivial (Below.refl _ _) (Nat.le_refl _) (by simp) ?_;(case hd=>rfl);(case hg=>rfl);(case hr=>first|(go_simp;done)|(go_simp;rfl));(case hp=>exact (Reps.one (show Kd.M (Kd.int .i64) _ _ _ x14_1 [.int .i64 x14_1] from rfl) (Reps.one (show Kd.M (Kd.int .i64) _ _ _ (rd t395 x24_2) [.int .i64 (rd t395 x24_2)] from rfl) (Reps.one (show Kd.M (Kd.int .i64) _ _ _ (rd t400 x35_3) [.int .i64 (rd t400 x35_3)] from rfl) (Reps.one (show Kd.M (Kd.int .i64) _ _ _ (rd t407 0) [.int .i64 (rd t407 0)] from rfl) (Reps.none _ _))))));intro v412 w39 ho40 hb hg_ hnew_;clear hg_ hnew_;(first|rw [← Ny411.out] at ho40|(simp only [Int.reduceToNat] at ho40;rw [← Ny411.out] at ho40));have HO413:=A_ (Kd.R_lower (Kd.R_new' (Kd.R_new' (Kd.R_new' (Kd.R_new' ho40 (Kd.R_lt (rl_ HO_3))) (Kd.R_lt (rl_ HO_22))) (Kd.R_lt (rl_ HO_33))) (Kd.R_lt (rl_ HO409))) (below_size bb_));replace HO_3:=A_ (Kd.R_elder' (rl_ HO_3) (Kd.R_base ho40) hb);replace HO_22:=A_ (Kd.R_elder' (rl_ HO_22) (Kd.R_base ho40) hb);replace HO_33:=A_ (Kd.R_elder' (rl_ HO_33) (Kd.R_base ho40) hb);replace HO409:=A_ (Kd.R_elder' (rl_ HO409) (Kd.R_base ho40) hb);replace BK390:=bz BK390 hb;replace HB:=A_ (below_step bb_ hb);clear hb ho40))
                          repeat (go_quiet (first|(go_at_call 106;(with_reducible refine (impl_members.calls k3 (Go.bits .and .i64 (Go.bits .and .i64 (rd t391 x14_1) (rd t391 (rd t395 x24_2))) (rd t391 (rd t400 x35_3))) t407 _ ?side1 A34.out).mono ?_);(case side1=>first|exact HT.out|exact HT.out.below bb_|(repeat (first|exact HT.out|apply TabOK.drewN|apply TabOK.drew|apply TabOK.alloc)));rintro e w37 ⟨v408,rfl,ho0,hb⟩;have HO409:=A_ (Kd.R_lower (Kd.R_new' (Kd.R_new' (Kd.R_new' ho0 (Kd.R_lt (rl_ HO_3))) (Kd.R_lt (rl_ HO_22))) (Kd.R_lt (rl_ HO_33))) (below_size bb_));replace HO_3:=A_ (Kd.R_elder' (rl_ HO_3) (Kd.R_base ho0) hb);replace HO_22:=A_ (Kd.R_elder' (rl_ HO_22) (Kd.R_base ho0) hb);replace HO_33:=A_ (Kd.R_elder' (rl_ HO_33) (Kd.R_base ho0) hb);replace BK390:=bz BK390 hb;replace HB:=A_ (below_step bb_ hb);(try clear hb);(try clear hb2);(try clear hk);(try clear hi);(try clear ho0);obtain ⟨Ao38,co38,eo38⟩:=Kd.R_slice HO409.out;subst eo38;have p410 : 0 ≤ (0 : Int):=(by omega);have q410 : 0 < (t407.length : Int):=of_decide_eq_true (by first|(with_reducible assumption)|assumption);obtain ⟨ad410,e410,hx410_0⟩:=Kd.at_int (Kd.R_reads' HO409.out).2.2 0 p410 q410;cases e410;have qi410 : (0 < t407.length) = True:=eq_true (by omega);(try rw [show ((0 : Int)).toNat = 0 from rfl] at hx410_0);(try rw [Addr.add_zero'] at hx410_0);replace p410:=eq_true p410;replace q410:=eq_true q410)|((with_reducible refine gate_dst (N:=62) rfl ?_);refine Kd.R_lit (Kd.int .i64) _ 3 ?hg (N:=62) ?hd (xs:=([x14_1,(rd t395 x24_2),rd t400 x35_3,rd t407 0] : List Int)) (inner:=[.int .i64 x14_1,.int .i64 (rd t395 x24_2),.int .i64 (rd t400 x35_3),.int .i64 (rd t407 0)]) (ok:=fun _=>True) (okp:=fun _=>True) ?hr ?hp (fun _ hk=>hk) trivial (Below.refl _ _) (Nat.le_refl _) (by simp) ?_;(case hd=>rfl);(case hg=>rfl);(case hr=>first|(go_simp;done)|(go_simp;rfl));(case hp=>exact (Reps.one (show Kd.M (Kd.int .i64) _ _ _ x14_1 [.int .i64 x14_1] from rfl) (Reps.one (show Kd.M (Kd.int .i64) _ _ _ (rd t395 x24_2) [.int .i64 (rd t395 x24_2)] from rfl) (Reps.one (show Kd.M (Kd.int .i64) _ _ _ (rd t400 x35_3) [.int .i64 (rd t400 x35_3)] from rfl) (Reps.one (show Kd.M (Kd.int .i64) _ _ _ (rd t407 0) [.int .i64 (rd t407 0)] from rfl) (Reps.none _ _))))));intro v412 w39 ho40 hb hg_ hnew_;clear hg_ hnew_;(first|rw [← Ny411.out] at ho40|(simp only [Int.reduceToNat] at ho40;rw [← Ny411.out] at ho40));have HO413:=A_ (Kd.R_lower (Kd.R_new' (Kd.R_new' (Kd.R_new' (Kd.R_new' ho40 (Kd.R_lt (rl_ HO_3))) (Kd.R_lt (rl_ HO_22))) (Kd.R_lt (rl_ HO_33))) (Kd.R_lt (rl_ HO409))) (below_size bb_));replace HO_3:=A_ (Kd.R_elder' (rl_ HO_3) (Kd.R_base ho40) hb);replace HO_22:=A_ (Kd.R_elder' (rl_ HO_22) (Kd.R_base ho40) hb);replace HO_33:=A_ (Kd.R_elder' (rl_ HO_33) (Kd.R_base ho40) hb);replace HO409:=A_ (Kd.R_elder' (rl_ HO409) (Kd.R_base ho40) hb);replace BK390:=bz BK390 hb;replace HB:=A_ (below_step bb_ hb);clear hb ho40));try go_wp2_with (first|(go_at_call 106;(with_reducible refine (impl_members.calls k3 (Go.bits .and .i64 (Go.bits .and .i64 (rd t391 x14_1) (rd t391 (rd t395 x24_2))) (rd t391 (rd t400 x35_3))) t407 _ ?side1 A34.out).mono ?_);(case side1=>first|exact HT.out|exact HT.out.below bb_|(repeat (first|exact HT.out|apply TabOK.drewN|apply TabOK.drew|apply TabOK.alloc)));rintro e w37 ⟨v408,rfl,ho0,hb⟩;have HO409:=A_ (Kd.R_lower (Kd.R_new' (Kd.R_new' (Kd.R_new' ho0 (Kd.R_lt (rl_ HO_3))) (Kd.R_lt (rl_ HO_22))) (Kd.R_lt (rl_ HO_33))) (below_size bb_));replace HO_3:=A_ (Kd.R_elder' (rl_ HO_3) (Kd.R_base ho0) hb);replace HO_22:=A_ (Kd.R_elder' (rl_ HO_22) (Kd.R_base ho0) hb);replace HO_33:=A_ (Kd.R_elder' (rl_ HO_33) (Kd.R_base ho0) hb);replace BK390:=bz BK390 hb;replace HB:=A_ (below_step bb_ hb);(try clear hb);(try clear hb2);(try clear hk);(try clear hi);(try clear ho0);obtain ⟨Ao38,co38,eo38⟩:=Kd.R_slice HO409.out;subst eo38;have p410 : 0 ≤ (0 : Int):=(by omega);have q410 : 0 < (t407.length : Int):=of_decide_eq_true (by first|(with_reducible assumption)|assumption);obtain ⟨ad410,e410,hx410_0⟩:=Kd.at_int (Kd.R_reads' HO409.out).2.2 0 p410 q410;cases e410;have qi410 : (0 < t407.length) = True:=eq_true (by omega);(try rw [show ((0 : Int)).toNat = 0 from rfl] at hx410_0);(try rw [Addr.add_zero'] at hx410_0);replace p410:=eq_true p410;replace q410:=eq_true q410)|((with_reducible refine gate_dst (N:=62) rfl ?_);refine Kd.R_lit (Kd.int .i64) _ 3 ?hg (N:=62) ?hd (xs:=([x14_1,(rd t395 x24_2),rd t400 x35_3,rd t407 0] : List Int)) (inner:=[.int .i64 x14_1,.int .i64 (rd t395 x24_2),.int .i64 (rd t400 x35_3),.int .i64 (rd t407 0)]) (ok:=fun _=>True) (okp:=fun _=>True) ?hr ?hp (fun _ hk=>hk) trivial (Below.refl _ _) (Nat.le_refl _) (by simp) ?_;(case hd=>rfl);(case hg=>rfl);(case hr=>first|(go_simp;done)|(go_simp;rfl));(case hp=>exact (Reps.one (show Kd.M (Kd.int .i64) _ _ _ x14_1 [.int .i64 x14_1] from rfl) (Reps.one (show Kd.M (Kd.int .i64) _ _ _ (rd t395 x24_2) [.int .i64 (rd t395 x24_2)] from rfl) (Reps.one (show Kd.M (Kd.int .i64) _ _ _ (rd t400 x35_3) [.int .i64 (rd t400 x35_3)] from rfl) (Reps.one (show Kd.M (Kd.int .i64) _ _ _ (rd t407 0) [.int .i64 (rd t407 0)] from rfl) (Reps.none _ _))))));intro v412 w39 ho40 hb hg_ hnew_;clear hg_ hnew_;(first|rw [← Ny411.out] at ho40|(simp only [Int.reduceToNat] at ho40;rw [← Ny411.out] at ho40));have HO413:=A_ (Kd.R_lower (Kd.R_new' (Kd.R_new' (Kd.R_new' (Kd.R_new' ho40 (Kd.R_lt (rl_ HO_3))) (Kd.R_lt (rl_ HO_22))) (Kd.R_lt (rl_ HO_33))) (Kd.R_lt (rl_ HO409))) (below_size bb_));replace HO_3:=A_ (Kd.R_elder' (rl_ HO_3) (Kd.R_base ho40) hb);replace HO_22:=A_ (Kd.R_elder' (rl_ HO_22) (Kd.R_base ho40) hb);replace HO_33:=A_ (Kd.R_elder' (rl_ HO_33) (Kd.R_base ho40) hb);replace HO409:=A_ (Kd.R_elder' (rl_ HO409) (Kd.R_base ho40) hb);replace BK390:=bz BK390 hb;replace HB:=A_ (below_step bb_ hb);clear hb ho40)))
                          go_ret
                          exact ⟨_,by first|rfl|(simp [errW_none,errW_some] <;> rfl)|(simp [*,errW_none,errW_some] <;> rfl),by (with_reducible repeat (first|apply Kd.R_alloc|apply Kd.R_drewN|apply Kd.R_drew));exact Kd.R_mono HO413.out (fun _ hk=>trivial),bb_,by first|trivial|rfl|(intro he_;first|rfl|(rw [Ny411.out] at he_;cases he_)|(cases he_))⟩
                         ·rw [if_neg c35] at H;exact absurd H (by simp)
                       ·rw [if_neg c31] at H;exact absurd H (by simp)
                      ·rw [if_neg c30] at H;exact absurd H (by simp)
                     ·rw [if_neg c29] at H;exact absurd H (by simp)
                    ·rw [if_neg c28] at H;exact absurd H (by simp)
                   ·rw [if_neg c27] at H;exact absurd H (by simp)
                  ·rw [if_neg c26] at H;exact absurd H (by simp)
                 ·rw [if_neg c25] at H;exact absurd H (by simp)
                ·rw [if_neg c24] at H;exact absurd H (by simp)
               ·rw [if_neg c23] at H;have c23b0 : decide (x35_3 < (t400.length : Int)) = false:=decide_eq_false c23;clear c23;have H':=A_ H;clear H;go_wp2
                repeat (go_quiet (fail);try go_wp2)
                go_roundg k3
                case measure=>have:=HK1.out;have:=HK2.out;have:=HK3.out;omega
                case rel=>exact ⟨(wrap64 (x24_2 + 1)),(by first|rfl|(simp;done)|(simp [*];done)),H',⟨by have:=HK1.out;have:=HK2.out;have:=HK3.out;omega⟩,⟨by (with_reducible repeat (first|apply Kd.R_alloc|apply Kd.R_drewN|apply Kd.R_drew));exact Kd.R_mono HO_3.out (fun _ hk=>hk.1)⟩,⟨by (with_reducible repeat (first|apply Kd.R_alloc|apply Kd.R_drewN|apply Kd.R_drew));exact Kd.R_mono HO_22.out (fun _ hk=>hk.1)⟩,⟨bl_ BK390⟩,⟨bb_⟩⟩
            ·rw [if_neg c18] at H;exact absurd H (by simp)
           ·rw [if_neg c17] at H;exact absurd H (by simp)
          ·rw [if_neg c16] at H;exact absurd H (by simp)
         ·rw [if_neg c15] at H;exact absurd H (by simp)
        ·rw [if_neg c14] at H;have c14b0 : decide (x24_2 < (t395.length : Int)) = false:=decide_eq_false c14;clear c14;have H':=A_ H;clear H;go_wp2
         repeat (go_quiet (fail);try go_wp2)
         go_roundg k2
         case measure=>have:=HK1.out;have:=HK2.out;omega
         case rel=>exact ⟨(wrap64 (x14_1 + 1)),(by first|rfl|(simp;done)|(simp [*];done)),H',⟨by have:=HK1.out;have:=HK2.out;omega⟩,⟨by (with_reducible repeat (first|apply Kd.R_alloc|apply Kd.R_drewN|apply Kd.R_drew));exact Kd.R_mono HO_3.out (fun _ hk=>trivial)⟩,⟨bl_ BK390⟩,⟨bb_⟩⟩
     ·rw [if_neg c9] at H;exact absurd H (by simp)
    ·rw [if_neg c8] at H;exact absurd H (by simp)
   ·rw [if_neg c7] at H;have c7b0 : decide (x14_1 < a0_0) = false:=decide_eq_false c7;clear c7;obtain rfl:=Option.some.inj H;go_wp2
    repeat (go_quiet (fail);try go_wp2)
    go_ret
    exact ⟨_,by first|rfl|(simp [errW_none,errW_some] <;> rfl)|(simp [*,errW_none,errW_some] <;> rfl),by first|exact Kd.R_nil _ _ _ _ _|exact Kd.N_nil _ _ _ _ _|exact Kd.V_nil _ _ _ _ _|exact Kd.Q_nil _ _ _ _ _|exact Kd.S_nil _ _ _ _ _,bb_,by first|trivial|rfl|(intro he_;first|rfl|(rw [Ny411.out] at he_;cases he_)|(cases he_))⟩
mutual
def impl_Order_twoTwo.l0 : Nat → Int → Int → Int → List Int → Option (List Int)
 | 0,_,_,_,_=>none
 | k + 1,x8,x9,x415000,x415001=>if x9 < x8 then (impl_Order_twoTwo.l1 k x9 x8 x9 x415000 0 x415000 x415001) else (some ([] : List Int))
def impl_Order_twoTwo.l1 : Nat → Int → Int → Int → Int → Int → Int → List Int → Option (List Int)
 | 0,_,_,_,_,_,_,_=>none
 | k + 1,x3,x8,x9,x13,x14,x415000,x415001=>if x14 < x13 then (impl_Order_twoTwo.l2 k x3 x14 x8 x9 x13 x14 x415000 0 x415000 x415001) else (impl_Order_twoTwo.l0 k x8 (wrap64 (x9 + 1)) x415000 x415001)
def impl_Order_twoTwo.l2 : Nat → Int → Int → Int → Int → Int → Int → Int → Int → Int → List Int → Option (List Int)
 | 0,_,_,_,_,_,_,_,_,_,_=>none
 | k + 1,x3,x4,x8,x9,x13,x14,x18,x19,x415000,x415001=>if x19 < x18 then (impl_Order_twoTwo.l3 k x3 x4 x19 x8 x9 x13 x14 x18 x19 x415000 0 x415000 x415001) else (impl_Order_twoTwo.l1 k x3 x8 x9 x13 (wrap64 (x14 + 1)) x415000 x415001)
def impl_Order_twoTwo.l3 : Nat → Int → Int → Int → Int → Int → Int → Int → Int → Int → Int → Int → Int → List Int → Option (List Int)
 | 0,_,_,_,_,_,_,_,_,_,_,_,_,_=>none
 | k + 1,x3,x4,x5,x8,x9,x13,x14,x18,x19,x23,x24,x415000,x415001=>if x24 < x23 then ((impl_Order_better.f x415000 x415001 x3 x4).bind fun t415=>(if t415 = true then ((impl_Order_better.f x415000 x415001 x5 x24).bind fun t416=>(if t416 = true then ((impl_Order_better.f x415000 x415001 x5 x4).bind fun t417=>(if t417 = true then (impl_Order_twoTwo.l3 k x3 x4 x5 x8 x9 x13 x14 x18 x19 x23 (wrap64 (x24 + 1)) x415000 x415001) else ((impl_Order_better.f x415000 x415001 x3 x24).bind fun t418=>(if t418 = true then (impl_Order_twoTwo.l3 k x3 x4 x5 x8 x9 x13 x14 x18 x19 x23 (wrap64 (x24 + 1)) x415000 x415001) else (some (([x3,x4,x5,x24] : List Int))))))) else (impl_Order_twoTwo.l3 k x3 x4 x5 x8 x9 x13 x14 x18 x19 x23 (wrap64 (x24 + 1)) x415000 x415001))) else (impl_Order_twoTwo.l3 k x3 x4 x5 x8 x9 x13 x14 x18 x19 x23 (wrap64 (x24 + 1)) x415000 x415001))) else (impl_Order_twoTwo.l2 k x3 x4 x8 x9 x13 x14 x18 (wrap64 (x19 + 1)) x415000 x415001)
end
def impl_Order_twoTwo.f (k : Nat) (a0_0 : Int) (l0_1 : List Int) : Option (List Int) := impl_Order_twoTwo.l0 k a0_0 0 a0_0 l0_1
set_option maxHeartbeats 8000000 in
set_option maxRecDepth 100000 in
theorem impl_Order_twoTwo.calls (k : Nat) (a0_0 : Int) (A0_1 : Option Addr) (c0_1 : Nat) (l0_1 : List Int) (r : List Int) (w : World) (hr0_1 : Kd.C (Kd.int .i64) w A0_1 l0_1.length l0_1) (hc0_1 : l0_1.length ≤ c0_1) (h : impl_Order_twoTwo.f k a0_0 l0_1 = some r) :
 Calls Tryd.prog 175 #[.agg #[.int .i64 a0_0,.slice A0_1 l0_1.length c0_1]] w fun e w'=>∃ v0_ : Value,e = .returned (v0_) ∧ Kd.R (Kd.int .i64) 3 w' w.heap.size (fun _=>True) v0_ r ∧ Below w.heap.size w w' ∧ (r = [] → v0_ = .slice none 0 0):=by
 have hu26:=Tryd.underlying26;have HR0_1:=A_ hr0_1;have HC0_1:=A_ hc0_1;clear hr0_1 hc0_1;have HB:=A_ (Below.refl w.heap.size w);have H : (impl_Order_twoTwo.l0 k a0_0 0 a0_0 l0_1) = some r:=h;clear h;have H':=A_ H;clear H;go_enter Tryd.func175,Tryd.ntmps175
 go_wp2_with (first|((with_reducible refine gate_dst (N:=1) rfl ?_);refine box_event ?hg (N:=1) ?hd (cs:=#[.int .i64 a0_0,.slice A0_1 l0_1.length c0_1]) (t:=26) ?hr ?_;(case hd=>rfl);(case hg=>rfl);(case hr=>first|(go_simp;done)|(go_simp;rfl));intro gb414 hg w2 hbox hb;have BK414:=A_ (hbox);have GW414:=A_ ((by rw [hg];exact (below_size bb_) : w.heap.size ≤ gb414));have GE414:=A_ ((by rw [hg];exact (below_size bb_) : w.heap.size ≤ gb414));replace HB:=A_ (below_step bb_ hb);clear hb hbox hg;have hcz3_0 : w2.cell? ⟨gb414,0,none⟩ = some (.int .i64 a0_0):=blk_cell BK414.out 0;have hcz3_1 : w2.cell? ⟨gb414,1,none⟩ = some (.slice A0_1 l0_1.length c0_1):=blk_cell BK414.out 1;have hfz3_0:=blk_frozen BK414.out 0;have hfz3_1:=blk_frozen BK414.out 1))
 go_loopg [9] k (fun kq v9 w'=>∃ (x9_1 : Int),v9 = .int .i64 x9_1 ∧ Aside0 (impl_Order_twoTwo.l0 kq a0_0 x9_1 a0_0 l0_1 = some r) ∧ Aside0 (kq ≤ k) ∧ Aside0 (w'.heap[gb414]? = some (.cells #[.int .i64 a0_0,(.slice A0_1 l0_1.length c0_1)] 26 (0,0))) ∧ Aside0 (Below w.heap.size w w'))
 case atStart=>exact ⟨(0),(by first|rfl|(simp;done)|(simp [*];done)),H',⟨Nat.le_refl _⟩,⟨bl_ BK414⟩,⟨bb_⟩⟩
 case round =>
  clear H';try clear c1
  try clear p2
  try clear hcz3_0
  try clear hcz3_1
  try clear hfz3_0
  try clear hfz3_1
  obtain ⟨x9_1,rfl,HA,HK1,BK414,HB⟩:=hrel;cases gk with
  | zero => exact absurd HA.out (by simp [impl_Order_twoTwo.l0])
  | succ k1 =>
   have H:=HA.out;clear HA;simp only [impl_Order_twoTwo.l0] at H
   by_cases c4 : x9_1 < a0_0
   ·rw [if_pos c4] at H;have c4b0 : decide (x9_1 < a0_0) = true:=decide_eq_true c4;clear c4;have H':=A_ H;clear H;have hcz5_0 : wr.cell? ⟨gb414,0,none⟩ = some (.int .i64 a0_0):=blk_cell BK414.out 0;have hcz5_1 : wr.cell? ⟨gb414,1,none⟩ = some (.slice A0_1 l0_1.length c0_1):=blk_cell BK414.out 1;have hfz5_0:=blk_frozen BK414.out 0;have hfz5_1:=blk_frozen BK414.out 1;go_wp2
    go_loopg [14] k1 (fun kq v14 w'=>∃ (x14_2 : Int),v14 = .int .i64 x14_2 ∧ Aside0 (impl_Order_twoTwo.l1 kq x9_1 a0_0 x9_1 a0_0 x14_2 a0_0 l0_1 = some r) ∧ Aside0 (kq ≤ k1) ∧ Aside0 (w'.heap[gb414]? = some (.cells #[.int .i64 a0_0,(.slice A0_1 l0_1.length c0_1)] 26 (0,0))) ∧ Aside0 (Below w.heap.size w w'))
    case atStart=>exact ⟨(0),(by first|rfl|(simp;done)|(simp [*];done)),H',⟨Nat.le_refl _⟩,⟨bl_ BK414⟩,⟨bb_⟩⟩
    case round =>
     clear H';try clear c1
     try clear p2
     try clear c4
     try clear c4b0
     try clear hcz3_0
     try clear hcz3_1
     try clear hcz5_0
     try clear hcz5_1
     try clear hfz3_0
     try clear hfz3_1
     try clear hfz5_0
     try clear hfz5_1
     try clear p2
     obtain ⟨x14_2,rfl,HA,HK2,BK414,HB⟩:=hrel;cases gk with
     | zero=>exact absurd HA.out (by simp [impl_Order_twoTwo.l1])
     | succ k2 =>
      have H:=HA.out;clear HA;simp only [impl_Order_twoTwo.l1] at H
      by_cases c6 : x14_2 < a0_0
      ·rw [if_pos c6] at H;have c6b0 : decide (x14_2 < a0_0) = true:=decide_eq_true c6;clear c6;have H':=A_ H;clear H;have hcz7_0 : wr.cell? ⟨gb414,0,none⟩ = some (.int .i64 a0_0):=blk_cell BK414.out 0;have hcz7_1 : wr.cell? ⟨gb414,1,none⟩ = some (.slice A0_1 l0_1.length c0_1):=blk_cell BK414.out 1;have hfz7_0:=blk_frozen BK414.out 0;have hfz7_1:=blk_frozen BK414.out 1;go_wp2
       go_loopg [19] k2 (fun kq v19 w'=>∃ (x19_3 : Int),v19 = .int .i64 x19_3 ∧ Aside0 (impl_Order_twoTwo.l2 kq x9_1 x14_2 a0_0 x9_1 a0_0 x14_2 a0_0 x19_3 a0_0 l0_1 = some r) ∧ Aside0 (kq ≤ k2) ∧ Aside0 (w'.heap[gb414]? = some (.cells #[.int .i64 a0_0,(.slice A0_1 l0_1.length c0_1)] 26 (0,0))) ∧ Aside0 (Below w.heap.size w w'))
       case atStart=>exact ⟨(0),(by first|rfl|(simp;done)|(simp [*];done)),H',⟨Nat.le_refl _⟩,⟨bl_ BK414⟩,⟨bb_⟩⟩
       case round =>
        clear H';try clear c1
        try clear p2
        try clear c4
        try clear c4b0
        try clear c6
        try clear c6b0
        try clear hcz3_0
        try clear hcz3_1
        try clear hcz5_0
        try clear hcz5_1
        try clear hcz7_0
        try clear hcz7_1
        try clear hfz3_0
        try clear hfz3_1
        try clear hfz5_0
        try clear hfz5_1
        try clear hfz7_0
        try clear hfz7_1
        try clear p2
        obtain ⟨x19_3,rfl,HA,HK3,BK414,HB⟩:=hrel;cases gk with
        | zero=>exact absurd HA.out (by simp [impl_Order_twoTwo.l2])
        | succ k3 =>
         have H:=HA.out;clear HA;simp only [impl_Order_twoTwo.l2] at H
         by_cases c8 : x19_3 < a0_0
         ·rw [if_pos c8] at H;have c8b0 : decide (x19_3 < a0_0) = true:=decide_eq_true c8;clear c8;have H':=A_ H;clear H;have hcz9_0 : wr.cell? ⟨gb414,0,none⟩ = some (.int .i64 a0_0):=blk_cell BK414.out 0;have hcz9_1 : wr.cell? ⟨gb414,1,none⟩ = some (.slice A0_1 l0_1.length c0_1):=blk_cell BK414.out 1;have hfz9_0:=blk_frozen BK414.out 0;have hfz9_1:=blk_frozen BK414.out 1;go_wp2
          go_loopg [24] k3 (fun kq v24 w'=>∃ (x24_4 : Int),v24 = .int .i64 x24_4 ∧ Aside0 (impl_Order_twoTwo.l3 kq x9_1 x14_2 x19_3 a0_0 x9_1 a0_0 x14_2 a0_0 x19_3 a0_0 x24_4 a0_0 l0_1 = some r) ∧ Aside0 (kq ≤ k3) ∧ Aside0 (w'.heap[gb414]? = some (.cells #[.int .i64 a0_0,(.slice A0_1 l0_1.length c0_1)] 26 (0,0))) ∧ Aside0 (Below w.heap.size w w'))
          case atStart=>exact ⟨(0),(by first|rfl|(simp;done)|(simp [*];done)),H',⟨Nat.le_refl _⟩,⟨bl_ BK414⟩,⟨bb_⟩⟩
          case round =>
           clear H';try clear c1
           try clear p2
           try clear c4
           try clear c4b0
           try clear c6
           try clear c6b0
           try clear c8
           try clear c8b0
           try clear hcz3_0
           try clear hcz3_1
           try clear hcz5_0
           try clear hcz5_1
           try clear hcz7_0
           try clear hcz7_1
           try clear hcz9_0
           try clear hcz9_1
           try clear hfz3_0
           try clear hfz3_1
           try clear hfz5_0
           try clear hfz5_1
           try clear hfz7_0
           try clear hfz7_1
           try clear hfz9_0
           try clear hfz9_1
           try clear p2
           obtain ⟨x24_4,rfl,HA,HK4,BK414,HB⟩:=hrel;cases gk with
           | zero=>exact absurd HA.out (by simp [impl_Order_twoTwo.l3])
           | succ k4 =>
            have H:=HA.out;clear HA;simp only [impl_Order_twoTwo.l3] at H
            by_cases c10 : x24_4 < a0_0
            ·rw [if_pos c10] at H;have c10b0 : decide (x24_4 < a0_0) = true:=decide_eq_true c10;clear c10;replace H:=Option.bind_eq_some_iff.mp H;obtain ⟨t415,A110,H⟩:=H;replace H : (if t415 = true then ((impl_Order_better.f a0_0 l0_1 x19_3 x24_4).bind fun t416=>(if t416 = true then ((impl_Order_better.f a0_0 l0_1 x19_3 x14_2).bind fun t417=>(if t417 = true then (impl_Order_twoTwo.l3 k4 x9_1 x14_2 x19_3 a0_0 x9_1 a0_0 x14_2 a0_0 x19_3 a0_0 (wrap64 (x24_4 + 1)) a0_0 l0_1) else ((impl_Order_better.f a0_0 l0_1 x9_1 x24_4).bind fun t418=>(if t418 = true then (impl_Order_twoTwo.l3 k4 x9_1 x14_2 x19_3 a0_0 x9_1 a0_0 x14_2 a0_0 x19_3 a0_0 (wrap64 (x24_4 + 1)) a0_0 l0_1) else (some (([x9_1,x14_2,x19_3,x24_4] : List Int))))))) else (impl_Order_twoTwo.l3 k4 x9_1 x14_2 x19_3 a0_0 x9_1 a0_0 x14_2 a0_0 x19_3 a0_0 (wrap64 (x24_4 + 1)) a0_0 l0_1))) else (impl_Order_twoTwo.l3 k4 x9_1 x14_2 x19_3 a0_0 x9_1 a0_0 x14_2 a0_0 x19_3 a0_0 (wrap64 (x24_4 + 1)) a0_0 l0_1)) = some r:=H;have A11:=A_ A110;clear A110;by_cases c12 : t415 = true
             ·subst c12;have H1 : ((impl_Order_better.f a0_0 l0_1 x19_3 x24_4).bind fun t416=>(if t416 = true then ((impl_Order_better.f a0_0 l0_1 x19_3 x14_2).bind fun t417=>(if t417 = true then (impl_Order_twoTwo.l3 k4 x9_1 x14_2 x19_3 a0_0 x9_1 a0_0 x14_2 a0_0 x19_3 a0_0 (wrap64 (x24_4 + 1)) a0_0 l0_1) else ((impl_Order_better.f a0_0 l0_1 x9_1 x24_4).bind fun t418=>(if t418 = true then (impl_Order_twoTwo.l3 k4 x9_1 x14_2 x19_3 a0_0 x9_1 a0_0 x14_2 a0_0 x19_3 a0_0 (wrap64 (x24_4 + 1)) a0_0 l0_1) else (some (([x9_1,x14_2,x19_3,x24_4] : List Int))))))) else (impl_Order_twoTwo.l3 k4 x9_1 x14_2 x19_3 a0_0 x9_1 a0_0 x14_2 a0_0 x19_3 a0_0 (wrap64 (x24_4 + 1)) a0_0 l0_1))) = some r:=by rw [if_pos rfl] at H;exact H
              clear H;have H:=H1;clear H1;replace H:=Option.bind_eq_some_iff.mp H;obtain ⟨t416,A130,H⟩:=H;replace H : (if t416 = true then ((impl_Order_better.f a0_0 l0_1 x19_3 x14_2).bind fun t417=>(if t417 = true then (impl_Order_twoTwo.l3 k4 x9_1 x14_2 x19_3 a0_0 x9_1 a0_0 x14_2 a0_0 x19_3 a0_0 (wrap64 (x24_4 + 1)) a0_0 l0_1) else ((impl_Order_better.f a0_0 l0_1 x9_1 x24_4).bind fun t418=>(if t418 = true then (impl_Order_twoTwo.l3 k4 x9_1 x14_2 x19_3 a0_0 x9_1 a0_0 x14_2 a0_0 x19_3 a0_0 (wrap64 (x24_4 + 1)) a0_0 l0_1) else (some (([x9_1,x14_2,x19_3,x24_4] : List Int))))))) else (impl_Order_twoTwo.l3 k4 x9_1 x14_2 x19_3 a0_0 x9_1 a0_0 x14_2 a0_0 x19_3 a0_0 (wrap64 (x24_4 + 1)) a0_0 l0_1)) = some r:=H;have A13:=A_ A130;clear A130;by_cases c14 : t416 = true
              ·subst c14;have H1 : ((impl_Order_better.f a0_0 l0_1 x19_3 x14_2).bind fun t417=>(if t417 = true then (impl_Order_twoTwo.l3 k4 x9_1 x14_2 x19_3 a0_0 x9_1 a0_0 x14_2 a0_0 x19_3 a0_0 (wrap64 (x24_4 + 1)) a0_0 l0_1) else ((impl_Order_better.f a0_0 l0_1 x9_1 x24_4).bind fun t418=>(if t418 = true then (impl_Order_twoTwo.l3 k4 x9_1 x14_2 x19_3 a0_0 x9_1 a0_0 x14_2 a0_0 x19_3 a0_0 (wrap64 (x24_4 + 1)) a0_0 l0_1) else (some (([x9_1,x14_2,x19_3,x24_4] : List Int))))))) = some r:=by rw [if_pos rfl] at H;exact H
               clear H;have H:=H1;clear H1;replace H:=Option.bind_eq_some_iff.mp H;obtain ⟨t417,A150,H⟩:=H;replace H : (if t417 = true then (impl_Order_twoTwo.l3 k4 x9_1 x14_2 x19_3 a0_0 x9_1 a0_0 x14_2 a0_0 x19_3 a0_0 (wrap64 (x24_4 + 1)) a0_0 l0_1) else ((impl_Order_better.f a0_0 l0_1 x9_1 x24_4).bind fun t418=>(if t418 = true then (impl_Order_twoTwo.l3 k4 x9_1 x14_2 x19_3 a0_0 x9_1 a0_0 x14_2 a0_0 x19_3 a0_0 (wrap64 (x24_4 + 1)) a0_0 l0_1) else (some (([x9_1,x14_2,x19_3,x24_4] : List Int)))))) = some r:=H;have A15:=A_ A150;clear A150;by_cases c16 : t417 = true
               ·subst c16;have H1 : (impl_Order_twoTwo.l3 k4 x9_1 x14_2 x19_3 a0_0 x9_1 a0_0 x14_2 a0_0 x19_3 a0_0 (wrap64 (x24_4 + 1)) a0_0 l0_1) = some r:=by rw [if_pos rfl] at H;exact H
                clear H;have H:=H1;clear H1;have H':=A_ H;clear H;have hcz17_0 : wr.cell? ⟨gb414,0,none⟩ = some (.int .i64 a0_0):=blk_cell BK414.out 0;have hcz17_1 : wr.cell? ⟨gb414,1,none⟩ = some (.slice A0_1 l0_1.length c0_1):=blk_cell BK414.out 1;have hfz17_0:=blk_frozen BK414.out 0;have hfz17_1:=blk_frozen BK414.out 1;go_wp2_with (first|((with_reducible refine gate_callee (f:=87) rfl ?_);refine goesL_ (some 30) rfl rfl Tryd.func87 (by kernel_rfl) rfl #[.agg #[.int .i64 a0_0,.slice A0_1 l0_1.length c0_1],.int .i64 x9_1,.int .i64 x14_2] rfl au_ ?_;(with_reducible refine (impl_Order_better.calls a0_0 _ _ l0_1 x9_1 x14_2 true _ ?side1 ?side2 A11.out).mono ?_);(case side1=>exact cl_ (Kd.C_below HR0_1.out HB.out));(case side2=>exact HC0_1.out);rintro e w18 ⟨rfl,hb⟩;refine ⟨_,rfl,?_⟩;replace BK414:=bz BK414 hb;replace HB:=A_ (below_step bb_ hb);(try clear hb);(try clear hb2);(try clear hk);(try clear hi);have hcz19_0 : w18.cell? ⟨gb414,0,none⟩ = some (.int .i64 a0_0):=blk_cell BK414.out 0;have hcz19_1 : w18.cell? ⟨gb414,1,none⟩ = some (.slice A0_1 l0_1.length c0_1):=blk_cell BK414.out 1;have hfz19_0:=blk_frozen BK414.out 0;have hfz19_1:=blk_frozen BK414.out 1)|(go_at_call 87;(with_reducible refine (impl_Order_better.calls a0_0 _ _ l0_1 x19_3 x24_4 true _ ?side1 ?side2 A13.out).mono ?_);(case side1=>exact cl_ (Kd.C_below HR0_1.out HB.out));(case side2=>exact HC0_1.out);rintro e w20 ⟨rfl,hb⟩;replace BK414:=bz BK414 hb;replace HB:=A_ (below_step bb_ hb);(try clear hb);(try clear hb2);(try clear hk);(try clear hi);have hcz21_0 : w20.cell? ⟨gb414,0,none⟩ = some (.int .i64 a0_0):=blk_cell BK414.out 0;have hcz21_1 : w20.cell? ⟨gb414,1,none⟩ = some (.slice A0_1 l0_1.length c0_1):=blk_cell BK414.out 1;have hfz21_0:=blk_frozen BK414.out 0;have hfz21_1:=blk_frozen BK414.out 1)|(go_at_call 87;(with_reducible refine (impl_Order_better.calls a0_0 _ _ l0_1 x19_3 x14_2 true _ ?side1 ?side2 A15.out).mono ?_);(case side1=>exact cl_ (Kd.C_below HR0_1.out HB.out));(case side2=>exact HC0_1.out);rintro e w22 ⟨rfl,hb⟩;replace BK414:=bz BK414 hb;replace HB:=A_ (below_step bb_ hb);(try clear hb);(try clear hb2);(try clear hk);(try clear hi)))
                go_roundg k4
                case measure=>have:=HK1.out;have:=HK2.out;have:=HK3.out;have:=HK4.out;omega
                case rel=>exact ⟨(wrap64 (x24_4 + 1)),(by first|rfl|(simp;done)|(simp [*];done)),H',⟨by have:=HK1.out;have:=HK2.out;have:=HK3.out;have:=HK4.out;omega⟩,⟨bl_ BK414⟩,⟨bb_⟩⟩
               ·replace c16:=Bool.eq_false_iff.mpr c16;subst c16;have H1 : ((impl_Order_better.f a0_0 l0_1 x9_1 x24_4).bind fun t418=>(if t418 = true then (impl_Order_twoTwo.l3 k4 x9_1 x14_2 x19_3 a0_0 x9_1 a0_0 x14_2 a0_0 x19_3 a0_0 (wrap64 (x24_4 + 1)) a0_0 l0_1) else (some (([x9_1,x14_2,x19_3,x24_4] : List Int))))) = some r:=by rw [if_neg (show ¬ (false = true) by decide)] at H;exact H
                clear H;have H:=H1;clear H1;replace H:=Option.bind_eq_some_iff.mp H;obtain ⟨t418,A230,H⟩:=H;replace H : (if t418 = true then (impl_Order_twoTwo.l3 k4 x9_1 x14_2 x19_3 a0_0 x9_1 a0_0 x14_2 a0_0 x19_3 a0_0 (wrap64 (x24_4 + 1)) a0_0 l0_1) else (some (([x9_1,x14_2,x19_3,x24_4] : List Int)))) = some r:=H;have A23:=A_ A230;clear A230;by_cases c24 : t418 = true
                ·subst c24;have H1 : (impl_Order_twoTwo.l3 k4 x9_1 x14_2 x19_3 a0_0 x9_1 a0_0 x14_2 a0_0 x19_3 a0_0 (wrap64 (x24_4 + 1)) a0_0 l0_1) = some r:=by rw [if_pos rfl] at H;exact H
                 clear H;have H:=H1;clear H1;have H':=A_ H;clear H;have hcz25_0 : wr.cell? ⟨gb414,0,none⟩ = some (.int .i64 a0_0):=blk_cell BK414.out 0;have hcz25_1 : wr.cell? ⟨gb414,1,none⟩ = some (.slice A0_1 l0_1.length c0_1):=blk_cell BK414.out 1;have hfz25_0:=blk_frozen BK414.out 0;have hfz25_1:=blk_frozen BK414.out 1;go_wp2_with (first|((with_reducible refine gate_callee (f:=87) rfl ?_);refine goesL_ (some 30) rfl rfl Tryd.func87 (by kernel_rfl) rfl #[.agg #[.int .i64 a0_0,.slice A0_1 l0_1.length c0_1],.int .i64 x9_1,.int .i64 x14_2] rfl au_ ?_;(with_reducible refine (impl_Order_better.calls a0_0 _ _ l0_1 x9_1 x14_2 true _ ?side1 ?side2 A11.out).mono ?_);(case side1=>exact cl_ (Kd.C_below HR0_1.out HB.out));(case side2=>exact HC0_1.out);rintro e w26 ⟨rfl,hb⟩;refine ⟨_,rfl,?_⟩;replace BK414:=bz BK414 hb;replace HB:=A_ (below_step bb_ hb);(try clear hb);(try clear hb2);(try clear hk);(try clear hi);have hcz27_0 : w26.cell? ⟨gb414,0,none⟩ = some (.int .i64 a0_0):=blk_cell BK414.out 0;have hcz27_1 : w26.cell? ⟨gb414,1,none⟩ = some (.slice A0_1 l0_1.length c0_1):=blk_cell BK414.out 1;have hfz27_0:=blk_frozen BK414.out 0;have hfz27_1:=blk_frozen BK414.out 1)|(go_at_call 87;(with_reducible refine (impl_Order_better.calls a0_0 _ _ l0_1 x19_3 x24_4 true _ ?side1 ?side2 A13.out).mono ?_);(case side1=>exact cl_ (Kd.C_below HR0_1.out HB.out));(case side2=>exact HC0_1.out);rintro e w28 ⟨rfl,hb⟩;replace BK414:=bz BK414 hb;replace HB:=A_ (below_step bb_ hb);(try clear hb);(try clear hb2);(try clear hk);(try clear hi);have hcz29_0 : w28.cell? ⟨gb414,0,none⟩ = some (.int .i64 a0_0):=blk_cell BK414.out 0;have hcz29_1 : w28.cell? ⟨gb414,1,none⟩ = some (.slice A0_1 l0_1.length c0_1):=blk_cell BK414.out 1;have hfz29_0:=blk_frozen BK414.out 0;have hfz29_1:=blk_frozen BK414.out 1)|(go_at_call 87;(with_reducible refine (impl_Order_better.calls a0_0 _ _ l0_1 x19_3 x14_2 false _ ?side1 ?side2 A15.out).mono ?_);(case side1=>exact cl_ (Kd.C_below HR0_1.out HB.out));(case side2=>exact HC0_1.out);rintro e w30 ⟨rfl,hb⟩;replace BK414:=bz BK414 hb;replace HB:=A_ (below_step bb_ hb);(try clear hb);(try clear hb2);(try clear hk);(try clear hi);have hcz31_0 : w30.cell? ⟨gb414,0,none⟩ = some (.int .i64 a0_0):=blk_cell BK414.out 0;have hcz31_1 : w30.cell? ⟨gb414,1,none⟩ = some (.slice A0_1 l0_1.length c0_1):=blk_cell BK414.out 1;have hfz31_0:=blk_frozen BK414.out 0;have hfz31_1:=blk_frozen BK414.out 1)|(go_at_call 87;(with_reducible refine (impl_Order_better.calls a0_0 _ _ l0_1 x9_1 x24_4 true _ ?side1 ?side2 A23.out).mono ?_);(case side1=>exact cl_ (Kd.C_below HR0_1.out HB.out));(case side2=>exact HC0_1.out);rintro e w32 ⟨rfl,hb⟩;replace BK414:=bz BK414 hb;replace HB:=A_ (below_step bb_ hb);(try clear hb);(try clear hb2);(try clear hk);(try clear hi)))
                 go_roundg k4
                 case measure=>have:=HK1.out;have:=HK2.out;have:=HK3.out;have:=HK4.out;omega
                 case rel=>exact ⟨(wrap64 (x24_4 + 1)),(by first|rfl|(simp;done)|(simp [*];done)),H',⟨by have:=HK1.out;have:=HK2.out;have:=HK3.out;have:=HK4.out;omega⟩,⟨bl_ BK414⟩,⟨bb_⟩⟩
                ·replace c24:=Bool.eq_false_iff.mpr c24;subst c24;have H1 : (some (([x9_1,x14_2,x19_3,x24_4] : List Int))) = some r:=by rw [if_neg (show ¬ (false = true) by decide)] at H;exact H
                 clear H;have H:=H1;clear H1;obtain ⟨y419,hy419⟩ : ∃ y_ : List Int,y_ = (([x9_1,x14_2,x19_3,x24_4] : List Int)):=⟨_,rfl⟩;replace H : (some y419) = some r:=by first|(rw [hy419];with_reducible exact H)|(have H2_:=(Option.bind_some _ _).symm.trans H;rw [hy419];with_reducible exact H2_)|(have H2_:=(Option.bind_some _ _).symm.trans H;with_reducible exact H2_)|with_reducible exact H|(rw [hy419];exact H)|exact H
                 have Ny419:=A_ hy419;clear hy419;obtain rfl:=Option.some.inj H;have hcz33_0 : wr.cell? ⟨gb414,0,none⟩ = some (.int .i64 a0_0):=blk_cell BK414.out 0;have hcz33_1 : wr.cell? ⟨gb414,1,none⟩ = some (.slice A0_1 l0_1.length c0_1):=blk_cell BK414.out 1;have hfz33_0:=blk_frozen BK414.out 0;have hfz33_1:=blk_frozen BK414.out 1;go_wp2_with (first|((with_reducible refine gate_callee (f:=87) rfl ?_);refine goesL_ (some 30) rfl rfl Tryd.func87 (by kernel_rfl) rfl #[.agg #[.int .i64 a0_0,.slice A0_1 l0_1.length c0_1],.int .i64 x9_1,.int .i64 x14_2] rfl au_ ?_;(with_reducible refine (impl_Order_better.calls a0_0 _ _ l0_1 x9_1 x14_2 true _ ?side1 ?side2 A11.out).mono ?_);(case side1=>exact cl_ (Kd.C_below HR0_1.out HB.out));(case side2=>exact HC0_1.out);rintro e w34 ⟨rfl,hb⟩;refine ⟨_,rfl,?_⟩;replace BK414:=bz BK414 hb;replace HB:=A_ (below_step bb_ hb);(try clear hb);(try clear hb2);(try clear hk);(try clear hi);have hcz35_0 : w34.cell? ⟨gb414,0,none⟩ = some (.int .i64 a0_0):=blk_cell BK414.out 0;have hcz35_1 : w34.cell? ⟨gb414,1,none⟩ = some (.slice A0_1 l0_1.length c0_1):=blk_cell BK414.out 1;have hfz35_0:=blk_frozen BK414.out 0;have hfz35_1:=blk_frozen BK414.out 1)|(go_at_call 87;(with_reducible refine (impl_Order_better.calls a0_0 _ _ l0_1 x19_3 x24_4 true _ ?side1 ?side2 A13.out).mono ?_);(case side1=>exact cl_ (Kd.C_below HR0_1.out HB.out));(case side2=>exact HC0_1.out);rintro e w36 ⟨rfl,hb⟩;replace BK414:=bz BK414 hb;replace HB:=A_ (below_step bb_ hb);(try clear hb);(try clear hb2);(try clear hk);(try clear hi);have hcz37_0 : w36.cell? ⟨gb414,0,none⟩ = some (.int .i64 a0_0):=blk_cell BK414.out 0;have hcz37_1 : w36.cell? ⟨gb414,1,none⟩ = some (.slice A0_1 l0_1.length c0_1):=blk_cell BK414.out 1;have hfz37_0:=blk_frozen BK414.out 0;have hfz37_1:=blk_frozen BK414.out 1)|(go_at_call 87;(with_reducible refine (impl_Order_better.calls a0_0 _ _ l0_1 x19_3 x14_2 false _ ?side1 ?side2 A15.out).mono ?_);(case side1=>exact cl_ (Kd.C_below HR0_1.out HB.out));(case side2=>exact HC0_1.out);rintro e w38 ⟨rfl,hb⟩;replace BK414:=bz BK414 hb;replace HB:=A_ (below_step bb_ hb);(try clear hb);(try clear hb2);(try clear hk);(try clear hi);have hcz39_0 : w38.cell? ⟨gb414,0,none⟩ = some (.int .i64 a0_0):=blk_cell BK414.out 0;have hcz39_1 : w38.cell? ⟨gb414,1,none⟩ = some (.slice A0_1 l0_1.length c0_1):=blk_cell BK414.out 1;have hfz39_0:=blk_frozen BK414.out 0;have hfz39_1:=blk_frozen BK414.out 1)|(go_at_call 87;(with_reducible refine (impl_Order_better.calls a0_0 _ _ l0_1 x9_1 x24_4 false _ ?side1 ?side2 A23.out).mono ?_);(case side1=>exact cl_ (Kd.C_below HR0_1.out HB.out));(case side2=>exact HC0_1.out);rintro e w40 ⟨rfl,hb⟩;replace BK414:=bz BK414 hb;replace HB:=A_ (below_step bb_ hb);(try clear hb);(try clear hb2);(try clear hk);(try clear hi))|((with_reducible refine gate_dst (N:=55) rfl ?_);refine Kd.R_lit (Kd.int .i64) _ 3 ?hg (N:=55) ?hd (xs:=([x9_1,x14_2,x19_3,x24_4] : List Int)) (inner:=[.int .i64 x9_1,.int .i64 x14_2,.int .i64 x19_3,.int .i64 x24_4]) (ok:=fun _=>True) (okp:=fun _=>True) ?hr ?hp (fun _ hk=>hk) trivial (Below.refl _ _) (Nat.le_refl _) (by simp) ?_;(case hd=>rfl);(case hg=>rfl);(case hr=>first|(go_simp;done)|(go_simp;rfl));(case hp=>exact (Reps.one (show Kd.M (Kd.int .i64) _ _ _ x9_1 [.int .i64 x9_1] from rfl) (Reps.one (show Kd.M (Kd.int .i64) _ _ _ x14_2 [.int .i64 x14_2] from rfl) (Reps.one (show Kd.M (Kd.int .i64) _ _ _ x19_3 [.int .i64 x19_3] from rfl) (Reps.one (show Kd.M (Kd.int .i64) _ _ _ x24_4 [.int .i64 x24_4] from rfl) (Reps.none _ _))))));intro v420 w41 ho42 hb hg_ hnew_;clear hg_ hnew_;(first|rw [← Ny419.out] at ho42|(simp only [Int.reduceToNat] at ho42;rw [← Ny419.out] at ho42));have HO421:=A_ (Kd.R_lower ho42 (below_size bb_));replace BK414:=bz BK414 hb;replace HB:=A_ (below_step bb_ hb);clear hb ho42))
                 go_ret
                 exact ⟨_,by first|rfl|(simp [errW_none,errW_some] <;> rfl)|(simp [*,errW_none,errW_some] <;> rfl),by (with_reducible repeat (first|apply Kd.R_alloc|apply Kd.R_drewN|apply Kd.R_drew));exact HO421.out,bb_,by first|trivial|rfl|(intro he_;first|rfl|(rw [Ny419.out] at he_;cases he_)|(cases he_))⟩
              ·replace c14:=Bool.eq_false_iff.mpr c14;subst c14;have H1 : (impl_Order_twoTwo.l3 k4 x9_1 x14_2 x19_3 a0_0 x9_1 a0_0 x14_2 a0_0 x19_3 a0_0 (wrap64 (x24_4 + 1)) a0_0 l0_1) = some r:=by rw [if_neg (show ¬ (false = true) by decide)] at H;exact H
               clear H;have H:=H1;clear H1;have H':=A_ H;clear H;have hcz43_0 : wr.cell? ⟨gb414,0,none⟩ = some (.int .i64 a0_0):=blk_cell BK414.out 0;have hcz43_1 : wr.cell? ⟨gb414,1,none⟩ = some (.slice A0_1 l0_1.length c0_1):=blk_cell BK414.out 1;have hfz43_0:=blk_frozen BK414.out 0;have hfz43_1:=blk_frozen BK414.out 1;go_wp2_with (first|((with_reducible refine gate_callee (f:=87) rfl ?_);refine goesL_ (some 30) rfl rfl Tryd.func87 (by kernel_rfl) rfl #[.agg #[.int .i64 a0_0,.slice A0_1 l0_1.length c0_1],.int .i64 x9_1,.int .i64 x14_2] rfl au_ ?_;(with_reducible refine (impl_Order_better.calls a0_0 _ _ l0_1 x9_1 x14_2 true _ ?side1 ?side2 A11.out).mono ?_);(case side1=>exact cl_ (Kd.C_below HR0_1.out HB.out));(case side2=>exact HC0_1.out);rintro e w44 ⟨rfl,hb⟩;refine ⟨_,rfl,?_⟩;replace BK414:=bz BK414 hb;replace HB:=A_ (below_step bb_ hb);(try clear hb);(try clear hb2);(try clear hk);(try clear hi);have hcz45_0 : w44.cell? ⟨gb414,0,none⟩ = some (.int .i64 a0_0):=blk_cell BK414.out 0;have hcz45_1 : w44.cell? ⟨gb414,1,none⟩ = some (.slice A0_1 l0_1.length c0_1):=blk_cell BK414.out 1;have hfz45_0:=blk_frozen BK414.out 0;have hfz45_1:=blk_frozen BK414.out 1)|(go_at_call 87;(with_reducible refine (impl_Order_better.calls a0_0 _ _ l0_1 x19_3 x24_4 false _ ?side1 ?side2 A13.out).mono ?_);(case side1=>exact cl_ (Kd.C_below HR0_1.out HB.out));(case side2=>exact HC0_1.out);rintro e w46 ⟨rfl,hb⟩;replace BK414:=bz BK414 hb;replace HB:=A_ (below_step bb_ hb);(try clear hb);(try clear hb2);(try clear hk);(try clear hi)))
               go_roundg k4
               case measure=>have:=HK1.out;have:=HK2.out;have:=HK3.out;have:=HK4.out;omega
               case rel=>exact ⟨(wrap64 (x24_4 + 1)),(by first|rfl|(simp;done)|(simp [*];done)),H',⟨by have:=HK1.out;have:=HK2.out;have:=HK3.out;have:=HK4.out;omega⟩,⟨bl_ BK414⟩,⟨bb_⟩⟩
             ·replace c12:=Bool.eq_false_iff.mpr c12;subst c12;have H1 : (impl_Order_twoTwo.l3 k4 x9_1 x14_2 x19_3 a0_0 x9_1 a0_0 x14_2 a0_0 x19_3 a0_0 (wrap64 (x24_4 + 1)) a0_0 l0_1) = some r:=by rw [if_neg (show ¬ (false = true) by decide)] at H;exact H
              clear H;have H:=H1;clear H1;have H':=A_ H;clear H;have hcz47_0 : wr.cell? ⟨gb414,0,none⟩ = some (.int .i64 a0_0):=blk_cell BK414.out 0;have hcz47_1 : wr.cell? ⟨gb414,1,none⟩ = some (.slice A0_1 l0_1.length c0_1):=blk_cell BK414.out 1;have hfz47_0:=blk_frozen BK414.out 0;have hfz47_1:=blk_frozen BK414.out 1;go_wp2_with (first|((with_reducible refine gate_callee (f:=87) rfl ?_);refine goesL_ (some 30) rfl rfl Tryd.func87 (by kernel_rfl) rfl #[.agg #[.int .i64 a0_0,.slice A0_1 l0_1.length c0_1],.int .i64 x9_1,.int .i64 x14_2] rfl au_ ?_;(with_reducible refine (impl_Order_better.calls a0_0 _ _ l0_1 x9_1 x14_2 false _ ?side1 ?side2 A11.out).mono ?_);(case side1=>exact cl_ (Kd.C_below HR0_1.out HB.out));(case side2=>exact HC0_1.out);rintro e w48 ⟨rfl,hb⟩;refine ⟨_,rfl,?_⟩;replace BK414:=bz BK414 hb;replace HB:=A_ (below_step bb_ hb);(try clear hb);(try clear hb2);(try clear hk);(try clear hi)))
              go_roundg k4
              case measure=>have:=HK1.out;have:=HK2.out;have:=HK3.out;have:=HK4.out;omega
              case rel=>exact ⟨(wrap64 (x24_4 + 1)),(by first|rfl|(simp;done)|(simp [*];done)),H',⟨by have:=HK1.out;have:=HK2.out;have:=HK3.out;have:=HK4.out;omega⟩,⟨bl_ BK414⟩,⟨bb_⟩⟩
            ·rw [if_neg c10] at H;have c10b0 : decide (x24_4 < a0_0) = false:=decide_eq_false c10;clear c10;have H':=A_ H;clear H;go_wp2
             go_roundg k4
             case measure=>have:=HK1.out;have:=HK2.out;have:=HK3.out;have:=HK4.out;omega
             case rel=>exact ⟨(wrap64 (x19_3 + 1)),(by first|rfl|(simp;done)|(simp [*];done)),H',⟨by have:=HK1.out;have:=HK2.out;have:=HK3.out;have:=HK4.out;omega⟩,⟨bl_ BK414⟩,⟨bb_⟩⟩
         ·rw [if_neg c8] at H;have c8b0 : decide (x19_3 < a0_0) = false:=decide_eq_false c8;clear c8;have H':=A_ H;clear H;go_wp2
          go_roundg k3
          case measure=>have:=HK1.out;have:=HK2.out;have:=HK3.out;omega
          case rel=>exact ⟨(wrap64 (x14_2 + 1)),(by first|rfl|(simp;done)|(simp [*];done)),H',⟨by have:=HK1.out;have:=HK2.out;have:=HK3.out;omega⟩,⟨bl_ BK414⟩,⟨bb_⟩⟩
      ·rw [if_neg c6] at H;have c6b0 : decide (x14_2 < a0_0) = false:=decide_eq_false c6;clear c6;have H':=A_ H;clear H;go_wp2
       go_roundg k2
       case measure=>have:=HK1.out;have:=HK2.out;omega
       case rel=>exact ⟨(wrap64 (x9_1 + 1)),(by first|rfl|(simp;done)|(simp [*];done)),H',⟨by have:=HK1.out;have:=HK2.out;omega⟩,⟨bl_ BK414⟩,⟨bb_⟩⟩
   ·rw [if_neg c4] at H;have c4b0 : decide (x9_1 < a0_0) = false:=decide_eq_false c4;clear c4;obtain rfl:=Option.some.inj H;go_wp2
    go_ret
    exact ⟨_,by first|rfl|(simp [errW_none,errW_some] <;> rfl)|(simp [*,errW_none,errW_some] <;> rfl),by first|exact Kd.R_nil _ _ _ _ _|exact Kd.N_nil _ _ _ _ _|exact Kd.V_nil _ _ _ _ _|exact Kd.Q_nil _ _ _ _ _|exact Kd.S_nil _ _ _ _ _,bb_,by first|trivial|rfl|(intro he_;first|rfl|(rw [Ny419.out] at he_;cases he_)|(cases he_))⟩
theorem impl_isInterval.nilAt {P : Program} (w : World) (d : Nat) (t e : TypeId) (a : Option Addr) (l c : Nat) (h : P.underlying t = some (.slice e)) : (Op.equalIn (d + 1) t (.slice a l c) (.slice none 0 0)).run P w = .ok a.isNone w:=by
 cases a <;> simp [Op.equalIn,run_underlying h]
theorem impl_isInterval.nilOf {P : Program} (w : World) (t e : TypeId) (a : Option Addr) (l c : Nat) (h : P.underlying t = some (.slice e)) : (binOp .eql t (.slice a l c) (.slice none 0 0)).run P w = .ok (.bool a.isNone) w:=by
 have h1 : (Op.equal t (.slice a l c) (.slice none 0 0)).run P w = .ok a.isNone w:=impl_isInterval.nilAt w 9999 t e a l c h;simp [binOp,h1]
theorem impl_isInterval.nilNo {P : Program} (w : World) (t e : TypeId) (a : Option Addr) (l c : Nat) (h : P.underlying t = some (.slice e)) : (binOp .neq t (.slice a l c) (.slice none 0 0)).run P w = .ok (.bool (!a.isNone)) w:=by
 have h1 : (Op.equal t (.slice a l c) (.slice none 0 0)).run P w = .ok a.isNone w:=impl_isInterval.nilAt w 9999 t e a l c h;simp [binOp,h1]
theorem impl_isInterval.nilE (w : World) (a : Option Addr) (l c : Nat) : (binOp .eql 22 (.slice a l c) (.slice none 0 0)).run Tryd.prog w = .ok (.bool a.isNone) w:=impl_isInterval.nilOf w _ _ a l c Tryd.underlying22
theorem impl_isInterval.nilN (w : World) (a : Option Addr) (l c : Nat) : (binOp .neq 22 (.slice a l c) (.slice none 0 0)).run Tryd.prog w = .ok (.bool (!a.isNone)) w:=impl_isInterval.nilNo w _ _ a l c Tryd.underlying22
theorem impl_isInterval.nilFact {w : World} {base e : Nat} {ok : Nat → Prop} {A : Option Addr} {n c : Nat} {xs : List Int} (h : Kd.R (Kd.int .i64) e w base ok (.slice A n c) xs) (hz : xs = [] → (.slice A n c : Value) = .slice none 0 0) : A.isNone = (xs == ([] : List Int)):=by
 by_cases hx : xs = []
 ·have:=hz hx;injection this with h1;rw [h1,hx];rfl
 ·obtain ⟨hn,_,hC⟩:=Kd.R_reads' h;have hpos : 0 < xs.length:=List.length_pos_iff.2 hx;obtain ⟨ad,e1,_⟩:=hC.2.2 hpos;rw [e1];cases xs with
  | nil => exact absurd rfl hx
  | cons x l => rfl
attribute [local go_sem] impl_isInterval.nilE impl_isInterval.nilN
def impl_isInterval.f (k : Nat) (a0_0 : Int) (l0_1 : List Int) : Option (Bool) := (impl_IsOrder.f k a0_0 l0_1).bind fun t423 => (if t423 = true then ((impl_Order_twoTwo.f k a0_0 l0_1).bind fun t424 => (some (t424 == ([] : List Int)))) else (some false))
set_option maxHeartbeats 8000000 in
set_option maxRecDepth 100000 in
theorem impl_isInterval.calls (k : Nat) (a0_0 : Int) (A0_1 : Option Addr) (c0_1 : Nat) (l0_1 : List Int) (r : Bool) (w : World) (hr0_1 : Kd.C (Kd.int .i64) w A0_1 l0_1.length l0_1) (hc0_1 : l0_1.length ≤ c0_1) (hT : TabOK w) (h : impl_isInterval.f k a0_0 l0_1 = some r) :
 Calls Tryd.prog 152 #[.agg #[.int .i64 a0_0,.slice A0_1 l0_1.length c0_1]] w fun e w'=>e = .returned (.bool r) ∧ Below w.heap.size w w':=by
 have hu26:=Tryd.underlying26;have HT:=A_ hT;clear hT;have HR0_1:=A_ hr0_1;have HC0_1:=A_ hc0_1;clear hr0_1 hc0_1;have HB:=A_ (Below.refl w.heap.size w);have H : ((impl_IsOrder.f k a0_0 l0_1).bind fun t423=>(if t423 = true then ((impl_Order_twoTwo.f k a0_0 l0_1).bind fun t424=>(some (t424 == ([] : List Int)))) else (some false))) = some r:=h;clear h;replace H:=Option.bind_eq_some_iff.mp H;obtain ⟨t423,A20,H⟩:=H;replace H : (if t423 = true then ((impl_Order_twoTwo.f k a0_0 l0_1).bind fun t424=>(some (t424 == ([] : List Int)))) else (some false)) = some r:=H;have A2:=A_ A20;clear A20;by_cases c3 : t423 = true
 ·subst c3;have H1 : ((impl_Order_twoTwo.f k a0_0 l0_1).bind fun t424=>(some (t424 == ([] : List Int)))) = some r:=by rw [if_pos rfl] at H;exact H
  clear H;have H:=H1;clear H1;replace H:=Option.bind_eq_some_iff.mp H;obtain ⟨t424,A40,H⟩:=H;replace H : (some (t424 == ([] : List Int))) = some r:=H;have A4:=A_ A40;clear A40;obtain rfl:=Option.some.inj H;go_enter Tryd.func152,Tryd.ntmps152
  go_wp2_with (first|((with_reducible refine gate_dst (N:=1) rfl ?_);refine box_event ?hg (N:=1) ?hd (cs:=#[.int .i64 a0_0,.slice A0_1 l0_1.length c0_1]) (t:=26) ?hr ?_;(case hd=>rfl);(case hg=>rfl);(case hr=>first|(go_simp;done)|(go_simp;rfl));intro gb422 hg w5 hbox hb;have BK422:=A_ (hbox);have GW422:=A_ ((by rw [hg];exact (below_size bb_) : w.heap.size ≤ gb422));have GE422:=A_ ((by rw [hg];exact (below_size bb_) : w.heap.size ≤ gb422));replace HB:=A_ (below_step bb_ hb);clear hb hbox hg;have hcz6_0 : w5.cell? ⟨gb422,0,none⟩ = some (.int .i64 a0_0):=blk_cell BK422.out 0;have hcz6_1 : w5.cell? ⟨gb422,1,none⟩ = some (.slice A0_1 l0_1.length c0_1):=blk_cell BK422.out 1;have hfz6_0:=blk_frozen BK422.out 0;have hfz6_1:=blk_frozen BK422.out 1)|((with_reducible refine gate_callee (f:=32) rfl ?_);refine goesL_ (some 4) rfl rfl Tryd.func32 (by kernel_rfl) rfl #[.agg #[.int .i64 a0_0,.slice A0_1 l0_1.length c0_1]] rfl au_ ?_;(with_reducible refine (impl_IsOrder.calls k a0_0 _ _ l0_1 true _ ?side1 ?side2 ?side3 A2.out).mono ?_);(case side1=>exact cl_ (Kd.C_below HR0_1.out HB.out));(case side2=>exact HC0_1.out);(case side3=>first|exact HT.out|exact HT.out.below bb_|(repeat (first|exact HT.out|apply TabOK.drewN|apply TabOK.drew|apply TabOK.alloc)));rintro e w7 ⟨rfl,hb⟩;refine ⟨_,rfl,?_⟩;replace BK422:=bz BK422 hb;replace HB:=A_ (below_step bb_ hb);(try clear hb);(try clear hb2);(try clear hk);(try clear hi);have hcz8_0 : w7.cell? ⟨gb422,0,none⟩ = some (.int .i64 a0_0):=blk_cell BK422.out 0;have hcz8_1 : w7.cell? ⟨gb422,1,none⟩ = some (.slice A0_1 l0_1.length c0_1):=blk_cell BK422.out 1;have hfz8_0:=blk_frozen BK422.out 0;have hfz8_1:=blk_frozen BK422.out 1)|(go_at_call 175;(with_reducible refine (impl_Order_twoTwo.calls k a0_0 _ _ l0_1 t424 _ ?side1 ?side2 A4.out).mono ?_);(case side1=>exact cl_ (Kd.C_below HR0_1.out HB.out));(case side2=>exact HC0_1.out);rintro e w9 ⟨v425,rfl,ho0,hb,hz_⟩;have HO426:=A_ (Kd.R_lower ho0 (below_size bb_));replace BK422:=bz BK422 hb;replace HB:=A_ (below_step bb_ hb);(try clear hb);(try clear hb2);(try clear hk);(try clear hi);(try clear ho0);obtain ⟨Ao10,co10,eo10⟩:=Kd.R_slice HO426.out;subst eo10;(try have hnl10:=impl_isInterval.nilFact HO426.out hz_);(try clear hz_)))
  go_ret
  exact ⟨by first|rfl|(rw [hnl10] <;> rfl)|(simp [*,errW_none,errW_some] <;> exact ⟨rfl,impl_isInterval.nilB _⟩)|(simp [errW_none,errW_some] <;> rfl)|(simp [*,errW_none,errW_some] <;> rfl),bb_⟩
 ·replace c3:=Bool.eq_false_iff.mpr c3;subst c3;have H1 : (some false) = some r:=by rw [if_neg (show ¬ (false = true) by decide)] at H;exact H
  clear H;have H:=H1;clear H1;obtain rfl:=Option.some.inj H;go_enter Tryd.func152,Tryd.ntmps152
  go_wp2_with (first|((with_reducible refine gate_dst (N:=1) rfl ?_);refine box_event ?hg (N:=1) ?hd (cs:=#[.int .i64 a0_0,.slice A0_1 l0_1.length c0_1]) (t:=26) ?hr ?_;(case hd=>rfl);(case hg=>rfl);(case hr=>first|(go_simp;done)|(go_simp;rfl));intro gb422 hg w11 hbox hb;have BK422:=A_ (hbox);have GW422:=A_ ((by rw [hg];exact (below_size bb_) : w.heap.size ≤ gb422));have GE422:=A_ ((by rw [hg];exact (below_size bb_) : w.heap.size ≤ gb422));replace HB:=A_ (below_step bb_ hb);clear hb hbox hg;have hcz12_0 : w11.cell? ⟨gb422,0,none⟩ = some (.int .i64 a0_0):=blk_cell BK422.out 0;have hcz12_1 : w11.cell? ⟨gb422,1,none⟩ = some (.slice A0_1 l0_1.length c0_1):=blk_cell BK422.out 1;have hfz12_0:=blk_frozen BK422.out 0;have hfz12_1:=blk_frozen BK422.out 1)|((with_reducible refine gate_callee (f:=32) rfl ?_);refine goesL_ (some 4) rfl rfl Tryd.func32 (by kernel_rfl) rfl #[.agg #[.int .i64 a0_0,.slice A0_1 l0_1.length c0_1]] rfl au_ ?_;(with_reducible refine (impl_IsOrder.calls k a0_0 _ _ l0_1 false _ ?side1 ?side2 ?side3 A2.out).mono ?_);(case side1=>exact cl_ (Kd.C_below HR0_1.out HB.out));(case side2=>exact HC0_1.out);(case side3=>first|exact HT.out|exact HT.out.below bb_|(repeat (first|exact HT.out|apply TabOK.drewN|apply TabOK.drew|apply TabOK.alloc)));rintro e w13 ⟨rfl,hb⟩;refine ⟨_,rfl,?_⟩;replace BK422:=bz BK422 hb;replace HB:=A_ (below_step bb_ hb);(try clear hb);(try clear hb2);(try clear hk);(try clear hi)))
  go_ret
  exact ⟨by first|rfl|(rw [hnl10] <;> rfl)|(simp [*,errW_none,errW_some] <;> exact ⟨rfl,impl_isInterval.nilB _⟩)|(simp [errW_none,errW_some] <;> rfl)|(simp [*,errW_none,errW_some] <;> rfl),bb_⟩
theorem impl_isSemi.nilAt {P : Program} (w : World) (d : Nat) (t e : TypeId) (a : Option Addr) (l c : Nat) (h : P.underlying t = some (.slice e)) : (Op.equalIn (d + 1) t (.slice a l c) (.slice none 0 0)).run P w = .ok a.isNone w:=by
 cases a <;> simp [Op.equalIn,run_underlying h]
theorem impl_isSemi.nilOf {P : Program} (w : World) (t e : TypeId) (a : Option Addr) (l c : Nat) (h : P.underlying t = some (.slice e)) : (binOp .eql t (.slice a l c) (.slice none 0 0)).run P w = .ok (.bool a.isNone) w:=by
 have h1 : (Op.equal t (.slice a l c) (.slice none 0 0)).run P w = .ok a.isNone w:=impl_isSemi.nilAt w 9999 t e a l c h;simp [binOp,h1]
theorem impl_isSemi.nilNo {P : Program} (w : World) (t e : TypeId) (a : Option Addr) (l c : Nat) (h : P.underlying t = some (.slice e)) : (binOp .neq t (.slice a l c) (.slice none 0 0)).run P w = .ok (.bool (!a.isNone)) w:=by
 have h1 : (Op.equal t (.slice a l c) (.slice none 0 0)).run P w = .ok a.isNone w:=impl_isSemi.nilAt w 9999 t e a l c h;simp [binOp,h1]
theorem impl_isSemi.nilE (w : World) (a : Option Addr) (l c : Nat) : (binOp .eql 22 (.slice a l c) (.slice none 0 0)).run Tryd.prog w = .ok (.bool a.isNone) w:=impl_isSemi.nilOf w _ _ a l c Tryd.underlying22
theorem impl_isSemi.nilN (w : World) (a : Option Addr) (l c : Nat) : (binOp .neq 22 (.slice a l c) (.slice none 0 0)).run Tryd.prog w = .ok (.bool (!a.isNone)) w:=impl_isSemi.nilNo w _ _ a l c Tryd.underlying22
theorem impl_isSemi.nilFact {w : World} {base e : Nat} {ok : Nat → Prop} {A : Option Addr} {n c : Nat} {xs : List Int} (h : Kd.R (Kd.int .i64) e w base ok (.slice A n c) xs) (hz : xs = [] → (.slice A n c : Value) = .slice none 0 0) : A.isNone = (xs == ([] : List Int)):=by
 by_cases hx : xs = []
 ·have:=hz hx;injection this with h1;rw [h1,hx];rfl
 ·obtain ⟨hn,_,hC⟩:=Kd.R_reads' h;have hpos : 0 < xs.length:=List.length_pos_iff.2 hx;obtain ⟨ad,e1,_⟩:=hC.2.2 hpos;rw [e1];cases xs with
  | nil => exact absurd rfl hx
  | cons x l => rfl
attribute [local go_sem] impl_isSemi.nilE impl_isSemi.nilN
def impl_isSemi.f (k : Nat) (a0_0 : Int) (l0_1 : List Int) : Option (Bool) := (impl_isInterval.f k a0_0 l0_1).bind fun t428 => (if t428 = true then ((impl_Order_threeOne.f k a0_0 l0_1).bind fun t429 => (some (t429 == ([] : List Int)))) else (some false))
set_option maxHeartbeats 8000000 in
set_option maxRecDepth 100000 in
theorem impl_isSemi.calls (k : Nat) (a0_0 : Int) (A0_1 : Option Addr) (c0_1 : Nat) (l0_1 : List Int) (r : Bool) (w : World) (hr0_1 : Kd.C (Kd.int .i64) w A0_1 l0_1.length l0_1) (hc0_1 : l0_1.length ≤ c0_1) (hT : TabOK w) (h : impl_isSemi.f k a0_0 l0_1 = some r) :
 Calls Tryd.prog 98 #[.agg #[.int .i64 a0_0,.slice A0_1 l0_1.length c0_1]] w fun e w'=>e = .returned (.bool r) ∧ Below w.heap.size w w':=by
 have hu26:=Tryd.underlying26;have HT:=A_ hT;clear hT;have HR0_1:=A_ hr0_1;have HC0_1:=A_ hc0_1;clear hr0_1 hc0_1;have HB:=A_ (Below.refl w.heap.size w);have H : ((impl_isInterval.f k a0_0 l0_1).bind fun t428=>(if t428 = true then ((impl_Order_threeOne.f k a0_0 l0_1).bind fun t429=>(some (t429 == ([] : List Int)))) else (some false))) = some r:=h;clear h;replace H:=Option.bind_eq_some_iff.mp H;obtain ⟨t428,A20,H⟩:=H;replace H : (if t428 = true then ((impl_Order_threeOne.f k a0_0 l0_1).bind fun t429=>(some (t429 == ([] : List Int)))) else (some false)) = some r:=H;have A2:=A_ A20;clear A20;by_cases c3 : t428 = true
 ·subst c3;have H1 : ((impl_Order_threeOne.f k a0_0 l0_1).bind fun t429=>(some (t429 == ([] : List Int)))) = some r:=by rw [if_pos rfl] at H;exact H
  clear H;have H:=H1;clear H1;replace H:=Option.bind_eq_some_iff.mp H;obtain ⟨t429,A40,H⟩:=H;replace H : (some (t429 == ([] : List Int))) = some r:=H;have A4:=A_ A40;clear A40;obtain rfl:=Option.some.inj H;go_enter Tryd.func98,Tryd.ntmps98
  go_wp2_with (first|((with_reducible refine gate_dst (N:=1) rfl ?_);refine box_event ?hg (N:=1) ?hd (cs:=#[.int .i64 a0_0,.slice A0_1 l0_1.length c0_1]) (t:=26) ?hr ?_;(case hd=>rfl);(case hg=>rfl);(case hr=>first|(go_simp;done)|(go_simp;rfl));intro gb427 hg w5 hbox hb;have BK427:=A_ (hbox);have GW427:=A_ ((by rw [hg];exact (below_size bb_) : w.heap.size ≤ gb427));have GE427:=A_ ((by rw [hg];exact (below_size bb_) : w.heap.size ≤ gb427));replace HB:=A_ (below_step bb_ hb);clear hb hbox hg;have hcz6_0 : w5.cell? ⟨gb427,0,none⟩ = some (.int .i64 a0_0):=blk_cell BK427.out 0;have hcz6_1 : w5.cell? ⟨gb427,1,none⟩ = some (.slice A0_1 l0_1.length c0_1):=blk_cell BK427.out 1;have hfz6_0:=blk_frozen BK427.out 0;have hfz6_1:=blk_frozen BK427.out 1)|((with_reducible refine gate_callee (f:=152) rfl ?_);refine goesL_ (some 4) rfl rfl Tryd.func152 (by kernel_rfl) rfl #[.agg #[.int .i64 a0_0,.slice A0_1 l0_1.length c0_1]] rfl au_ ?_;(with_reducible refine (impl_isInterval.calls k a0_0 _ _ l0_1 true _ ?side1 ?side2 ?side3 A2.out).mono ?_);(case side1=>exact cl_ (Kd.C_below HR0_1.out HB.out));(case side2=>exact HC0_1.out);(case side3=>first|exact HT.out|exact HT.out.below bb_|(repeat (first|exact HT.out|apply TabOK.drewN|apply TabOK.drew|apply TabOK.alloc)));rintro e w7 ⟨rfl,hb⟩;refine ⟨_,rfl,?_⟩;replace BK427:=bz BK427 hb;replace HB:=A_ (below_step bb_ hb);(try clear hb);(try clear hb2);(try clear hk);(try clear hi);have hcz8_0 : w7.cell? ⟨gb427,0,none⟩ = some (.int .i64 a0_0):=blk_cell BK427.out 0;have hcz8_1 : w7.cell? ⟨gb427,1,none⟩ = some (.slice A0_1 l0_1.length c0_1):=blk_cell BK427.out 1;have hfz8_0:=blk_frozen BK427.out 0;have hfz8_1:=blk_frozen BK427.out 1)|(go_at_call 140;(with_reducible refine (impl_Order_threeOne.calls k a0_0 _ _ l0_1 t429 _ ?side1 ?side2 ?side3 A4.out).mono ?_);(case side1=>exact cl_ (Kd.C_below HR0_1.out HB.out));(case side2=>exact HC0_1.out);(case side3=>first|exact HT.out|exact HT.out.below bb_|(repeat (first|exact HT.out|apply TabOK.drewN|apply TabOK.drew|apply TabOK.alloc)));rintro e w9 ⟨v430,rfl,ho0,hb,hz_⟩;have HO431:=A_ (Kd.R_lower ho0 (below_size bb_));replace BK427:=bz BK427 hb;replace HB:=A_ (below_step bb_ hb);(try clear hb);(try clear hb2);(try clear hk);(try clear hi);(try clear ho0);obtain ⟨Ao10,co10,eo10⟩:=Kd.R_slice HO431.out;subst eo10;(try have hnl10:=impl_isSemi.nilFact HO431.out hz_);(try clear hz_)))
  go_ret
  exact ⟨by first|rfl|(rw [hnl10] <;> rfl)|(simp [*,errW_none,errW_some] <;> exact ⟨rfl,impl_isSemi.nilB _⟩)|(simp [errW_none,errW_some] <;> rfl)|(simp [*,errW_none,errW_some] <;> rfl),bb_⟩
 ·replace c3:=Bool.eq_false_iff.mpr c3;subst c3;have H1 : (some false) = some r:=by rw [if_neg (show ¬ (false = true) by decide)] at H;exact H
  clear H;have H:=H1;clear H1;obtain rfl:=Option.some.inj H;go_enter Tryd.func98,Tryd.ntmps98
  go_wp2_with (first|((with_reducible refine gate_dst (N:=1) rfl ?_);refine box_event ?hg (N:=1) ?hd (cs:=#[.int .i64 a0_0,.slice A0_1 l0_1.length c0_1]) (t:=26) ?hr ?_;(case hd=>rfl);(case hg=>rfl);(case hr=>first|(go_simp;done)|(go_simp;rfl));intro gb427 hg w11 hbox hb;have BK427:=A_ (hbox);have GW427:=A_ ((by rw [hg];exact (below_size bb_) : w.heap.size ≤ gb427));have GE427:=A_ ((by rw [hg];exact (below_size bb_) : w.heap.size ≤ gb427));replace HB:=A_ (below_step bb_ hb);clear hb hbox hg;have hcz12_0 : w11.cell? ⟨gb427,0,none⟩ = some (.int .i64 a0_0):=blk_cell BK427.out 0;have hcz12_1 : w11.cell? ⟨gb427,1,none⟩ = some (.slice A0_1 l0_1.length c0_1):=blk_cell BK427.out 1;have hfz12_0:=blk_frozen BK427.out 0;have hfz12_1:=blk_frozen BK427.out 1)|((with_reducible refine gate_callee (f:=152) rfl ?_);refine goesL_ (some 4) rfl rfl Tryd.func152 (by kernel_rfl) rfl #[.agg #[.int .i64 a0_0,.slice A0_1 l0_1.length c0_1]] rfl au_ ?_;(with_reducible refine (impl_isInterval.calls k a0_0 _ _ l0_1 false _ ?side1 ?side2 ?side3 A2.out).mono ?_);(case side1=>exact cl_ (Kd.C_below HR0_1.out HB.out));(case side2=>exact HC0_1.out);(case side3=>first|exact HT.out|exact HT.out.below bb_|(repeat (first|exact HT.out|apply TabOK.drewN|apply TabOK.drew|apply TabOK.alloc)));rintro e w13 ⟨rfl,hb⟩;refine ⟨_,rfl,?_⟩;replace BK427:=bz BK427 hb;replace HB:=A_ (below_step bb_ hb);(try clear hb);(try clear hb2);(try clear hk);(try clear hi)))
  go_ret
  exact ⟨by first|rfl|(rw [hnl10] <;> rfl)|(simp [*,errW_none,errW_some] <;> exact ⟨rfl,impl_isSemi.nilB _⟩)|(simp [errW_none,errW_some] <;> rfl)|(simp [*,errW_none,errW_some] <;> rfl),bb_⟩
def impl_IsSemiorder.f (k : Nat) (a0_0 : Int) (l0_1 : List Int) : Option (Bool × Bool) := (impl_IsOrder.f k a0_0 l0_1).bind fun t433 => (if t433 = true then ((impl_isSemi.f k a0_0 l0_1).bind fun t434 => (some (t434, true))) else (some (false, false)))
set_option maxHeartbeats 8000000 in
set_option maxRecDepth 100000 in
theorem impl_IsSemiorder.calls (k : Nat) (a0_0 : Int) (A0_1 : Option Addr) (c0_1 : Nat) (l0_1 : List Int) (r1 : Bool) (r2 : Bool) (w : World) (hr0_1 : Kd.C (Kd.int .i64) w A0_1 l0_1.length l0_1) (hc0_1 : l0_1.length ≤ c0_1) (hT : TabOK w) (h : impl_IsSemiorder.f k a0_0 l0_1 = some (r1,r2)) :
 Calls Tryd.prog 25 #[.agg #[.int .i64 a0_0,.slice A0_1 l0_1.length c0_1]] w fun e w'=>e = .returned (.tuple #[.bool r1,.bool r2]) ∧ Below w.heap.size w w':=by
 have hu26:=Tryd.underlying26;have HT:=A_ hT;clear hT;have HR0_1:=A_ hr0_1;have HC0_1:=A_ hc0_1;clear hr0_1 hc0_1;have HB:=A_ (Below.refl w.heap.size w);have H : ((impl_IsOrder.f k a0_0 l0_1).bind fun t433=>(if t433 = true then ((impl_isSemi.f k a0_0 l0_1).bind fun t434=>(some (t434,true))) else (some (false,false)))) = some (r1,r2):=h;clear h;replace H:=Option.bind_eq_some_iff.mp H;obtain ⟨t433,A20,H⟩:=H;replace H : (if t433 = true then ((impl_isSemi.f k a0_0 l0_1).bind fun t434=>(some (t434,true))) else (some (false,false))) = some (r1,r2):=H;have A2:=A_ A20;clear A20;by_cases c3 : t433 = true
 ·subst c3;have H1 : ((impl_isSemi.f k a0_0 l0_1).bind fun t434=>(some (t434,true))) = some (r1,r2):=by rw [if_pos rfl] at H;exact H
  clear H;have H:=H1;clear H1;replace H:=Option.bind_eq_some_iff.mp H;obtain ⟨t434,A40,H⟩:=H;replace H : (some (t434,true)) = some (r1,r2):=H;have A4:=A_ A40;clear A40;simp only [Option.some.injEq,Prod.mk.injEq] at H
  obtain ⟨rfl,rfl⟩:=H;go_enter Tryd.func25,Tryd.ntmps25
  go_wp2_with (first|((with_reducible refine gate_dst (N:=1) rfl ?_);refine box_event ?hg (N:=1) ?hd (cs:=#[.int .i64 a0_0,.slice A0_1 l0_1.length c0_1]) (t:=26) ?hr ?_;(case hd=>rfl);(case hg=>rfl);(case hr=>first|(go_simp;done)|(go_simp;rfl));intro gb432 hg w5 hbox hb;have BK432:=A_ (hbox);have GW432:=A_ ((by rw [hg];exact (below_size bb_) : w.heap.size ≤ gb432));have GE432:=A_ ((by rw [hg];exact (below_size bb_) : w.heap.size ≤ gb432));replace HB:=A_ (below_step bb_ hb);clear hb hbox hg;have hcz6_0 : w5.cell? ⟨gb432,0,none⟩ = some (.int .i64 a0_0):=blk_cell BK432.out 0;have hcz6_1 : w5.cell? ⟨gb432,1,none⟩ = some (.slice A0_1 l0_1.length c0_1):=blk_cell BK432.out 1;have hfz6_0:=blk_frozen BK432.out 0;have hfz6_1:=blk_frozen BK432.out 1)|((with_reducible refine gate_callee (f:=32) rfl ?_);refine goesL_ (some 5) rfl rfl Tryd.func32 (by kernel_rfl) rfl #[.agg #[.int .i64 a0_0,.slice A0_1 l0_1.length c0_1]] rfl au_ ?_;(with_reducible refine (impl_IsOrder.calls k a0_0 _ _ l0_1 true _ ?side1 ?side2 ?side3 A2.out).mono ?_);(case side1=>exact cl_ (Kd.C_below HR0_1.out HB.out));(case side2=>exact HC0_1.out);(case side3=>first|exact HT.out|exact HT.out.below bb_|(repeat (first|exact HT.out|apply TabOK.drewN|apply TabOK.drew|apply TabOK.alloc)));rintro e w7 ⟨rfl,hb⟩;refine ⟨_,rfl,?_⟩;replace BK432:=bz BK432 hb;replace HB:=A_ (below_step bb_ hb);(try clear hb);(try clear hb2);(try clear hk);(try clear hi);have hcz8_0 : w7.cell? ⟨gb432,0,none⟩ = some (.int .i64 a0_0):=blk_cell BK432.out 0;have hcz8_1 : w7.cell? ⟨gb432,1,none⟩ = some (.slice A0_1 l0_1.length c0_1):=blk_cell BK432.out 1;have hfz8_0:=blk_frozen BK432.out 0;have hfz8_1:=blk_frozen BK432.out 1)|((with_reducible refine gate_callee (f:=98) rfl ?_);refine goesL_ (some 8) rfl rfl Tryd.func98 (by kernel_rfl) rfl #[.agg #[.int .i64 a0_0,.slice A0_1 l0_1.length c0_1]] rfl au_ ?_;(with_reducible refine (impl_isSemi.calls k a0_0 _ _ l0_1 t434 _ ?side1 ?side2 ?side3 A4.out).mono ?_);(case side1=>exact cl_ (Kd.C_below HR0_1.out HB.out));(case side2=>exact HC0_1.out);(case side3=>first|exact HT.out|exact HT.out.below bb_|(repeat (first|exact HT.out|apply TabOK.drewN|apply TabOK.drew|apply TabOK.alloc)));rintro e w9 ⟨rfl,hb⟩;refine ⟨_,rfl,?_⟩;replace BK432:=bz BK432 hb;replace HB:=A_ (below_step bb_ hb);(try clear hb);(try clear hb2);(try clear hk);(try clear hi)))
  go_ret2
  exact ⟨by first|rfl|(simp [errW_none,errW_some] <;> rfl)|(simp [*,errW_none,errW_some] <;> rfl),bb_⟩
 ·replace c3:=Bool.eq_false_iff.mpr c3;subst c3;have H1 : (some (false,false)) = some (r1,r2):=by rw [if_neg (show ¬ (false = true) by decide)] at H;exact H
  clear H;have H:=H1;clear H1;simp only [Option.some.injEq,Prod.mk.injEq] at H
  obtain ⟨rfl,rfl⟩:=H;go_enter Tryd.func25,Tryd.ntmps25
  go_wp2_with (first|((with_reducible refine gate_dst (N:=1) rfl ?_);refine box_event ?hg (N:=1) ?hd (cs:=#[.int .i64 a0_0,.slice A0_1 l0_1.length c0_1]) (t:=26) ?hr ?_;(case hd=>rfl);(case hg=>rfl);(case hr=>first|(go_simp;done)|(go_simp;rfl));intro gb432 hg w10 hbox hb;have BK432:=A_ (hbox);have GW432:=A_ ((by rw [hg];exact (below_size bb_) : w.heap.size ≤ gb432));have GE432:=A_ ((by rw [hg];exact (below_size bb_) : w.heap.size ≤ gb432));replace HB:=A_ (below_step bb_ hb);clear hb hbox hg;have hcz11_0 : w10.cell? ⟨gb432,0,none⟩ = some (.int .i64 a0_0):=blk_cell BK432.out 0;have hcz11_1 : w10.cell? ⟨gb432,1,none⟩ = some (.slice A0_1 l0_1.length c0_1):=blk_cell BK432.out 1;have hfz11_0:=blk_frozen BK432.out 0;have hfz11_1:=blk_frozen BK432.out 1)|((with_reducible refine gate_callee (f:=32) rfl ?_);refine goesL_ (some 5) rfl rfl Tryd.func32 (by kernel_rfl) rfl #[.agg #[.int .i64 a0_0,.slice A0_1 l0_1.length c0_1]] rfl au_ ?_;(with_reducible refine (impl_IsOrder.calls k a0_0 _ _ l0_1 false _ ?side1 ?side2 ?side3 A2.out).mono ?_);(case side1=>exact cl_ (Kd.C_below HR0_1.out HB.out));(case side2=>exact HC0_1.out);(case side3=>first|exact HT.out|exact HT.out.below bb_|(repeat (first|exact HT.out|apply TabOK.drewN|apply TabOK.drew|apply TabOK.alloc)));rintro e w12 ⟨rfl,hb⟩;refine ⟨_,rfl,?_⟩;replace BK432:=bz BK432 hb;replace HB:=A_ (below_step bb_ hb);(try clear hb);(try clear hb2);(try clear hk);(try clear hi)))
  go_ret2
  exact ⟨by first|rfl|(simp [errW_none,errW_some] <;> rfl)|(simp [*,errW_none,errW_some] <;> rfl),bb_⟩
def impl_isThreshold.f (k : Nat) (a0_0 : Int) (l0_1 : List Int) (a1 : Int) : Option (Bool) := (impl_IsOrder.f k a0_0 l0_1).bind fun t436 => (if t436 = true then ((impl_within.f a1 1 10).bind fun t437 => (some t437)) else (some false))
set_option maxHeartbeats 8000000 in
set_option maxRecDepth 100000 in
theorem impl_isThreshold.calls (k : Nat) (a0_0 : Int) (A0_1 : Option Addr) (c0_1 : Nat) (l0_1 : List Int) (a1 : Int) (r : Bool) (w : World) (hr0_1 : Kd.C (Kd.int .i64) w A0_1 l0_1.length l0_1) (hc0_1 : l0_1.length ≤ c0_1) (hT : TabOK w) (h : impl_isThreshold.f k a0_0 l0_1 a1 = some r) :
 Calls Tryd.prog 99 #[.agg #[.int .i64 a0_0,.slice A0_1 l0_1.length c0_1],.int .i64 a1] w fun e w'=>e = .returned (.bool r) ∧ Below w.heap.size w w':=by
 have hu26:=Tryd.underlying26;have HT:=A_ hT;clear hT;have HR0_1:=A_ hr0_1;have HC0_1:=A_ hc0_1;clear hr0_1 hc0_1;have HB:=A_ (Below.refl w.heap.size w);have H : ((impl_IsOrder.f k a0_0 l0_1).bind fun t436=>(if t436 = true then ((impl_within.f a1 1 10).bind fun t437=>(some t437)) else (some false))) = some r:=h;clear h;replace H:=Option.bind_eq_some_iff.mp H;obtain ⟨t436,A30,H⟩:=H;replace H : (if t436 = true then ((impl_within.f a1 1 10).bind fun t437=>(some t437)) else (some false)) = some r:=H;have A3:=A_ A30;clear A30;by_cases c4 : t436 = true
 ·subst c4;have H1 : ((impl_within.f a1 1 10).bind fun t437=>(some t437)) = some r:=by rw [if_pos rfl] at H;exact H
  clear H;have H:=H1;clear H1;replace H:=Option.bind_eq_some_iff.mp H;obtain ⟨t437,A50,H⟩:=H;replace H : (some t437) = some r:=H;have A5:=A_ A50;clear A50;obtain rfl:=Option.some.inj H;go_enter Tryd.func99,Tryd.ntmps99
  go_wp2_with (first|((with_reducible refine gate_dst (N:=2) rfl ?_);refine box_event ?hg (N:=2) ?hd (cs:=#[.int .i64 a0_0,.slice A0_1 l0_1.length c0_1]) (t:=26) ?hr ?_;(case hd=>rfl);(case hg=>rfl);(case hr=>first|(go_simp;done)|(go_simp;rfl));intro gb435 hg w6 hbox hb;have BK435:=A_ (hbox);have GW435:=A_ ((by rw [hg];exact (below_size bb_) : w.heap.size ≤ gb435));have GE435:=A_ ((by rw [hg];exact (below_size bb_) : w.heap.size ≤ gb435));replace HB:=A_ (below_step bb_ hb);clear hb hbox hg;have hcz7_0 : w6.cell? ⟨gb435,0,none⟩ = some (.int .i64 a0_0):=blk_cell BK435.out 0;have hcz7_1 : w6.cell? ⟨gb435,1,none⟩ = some (.slice A0_1 l0_1.length c0_1):=blk_cell BK435.out 1;have hfz7_0:=blk_frozen BK435.out 0;have hfz7_1:=blk_frozen BK435.out 1)|((with_reducible refine gate_callee (f:=32) rfl ?_);refine goesL_ (some 6) rfl rfl Tryd.func32 (by kernel_rfl) rfl #[.agg #[.int .i64 a0_0,.slice A0_1 l0_1.length c0_1]] rfl au_ ?_;(with_reducible refine (impl_IsOrder.calls k a0_0 _ _ l0_1 true _ ?side1 ?side2 ?side3 A3.out).mono ?_);(case side1=>exact cl_ (Kd.C_below HR0_1.out HB.out));(case side2=>exact HC0_1.out);(case side3=>first|exact HT.out|exact HT.out.below bb_|(repeat (first|exact HT.out|apply TabOK.drewN|apply TabOK.drew|apply TabOK.alloc)));rintro e w8 ⟨rfl,hb⟩;refine ⟨_,rfl,?_⟩;replace BK435:=bz BK435 hb;replace HB:=A_ (below_step bb_ hb);(try clear hb);(try clear hb2);(try clear hk);(try clear hi))|(go_at_call 93;(with_reducible refine (impl_within.calls a1 1 10 t437 _ A5.out).mono ?_);rintro e w' ⟨rfl,⟨nd,rfl⟩⟩))
  go_ret
  exact ⟨by first|rfl|(simp [errW_none,errW_some] <;> rfl)|(simp [*,errW_none,errW_some] <;> rfl),bb_⟩
 ·replace c4:=Bool.eq_false_iff.mpr c4;subst c4;have H1 : (some false) = some r:=by rw [if_neg (show ¬ (false = true) by decide)] at H;exact H
  clear H;have H:=H1;clear H1;obtain rfl:=Option.some.inj H;go_enter Tryd.func99,Tryd.ntmps99
  go_wp2_with (first|((with_reducible refine gate_dst (N:=2) rfl ?_);refine box_event ?hg (N:=2) ?hd (cs:=#[.int .i64 a0_0,.slice A0_1 l0_1.length c0_1]) (t:=26) ?hr ?_;(case hd=>rfl);(case hg=>rfl);(case hr=>first|(go_simp;done)|(go_simp;rfl));intro gb435 hg w9 hbox hb;have BK435:=A_ (hbox);have GW435:=A_ ((by rw [hg];exact (below_size bb_) : w.heap.size ≤ gb435));have GE435:=A_ ((by rw [hg];exact (below_size bb_) : w.heap.size ≤ gb435));replace HB:=A_ (below_step bb_ hb);clear hb hbox hg;have hcz10_0 : w9.cell? ⟨gb435,0,none⟩ = some (.int .i64 a0_0):=blk_cell BK435.out 0;have hcz10_1 : w9.cell? ⟨gb435,1,none⟩ = some (.slice A0_1 l0_1.length c0_1):=blk_cell BK435.out 1;have hfz10_0:=blk_frozen BK435.out 0;have hfz10_1:=blk_frozen BK435.out 1)|((with_reducible refine gate_callee (f:=32) rfl ?_);refine goesL_ (some 6) rfl rfl Tryd.func32 (by kernel_rfl) rfl #[.agg #[.int .i64 a0_0,.slice A0_1 l0_1.length c0_1]] rfl au_ ?_;(with_reducible refine (impl_IsOrder.calls k a0_0 _ _ l0_1 false _ ?side1 ?side2 ?side3 A3.out).mono ?_);(case side1=>exact cl_ (Kd.C_below HR0_1.out HB.out));(case side2=>exact HC0_1.out);(case side3=>first|exact HT.out|exact HT.out.below bb_|(repeat (first|exact HT.out|apply TabOK.drewN|apply TabOK.drew|apply TabOK.alloc)));rintro e w11 ⟨rfl,hb⟩;refine ⟨_,rfl,?_⟩;replace BK435:=bz BK435 hb;replace HB:=A_ (below_step bb_ hb);(try clear hb);(try clear hb2);(try clear hk);(try clear hi)))
  go_ret
  exact ⟨by first|rfl|(simp [errW_none,errW_some] <;> rfl)|(simp [*,errW_none,errW_some] <;> rfl),bb_⟩
def slices_Equal_int_int.l0 : Nat → List Int → List Int → Int → Int → Option (Bool)
 | 0,_,_,_,_=>none
 | k + 1,x0,x1,x12,x13=>if x13 < x12 then (if 0 ≤ x13 then (if x13 < (x0.length : Int) then (if x13 < (x1.length : Int) then (if (rd x0 x13) = (rd x1 x13) then (slices_Equal_int_int.l0 k x0 x1 x12 (wrap64 (x13 + 1))) else (some false)) else (none)) else (none)) else (none)) else (some true)
def slices_Equal_int_int.f (k : Nat) (l0 : List Int) (l1 : List Int) : Option (Bool) := if (l0.length : Int) = (l1.length : Int) then (slices_Equal_int_int.l0 k l0 l1 (l0.length : Int) 0) else (some false)
set_option maxHeartbeats 8000000 in
set_option maxRecDepth 100000 in
theorem slices_Equal_int_int.calls (k : Nat) (A0 : Option Addr) (c0 : Nat) (l0 : List Int) (A1 : Option Addr) (c1 : Nat) (l1 : List Int) (r : Bool) (w : World) (hr0 : Kd.C (Kd.int .i64) w A0 l0.length l0) (hc0 : l0.length ≤ c0) (hr1 : Kd.C (Kd.int .i64) w A1 l1.length l1) (hc1 : l1.length ≤ c1) (h : slices_Equal_int_int.f k l0 l1 = some r) :
 Calls Tryd.prog 176 #[.slice A0 l0.length c0,.slice A1 l1.length c1] w fun e w'=>e = .returned (.bool r) ∧ Drawn0 w w':=by
 have HR0:=A_ hr0;have HC0:=A_ hc0;clear hr0 hc0;have HR1:=A_ hr1;have HC1:=A_ hc1;clear hr1 hc1;have H : (if (l0.length : Int) = (l1.length : Int) then (slices_Equal_int_int.l0 k l0 l1 (l0.length : Int) 0) else (some false)) = some r:=h;clear h;by_cases c3 : (l0.length : Int) = (l1.length : Int)
 ·rw [if_pos c3] at H;have c3b0 : ((l0.length : Int) == (l1.length : Int)) = true:=beq_iff_eq.mpr c3;have c3b1 : ((l0.length : Int) != (l1.length : Int)) = false:=bne_eq_false_iff_eq.mpr c3;have c3b2 : (l0.length == l1.length) = true:=by first|simpa using c3|(simp at c3 ⊢;omega)
  clear c3;have H':=A_ H;clear H;go_enter Tryd.func176,Tryd.ntmps176
  go_wp2
  repeat (go_quiet (fail);try go_wp2)
  go_loopg [13] k (fun kq v13 w'=>∃ (x13_1 : Int),v13 = .int .i64 x13_1 ∧ Aside0 (slices_Equal_int_int.l0 kq l0 l1 (l0.length : Int) x13_1 = some r) ∧ Aside0 (kq ≤ k) ∧ Drawn0 w w')
  case atStart=>exact ⟨(0),(by first|rfl|(simp;done)|(simp [*];done)),H',⟨Nat.le_refl _⟩,by repeat (first|exact Drawn0.refl _|apply Drawn0.step)⟩
  case round =>
   clear H';try clear c1
   try clear p2
   try clear c3
   try clear c3b0
   try clear c3b1
   try clear c3b2
   obtain ⟨x13_1,rfl,HA,HK1,⟨m1,rfl⟩⟩:=hrel;cases gk with
   | zero=>exact absurd HA.out (by simp [slices_Equal_int_int.l0])
   | succ k1 =>
    have H:=HA.out;clear HA;simp only [slices_Equal_int_int.l0] at H
    by_cases c4 : x13_1 < (l0.length : Int)
    ·rw [if_pos c4] at H;have c4b0 : decide (x13_1 < (l0.length : Int)) = true:=decide_eq_true c4;clear c4;by_cases c5 : 0 ≤ x13_1
     ·rw [if_pos c5] at H;have c5b0 : decide (0 ≤ x13_1) = true:=decide_eq_true c5;clear c5;by_cases c6 : x13_1 < (l0.length : Int)
      ·rw [if_pos c6] at H;have c6b0 : decide (x13_1 < (l0.length : Int)) = true:=decide_eq_true c6;clear c6;by_cases c7 : x13_1 < (l1.length : Int)
       ·rw [if_pos c7] at H;have c7b0 : decide (x13_1 < (l1.length : Int)) = true:=decide_eq_true c7;clear c7;by_cases c8 : (rd l0 x13_1) = (rd l1 x13_1)
        ·rw [if_pos c8] at H;have c8b0 : ((rd l0 x13_1) == (rd l1 x13_1)) = true:=beq_iff_eq.mpr c8;have c8b1 : ((rd l0 x13_1) != (rd l1 x13_1)) = false:=bne_eq_false_iff_eq.mpr c8;clear c8;have H':=A_ H;clear H;have p438 : 0 ≤ (x13_1 : Int):=of_decide_eq_true (by first|(with_reducible assumption)|assumption);have q438 : x13_1 < (l0.length : Int):=of_decide_eq_true (by first|(with_reducible assumption)|assumption);obtain ⟨ad438,e438,hx438_0⟩:=Kd.at_int HR0.out x13_1 p438 q438;cases e438
         replace p438:=eq_true p438;replace q438:=eq_true q438;have p439 : 0 ≤ (x13_1 : Int):=of_decide_eq_true (by first|(with_reducible assumption)|assumption);have q439 : x13_1 < (l1.length : Int):=of_decide_eq_true (by first|(with_reducible assumption)|assumption);obtain ⟨ad439,e439,hx439_0⟩:=Kd.at_int HR1.out x13_1 p439 q439;cases e439
         replace p439:=eq_true p439;replace q439:=eq_true q439;go_wp2
         repeat (go_quiet (fail);try go_wp2)
         go_roundg k1
         case measure=>have:=HK1.out;omega
         case rel=>exact ⟨(wrap64 (x13_1 + 1)),(by first|rfl|(simp;done)|(simp [*];done)),H',⟨by have:=HK1.out;omega⟩,by repeat (first|exact Drawn0.refl _|apply Drawn0.step)⟩
        ·rw [if_neg c8] at H;have c8b0 : ((rd l0 x13_1) == (rd l1 x13_1)) = false:=beq_eq_false_iff_ne.mpr c8;have c8b1 : ((rd l0 x13_1) != (rd l1 x13_1)) = true:=bne_iff_ne.mpr c8;obtain rfl:=Option.some.inj H;have p438 : 0 ≤ (x13_1 : Int):=of_decide_eq_true (by first|(with_reducible assumption)|assumption);have q438 : x13_1 < (l0.length : Int):=of_decide_eq_true (by first|(with_reducible assumption)|assumption);obtain ⟨ad438,e438,hx438_0⟩:=Kd.at_int HR0.out x13_1 p438 q438;cases e438
         replace p438:=eq_true p438;replace q438:=eq_true q438;have p439 : 0 ≤ (x13_1 : Int):=of_decide_eq_true (by first|(with_reducible assumption)|assumption);have q439 : x13_1 < (l1.length : Int):=of_decide_eq_true (by first|(with_reducible assumption)|assumption);obtain ⟨ad439,e439,hx439_0⟩:=Kd.at_int HR1.out x13_1 p439 q439;cases e439
         replace p439:=eq_true p439;replace q439:=eq_true q439;go_wp2
         repeat (go_quiet (fail);try go_wp2)
         go_ret
         exact ⟨by first|rfl|(simp;done)|(simp [*];done),by repeat (first|exact Drawn0.refl _|apply Drawn0.step)⟩
       ·rw [if_neg c7] at H;exact absurd H (by simp)
      ·rw [if_neg c6] at H;exact absurd H (by simp)
     ·rw [if_neg c5] at H;exact absurd H (by simp)
    ·rw [if_neg c4] at H;have c4b0 : decide (x13_1 < (l0.length : Int)) = false:=decide_eq_false c4;clear c4;obtain rfl:=Option.some.inj H;go_wp2
     repeat (go_quiet (fail);try go_wp2)
     go_ret
     exact ⟨by first|rfl|(simp;done)|(simp [*];done),by repeat (first|exact Drawn0.refl _|apply Drawn0.step)⟩
 ·rw [if_neg c3] at H;have c3b0 : ((l0.length : Int) == (l1.length : Int)) = false:=beq_eq_false_iff_ne.mpr c3;have c3b1 : ((l0.length : Int) != (l1.length : Int)) = true:=bne_iff_ne.mpr c3;have c3b2 : (l0.length == l1.length) = false:=by first|simpa using c3|(simp at c3 ⊢;omega)
  obtain rfl:=Option.some.inj H;go_enter Tryd.func176,Tryd.ntmps176
  go_wp2
  repeat (go_quiet (fail);try go_wp2)
  go_ret
  exact ⟨by first|rfl|(simp;done)|(simp [*];done),by repeat (first|exact Drawn0.refl _|apply Drawn0.step)⟩
def impl_Order_same.f (k : Nat) (a0_0 : Int) (l0_1 : List Int) (a1_0 : Int) (l1_1 : List Int) : Option (Bool) := if a0_0 = a1_0 then ((slices_Equal_int_int.f k l0_1 l1_1).bind fun t442 => (some t442)) else (some false)
set_option maxHeartbeats 8000000 in
set_option maxRecDepth 100000 in
theorem impl_Order_same.calls (k : Nat) (a0_0 : Int) (A0_1 : Option Addr) (c0_1 : Nat) (l0_1 : List Int) (a1_0 : Int) (A1_1 : Option Addr) (c1_1 : Nat) (l1_1 : List Int) (r : Bool) (w : World) (hr0_1 : Kd.C (Kd.int .i64) w A0_1 l0_1.length l0_1) (hc0_1 : l0_1.length ≤ c0_1) (hr1_1 : Kd.C (Kd.int .i64) w A1_1 l1_1.length l1_1) (hc1_1 : l1_1.length ≤ c1_1) (h : impl_Order_same.f k a0_0 l0_1 a1_0 l1_1 = some r) :
 Calls Tryd.prog 153 #[.agg #[.int .i64 a0_0,.slice A0_1 l0_1.length c0_1],.agg #[.int .i64 a1_0,.slice A1_1 l1_1.length c1_1]] w fun e w'=>e = .returned (.bool r) ∧ Below w.heap.size w w':=by
 have hu26:=Tryd.underlying26;have HR0_1:=A_ hr0_1;have HC0_1:=A_ hc0_1;clear hr0_1 hc0_1;have HR1_1:=A_ hr1_1;have HC1_1:=A_ hc1_1;clear hr1_1 hc1_1;have HB:=A_ (Below.refl w.heap.size w);have H : (if a0_0 = a1_0 then ((slices_Equal_int_int.f k l0_1 l1_1).bind fun t442=>(some t442)) else (some false)) = some r:=h;clear h;by_cases c3 : a0_0 = a1_0
 ·rw [if_pos c3] at H;have c3b0 : (a0_0 == a1_0) = true:=beq_iff_eq.mpr c3;have c3b1 : (a0_0 != a1_0) = false:=bne_eq_false_iff_eq.mpr c3;clear c3;replace H:=Option.bind_eq_some_iff.mp H;obtain ⟨t442,A40,H⟩:=H;replace H : (some t442) = some r:=H;have A4:=A_ A40;clear A40;obtain rfl:=Option.some.inj H;go_enter Tryd.func153,Tryd.ntmps153
  go_wp2_with (first|((with_reducible refine gate_dst (N:=2) rfl ?_);refine box_event ?hg (N:=2) ?hd (cs:=#[.int .i64 a0_0,.slice A0_1 l0_1.length c0_1]) (t:=26) ?hr ?_;(case hd=>rfl);(case hg=>rfl);(case hr=>first|(go_simp;done)|(go_simp;rfl));intro gb440 hg w5 hbox hb;have BK440:=A_ (hbox);have GW440:=A_ ((by rw [hg];exact (below_size bb_) : w.heap.size ≤ gb440));have GE440:=A_ ((by rw [hg];exact (below_size bb_) : w.heap.size ≤ gb440));replace HB:=A_ (below_step bb_ hb);clear hb hbox hg)|((with_reducible refine gate_dst (N:=3) rfl ?_);refine box_event ?hg (N:=3) ?hd (cs:=#[.int .i64 a1_0,.slice A1_1 l1_1.length c1_1]) (t:=26) ?hr ?_;(case hd=>rfl);(case hg=>rfl);(case hr=>first|(go_simp;done)|(go_simp;rfl));intro gb441 hg w6 hbox hb;have BK441:=A_ (hbox);have GW441:=A_ ((by rw [hg];exact (below_size bb_) : w.heap.size ≤ gb441));have GE441:=A_ ((by rw [hg];exact (below_size bb_) : w.heap.size ≤ gb441));replace HB:=A_ (below_step bb_ hb);have NB440_441:=A_ ((by rw [hg];exact Nat.ne_of_lt (blk_lt (bl_ BK440)) : gb440 ≠ gb441));have NB441_440:=A_ ((by rw [hg];exact Nat.ne_of_gt (blk_lt (bl_ BK440)) : gb441 ≠ gb440));replace BK440:=bz BK440 hb;clear hb hbox hg;have hnb7:=NB440_441.out;have hnc7:=NB441_440.out;have hcz8_0 : w6.cell? ⟨gb440,0,none⟩ = some (.int .i64 a0_0):=blk_cell BK440.out 0;have hcz8_1 : w6.cell? ⟨gb440,1,none⟩ = some (.slice A0_1 l0_1.length c0_1):=blk_cell BK440.out 1;have hfz8_0:=blk_frozen BK440.out 0;have hfz8_1:=blk_frozen BK440.out 1;have hcz9_0 : w6.cell? ⟨gb441,0,none⟩ = some (.int .i64 a1_0):=blk_cell BK441.out 0;have hcz9_1 : w6.cell? ⟨gb441,1,none⟩ = some (.slice A1_1 l1_1.length c1_1):=blk_cell BK441.out 1;have hfz9_0:=blk_frozen BK441.out 0;have hfz9_1:=blk_frozen BK441.out 1)|(go_at_call 176;(with_reducible refine (slices_Equal_int_int.calls k _ _ l0_1 _ _ l1_1 t442 _ ?side1 ?side2 ?side3 ?side4 A4.out).mono ?_);(case side1=>exact cl_ (Kd.C_below HR0_1.out HB.out));(case side2=>exact HC0_1.out);(case side3=>exact cl_ (Kd.C_below HR1_1.out HB.out));(case side4=>exact HC1_1.out);rintro e w' ⟨rfl,⟨nd,rfl⟩⟩))
  go_ret
  exact ⟨by first|rfl|(simp [errW_none,errW_some] <;> rfl)|(simp [*,errW_none,errW_some] <;> rfl),bb_⟩
 ·rw [if_neg c3] at H;have c3b0 : (a0_0 == a1_0) = false:=beq_eq_false_iff_ne.mpr c3;have c3b1 : (a0_0 != a1_0) = true:=bne_iff_ne.mpr c3;obtain rfl:=Option.some.inj H;go_enter Tryd.func153,Tryd.ntmps153
  go_wp2_with (first|((with_reducible refine gate_dst (N:=2) rfl ?_);refine box_event ?hg (N:=2) ?hd (cs:=#[.int .i64 a0_0,.slice A0_1 l0_1.length c0_1]) (t:=26) ?hr ?_;(case hd=>rfl);(case hg=>rfl);(case hr=>first|(go_simp;done)|(go_simp;rfl));intro gb440 hg w10 hbox hb;have BK440:=A_ (hbox);have GW440:=A_ ((by rw [hg];exact (below_size bb_) : w.heap.size ≤ gb440));have GE440:=A_ ((by rw [hg];exact (below_size bb_) : w.heap.size ≤ gb440));replace HB:=A_ (below_step bb_ hb);clear hb hbox hg)|((with_reducible refine gate_dst (N:=3) rfl ?_);refine box_event ?hg (N:=3) ?hd (cs:=#[.int .i64 a1_0,.slice A1_1 l1_1.length c1_1]) (t:=26) ?hr ?_;(case hd=>rfl);(case hg=>rfl);(case hr=>first|(go_simp;done)|(go_simp;rfl));intro gb441 hg w11 hbox hb;have BK441:=A_ (hbox);have GW441:=A_ ((by rw [hg];exact (below_size bb_) : w.heap.size ≤ gb441));have GE441:=A_ ((by rw [hg];exact (below_size bb_) : w.heap.size ≤ gb441));replace HB:=A_ (below_step bb_ hb);have NB440_441:=A_ ((by rw [hg];exact Nat.ne_of_lt (blk_lt (bl_ BK440)) : gb440 ≠ gb441));have NB441_440:=A_ ((by rw [hg];exact Nat.ne_of_gt (blk_lt (bl_ BK440)) : gb441 ≠ gb440));replace BK440:=bz BK440 hb;clear hb hbox hg;have hnb12:=NB440_441.out;have hnc12:=NB441_440.out;have hcz13_0 : w11.cell? ⟨gb440,0,none⟩ = some (.int .i64 a0_0):=blk_cell BK440.out 0;have hcz13_1 : w11.cell? ⟨gb440,1,none⟩ = some (.slice A0_1 l0_1.length c0_1):=blk_cell BK440.out 1;have hfz13_0:=blk_frozen BK440.out 0;have hfz13_1:=blk_frozen BK440.out 1;have hcz14_0 : w11.cell? ⟨gb441,0,none⟩ = some (.int .i64 a1_0):=blk_cell BK441.out 0;have hcz14_1 : w11.cell? ⟨gb441,1,none⟩ = some (.slice A1_1 l1_1.length c1_1):=blk_cell BK441.out 1;have hfz14_0:=blk_frozen BK441.out 0;have hfz14_1:=blk_frozen BK441.out 1))
  go_ret
  exact ⟨by first|rfl|(simp [errW_none,errW_some] <;> rfl)|(simp [*,errW_none,errW_some] <;> rfl),bb_⟩
def impl_Order_isPlaces.f (k : Nat) (a0_0 : Int) (l0_1 : List Int) (a1 : Int) (l2 : List Int) : Option (Bool) := (impl_allWithin.f k l2 0 1000).bind fun t444 => (if t444 = true then ((impl_placed.f k a1 l2).bind fun bt445 => ((impl_Order_same.f k bt445.1 bt445.2 a0_0 l0_1).bind fun t449 => (some t449))) else (some false))
def impl_Order_isPlaces.T1 : Bool × List (List Nat × List Nat) := (true, [([], []), ([0], [0]), ([1, 1], [1]), ([2], [2]), ([2], [2]), ([3, 4, 2, 2], [2, 3, 4]), ([2], [2]), ([5, 6, 5, 2], [2, 5, 6]), ([2, 7], [2, 7]), ([8, 7, 0, 1, 2, 3, 4, 5, 6, 7, 8], [8])])
def impl_Order_isPlaces.B1 : List Nat := [0, 1, 3, 7, 7, 31, 7, 127, 255, 511]
theorem impl_Order_isPlaces.tab1 : rtab .any (opsOf Tryd.f100 1) = impl_Order_isPlaces.T1:=by kernel_rfl
theorem impl_Order_isPlaces.bits1 : waitsOk impl_Order_isPlaces.T1.2 impl_Order_isPlaces.B1 = true:=by kernel_rfl
set_option maxHeartbeats 8000000 in
set_option maxRecDepth 100000 in
theorem impl_Order_isPlaces.calls (k : Nat) (a0_0 : Int) (A0_1 : Option Addr) (c0_1 : Nat) (l0_1 : List Int) (a1 : Int) (A2 : Option Addr) (c2 : Nat) (l2 : List Int) (r : Bool) (w : World) (hr0_1 : Kd.C (Kd.int .i64) w A0_1 l0_1.length l0_1) (hc0_1 : l0_1.length ≤ c0_1) (hr2 : Kd.C (Kd.int .i64) w A2 l2.length l2) (hc2 : l2.length ≤ c2) (h : impl_Order_isPlaces.f k a0_0 l0_1 a1 l2 = some r) :
 Calls Tryd.prog 100 #[.agg #[.int .i64 a0_0,.slice A0_1 l0_1.length c0_1],.int .i64 a1,.slice A2 l2.length c2] w fun e w'=>e = .returned (.bool r) ∧ Below w.heap.size w w':=by
 have hu26:=Tryd.underlying26;have HR0_1:=A_ hr0_1;have HC0_1:=A_ hc0_1;clear hr0_1 hc0_1;have HR2:=A_ hr2;have HC2:=A_ hc2;clear hr2 hc2;have HB:=A_ (Below.refl w.heap.size w);have H : ((impl_allWithin.f k l2 0 1000).bind fun t444=>(if t444 = true then ((impl_placed.f k a1 l2).bind fun bt445=>((impl_Order_same.f k bt445.1 bt445.2 a0_0 l0_1).bind fun t449=>(some t449))) else (some false))) = some r:=h;clear h;replace H:=Option.bind_eq_some_iff.mp H;obtain ⟨t444,A40,H⟩:=H;replace H : (if t444 = true then ((impl_placed.f k a1 l2).bind fun bt445=>((impl_Order_same.f k bt445.1 bt445.2 a0_0 l0_1).bind fun t449=>(some t449))) else (some false)) = some r:=H;have A4:=A_ A40;clear A40;by_cases c5 : t444 = true
 ·subst c5;have H1 : ((impl_placed.f k a1 l2).bind fun bt445=>((impl_Order_same.f k bt445.1 bt445.2 a0_0 l0_1).bind fun t449=>(some t449))) = some r:=by rw [if_pos rfl] at H;exact H
  clear H;have H:=H1;clear H1;replace H:=Option.bind_eq_some_iff.mp H;obtain ⟨⟨t445,t446⟩,A60,H⟩:=H;replace H : ((impl_Order_same.f k t445 t446 a0_0 l0_1).bind fun t449=>(some t449)) = some r:=H;have A6:=A_ A60;clear A60;replace H:=Option.bind_eq_some_iff.mp H;obtain ⟨t449,A70,H⟩:=H;replace H : (some t449) = some r:=H;have A7:=A_ A70;clear A70;obtain rfl:=Option.some.inj H;go_enter Tryd.func100,Tryd.ntmps100
  try go_wp2_with (first|((with_reducible refine gate_dst (N:=3) rfl ?_);refine box_event ?hg (N:=3) ?hd (cs:=#[.int .i64 a0_0,.slice A0_1 l0_1.length c0_1]) (t:=26) ?hr ?_;(case hd=>rfl);(case hg=>rfl);(case hr=>first|(go_simp;done)|(go_simp;rfl));intro gb443 hg w8 hbox hb;have BK443:=A_ (hbox);have GW443:=A_ ((by rw [hg];exact (below_size bb_) : w.heap.size ≤ gb443));have GE443:=A_ ((by rw [hg];exact (below_size bb_) : w.heap.size ≤ gb443));replace HB:=A_ (below_step bb_ hb);clear hb hbox hg))
  replace BK443:=A_ (blk_drew BK443.out);replace HB:=A_ (below_drew1 HB.out);refine start_ (n:=10) (S:=fun w'=>w'.cell? ⟨gb443,0,none⟩ = some (.int .i64 a0_0) ∧ w'.cell? ⟨gb443,1,none⟩ = some (.slice A0_1 l0_1.length c0_1)) (ds:=[]) #[F,F,F,F,F,F,F,F,F,F] (by kernel_rfl) rfl rfl ⟨blk_cell BK443.out 0,blk_cell BK443.out 1⟩ (fun hHeld=>?_);refine with_tabW impl_Order_isPlaces.tab1 impl_Order_isPlaces.bits1 (fun HT_ HW_=>?_)
  generalize w8.drew = w9 at BK443 HB hHeld ⊢
  refine pure_ (i:=0) (N:=some 7) (v:=?_) (a':=?_) #[T,F,F,F,F,F,F,F,F,F] rfl rfl (any_of HT_.out (by kernel_rfl)) (fun _ _ _ h=>h) (Or.inl ⟨by rfl,?_⟩) ?_ ?_
  rotate_left;·intro w';go_simp;with_reducible rfl
  rotate_left;·simp only [Act.put,L_,M_,N_,i64_w,i32_w];rfl
  refine one_ (i:=1) (N:=some 8) #[T,T,F,F,F,F,F,F,F,F] rfl rfl (one_of HT_.out (by kernel_rfl)) (by decide) (fun K hK=>?_)
  refine goes_ Tryd.func94 (by kernel_rfl) rfl #[.slice A2 l2.length c2,.int .i64 0,.int .i64 1000] (by rfl) rfl rfl au_ ?_
  with_reducible refine (impl_allWithin.calls k _ _ l2 0 1000 true _ ?side1 ?side2 A4.out).mono ?_
  (case side1=>exact cl_ (Kd.C_below HR2.out HB.out))
  (case side2=>exact HC2.out)
  rintro e w' ⟨rfl,⟨nd,rfl⟩⟩
  refine ⟨_,rfl,?_⟩
  refine hK.out _ _ ⟨blk_cell BK443.out 0,blk_cell BK443.out 1⟩ (fun hHeld=>?_)
  clear hK K;refine norm_ (a':=?_) ?_ ?_
  rotate_left
  ·show Act.put _ (some 8) _ = _
   simp only [Act.put,L_,M_,N_,i64_w,i32_w]
   rfl
  refine pure_ (i:=2) (N:=some 9) (v:=?_) (a':=?_) #[T,T,T,F,F,F,F,F,F,F] rfl rfl (any_of HT_.out (by kernel_rfl)) (fun _ _ _ h=>h) (Or.inl ⟨by rfl,?_⟩) ?_ ?_
  rotate_left;·intro w';go_simp;with_reducible rfl
  rotate_left;·simp only [Act.put,L_,M_,N_,i64_w,i32_w];rfl
  refine pure_ (i:=3) (N:=some 10) (v:=?_) (a':=?_) #[T,T,T,T,F,F,F,F,F,F] rfl rfl (any_of HT_.out (by kernel_rfl)) (fun _ _ _ h=>h) (Or.inl ⟨by rfl,?_⟩) ?_ ?_
  rotate_left;·intro w';go_simp;with_reducible rfl
  rotate_left;·simp only [Act.put,L_,M_,N_,i64_w,i32_w];rfl
  refine pure_ (i:=4) (N:=some 11) (v:=?_) (a':=?_) #[T,T,T,T,T,F,F,F,F,F] rfl rfl (any_of HT_.out (by kernel_rfl)) (fun _ _ _ h=>h) (Or.inl ⟨by rfl,?_⟩) ?_ ?_
  rotate_left;·intro w';go_simp;with_reducible rfl
  rotate_left;·simp only [Act.put,L_,M_,N_,i64_w,i32_w];rfl
  refine take_ (i:=6) (N:=some 13) (v:=?_) (a':=?_) #[T,T,T,T,T,F,T,F,F,F] rfl rfl (take_ofW HT_.out HW_.out (by kernel_rfl)) (fun _ _ _ h=>h) (Or.inl ⟨by rfl,?_⟩) hHeld ?_ ?_
  rotate_left
  ·rintro w' ⟨s0,s1⟩
   go_simp
   with_reducible rfl
  rotate_left;·simp only [Act.put,L_,M_,N_,i64_w,i32_w];rfl
  refine one_ (i:=5) (N:=some 12) #[T,T,T,T,T,T,T,F,F,F] rfl rfl (one_of HT_.out (by kernel_rfl)) (by decide) (fun K hK=>?_)
  refine goes_ Tryd.func95 (by kernel_rfl) rfl #[.int .i64 a1,.slice A2 l2.length c2] (by rfl) rfl rfl au_ ?_
  with_reducible refine (impl_placed.calls k a1 _ _ l2 t445 t446 _ ?side1 ?side2 A6.out).mono ?_
  (case side1=>exact cl_ (Kd.C_below HR2.out bb_))
  (case side2=>exact HC2.out)
  rintro e w10 ⟨v447,rfl,ho0,hb⟩
  refine ⟨_,rfl,?_⟩
  have HO448:=A_ (Kd.R_lower ho0 (below_size bb_));replace BK443:=bz BK443 hb;replace HB:=A_ (below_step bb_ hb);(try clear hb);(try clear hb2);(try clear hk);(try clear hi);(try clear ho0);obtain ⟨Ao11,co11,eo11⟩:=Kd.R_slice HO448.out;(first|subst eo11|(injection eo11 with f1_ f2_ f3_;have f4_:=f1_.symm;have f5_:=f3_.symm;clear f1_ f2_ f3_;subst f4_;subst f5_))
  refine hK.out _ _ ⟨blk_cell BK443.out 0,blk_cell BK443.out 1⟩ (fun hHeld=>?_)
  clear hK K;refine norm_ (a':=?_) ?_ ?_
  rotate_left
  ·show Act.put _ (some 12) _ = _
   simp only [Act.put,L_,M_,N_,i64_w,i32_w]
   rfl
  refine one_ (i:=7) (N:=some 14) #[T,T,T,T,T,T,T,T,F,F] rfl rfl (one_of HT_.out (by kernel_rfl)) (by decide) (fun K hK=>?_)
  refine goes_ Tryd.func153 (by kernel_rfl) rfl #[.agg #[.int .i64 t445,.slice Ao11 t446.length co11],.agg #[.int .i64 a0_0,.slice A0_1 l0_1.length c0_1]] (by rfl) rfl rfl au_ ?_
  with_reducible refine (impl_Order_same.calls k t445 _ _ t446 a0_0 _ _ l0_1 t449 _ ?side1 ?side2 ?side3 ?side4 A7.out).mono ?_
  (case side1=>exact cl_ (Kd.R_reads' HO448.out).2.2)
  (case side2=>exact (Kd.R_reads' HO448.out).2.1)
  (case side3=>exact cl_ (Kd.C_below HR0_1.out HB.out))
  (case side4=>exact HC0_1.out)
  rintro e w12 ⟨rfl,hb⟩
  refine ⟨_,rfl,?_⟩
  replace HO448:=rb_ HO448 hb;replace BK443:=bz BK443 hb;replace HB:=A_ (below_step bb_ hb);(try clear hb);(try clear hb2);(try clear hk);(try clear hi);refine hK.out _ _ ⟨blk_cell BK443.out 0,blk_cell BK443.out 1⟩ (fun hHeld=>?_)
  clear hK K;refine norm_ (a':=?_) ?_ ?_
  rotate_left
  ·show Act.put _ (some 14) _ = _
   simp only [Act.put,L_,M_,N_,i64_w,i32_w]
   rfl
  refine pure_ (i:=8) (N:=some 15) (v:=?_) (a':=?_) #[T,T,T,T,T,T,T,T,T,F] rfl rfl (any_of HT_.out (by kernel_rfl)) (fun _ _ _ h=>h) (Or.inl ⟨by rfl,?_⟩) ?_ ?_
  rotate_left;·intro w';go_simp;with_reducible rfl
  rotate_left;·simp only [Act.put,L_,M_,N_,i64_w,i32_w];rfl
  refine pure_ (i:=9) (N:=some 6) (v:=?_) (a':=?_) #[T,T,T,T,T,T,T,T,T,T] rfl rfl (any_of HT_.out (by kernel_rfl)) (fun _ _ _ h=>h) (Or.inl ⟨by rfl,?_⟩) ?_ ?_
  rotate_left;·intro w';go_simp;with_reducible rfl
  rotate_left;·simp only [Act.put,L_,M_,N_,i64_w,i32_w];rfl
  refine done_ (done_of HT_.out (by kernel_rfl)) ?_
  try go_wp2
  go_ret
  exact ⟨by first|rfl|(simp [errW_none,errW_some] <;> rfl)|(simp [*,errW_none,errW_some] <;> rfl),bb_⟩
 ·replace c5:=Bool.eq_false_iff.mpr c5;subst c5;have H1 : (some false) = some r:=by rw [if_neg (show ¬ (false = true) by decide)] at H;exact H
  clear H;have H:=H1;clear H1;obtain rfl:=Option.some.inj H;go_enter Tryd.func100,Tryd.ntmps100
  try go_wp2_with (first|((with_reducible refine gate_dst (N:=3) rfl ?_);refine box_event ?hg (N:=3) ?hd (cs:=#[.int .i64 a0_0,.slice A0_1 l0_1.length c0_1]) (t:=26) ?hr ?_;(case hd=>rfl);(case hg=>rfl);(case hr=>first|(go_simp;done)|(go_simp;rfl));intro gb443 hg w13 hbox hb;have BK443:=A_ (hbox);have GW443:=A_ ((by rw [hg];exact (below_size bb_) : w.heap.size ≤ gb443));have GE443:=A_ ((by rw [hg];exact (below_size bb_) : w.heap.size ≤ gb443));replace HB:=A_ (below_step bb_ hb);clear hb hbox hg))
  replace BK443:=A_ (blk_drew BK443.out);replace HB:=A_ (below_drew1 HB.out);refine start_ (n:=10) (S:=fun w'=>True) (ds:=[]) #[F,F,F,F,F,F,F,F,F,F] (by kernel_rfl) rfl rfl trivial (fun hHeld=>?_);refine with_tabW impl_Order_isPlaces.tab1 impl_Order_isPlaces.bits1 (fun HT_ HW_=>?_)
  generalize w13.drew = w14 at BK443 HB hHeld ⊢
  refine pure_ (i:=0) (N:=some 7) (v:=?_) (a':=?_) #[T,F,F,F,F,F,F,F,F,F] rfl rfl (any_of HT_.out (by kernel_rfl)) (fun _ _ _ h=>h) (Or.inl ⟨by rfl,?_⟩) ?_ ?_
  rotate_left;·intro w';go_simp;with_reducible rfl
  rotate_left;·simp only [Act.put,L_,M_,N_,i64_w,i32_w];rfl
  refine one_ (i:=1) (N:=some 8) #[T,T,F,F,F,F,F,F,F,F] rfl rfl (one_of HT_.out (by kernel_rfl)) (by decide) (fun K hK=>?_)
  refine goes_ Tryd.func94 (by kernel_rfl) rfl #[.slice A2 l2.length c2,.int .i64 0,.int .i64 1000] (by rfl) rfl rfl au_ ?_
  with_reducible refine (impl_allWithin.calls k _ _ l2 0 1000 false _ ?side1 ?side2 A4.out).mono ?_
  (case side1=>exact cl_ (Kd.C_below HR2.out HB.out))
  (case side2=>exact HC2.out)
  rintro e w' ⟨rfl,⟨nd,rfl⟩⟩
  refine ⟨_,rfl,?_⟩
  refine hK.out _ _ trivial (fun hHeld=>?_)
  clear hK K;refine norm_ (a':=?_) ?_ ?_
  rotate_left
  ·show Act.put _ (some 8) _ = _
   simp only [Act.put,L_,M_,N_,i64_w,i32_w]
   rfl
  refine pure_ (i:=2) (N:=some 9) (v:=?_) (a':=?_) #[T,T,T,F,F,F,F,F,F,F] rfl rfl (any_of HT_.out (by kernel_rfl)) (fun _ _ _ h=>h) (Or.inl ⟨by rfl,?_⟩) ?_ ?_
  rotate_left;·intro w';go_simp;with_reducible rfl
  rotate_left;·simp only [Act.put,L_,M_,N_,i64_w,i32_w];rfl
  refine pure_ (i:=3) (N:=some 10) (v:=undef) (a':=?_) #[T,T,T,T,F,F,F,F,F,F] rfl rfl (any_of HT_.out (by kernel_rfl)) (fun _ _ _ h=>h) (Or.inr ⟨by rfl,rfl⟩) ?_ ?_
  rotate_left;·simp only [Act.put,L_,M_,N_,i64_w,i32_w];rfl
  refine pure_ (i:=4) (N:=some 11) (v:=undef) (a':=?_) #[T,T,T,T,T,F,F,F,F,F] rfl rfl (any_of HT_.out (by kernel_rfl)) (fun _ _ _ h=>h) (Or.inr ⟨by rfl,rfl⟩) ?_ ?_
  rotate_left;·simp only [Act.put,L_,M_,N_,i64_w,i32_w];rfl
  refine pure_ (i:=5) (N:=some 12) (v:=undef) (a':=?_) #[T,T,T,T,T,T,F,F,F,F] rfl rfl (any_of HT_.out (by kernel_rfl)) (fun _ _ _ h=>h) (Or.inr ⟨by rfl,rfl⟩) ?_ ?_
  rotate_left;·simp only [Act.put,L_,M_,N_,i64_w,i32_w];rfl
  refine pure_ (i:=6) (N:=some 13) (v:=undef) (a':=?_) #[T,T,T,T,T,T,T,F,F,F] rfl rfl (any_of HT_.out (by kernel_rfl)) (fun _ _ _ h=>h) (Or.inr ⟨by rfl,rfl⟩) ?_ ?_
  rotate_left;·simp only [Act.put,L_,M_,N_,i64_w,i32_w];rfl
  refine pure_ (i:=7) (N:=some 14) (v:=undef) (a':=?_) #[T,T,T,T,T,T,T,T,F,F] rfl rfl (any_of HT_.out (by kernel_rfl)) (fun _ _ _ h=>h) (Or.inr ⟨by rfl,rfl⟩) ?_ ?_
  rotate_left;·simp only [Act.put,L_,M_,N_,i64_w,i32_w];rfl
  refine pure_ (i:=8) (N:=some 15) (v:=?_) (a':=?_) #[T,T,T,T,T,T,T,T,T,F] rfl rfl (any_of HT_.out (by kernel_rfl)) (fun _ _ _ h=>h) (Or.inl ⟨by rfl,?_⟩) ?_ ?_
  rotate_left;·intro w';go_simp;with_reducible rfl
  rotate_left;·simp only [Act.put,L_,M_,N_,i64_w,i32_w];rfl
  refine pure_ (i:=9) (N:=some 6) (v:=?_) (a':=?_) #[T,T,T,T,T,T,T,T,T,T] rfl rfl (any_of HT_.out (by kernel_rfl)) (fun _ _ _ h=>h) (Or.inl ⟨by rfl,?_⟩) ?_ ?_
  rotate_left;·intro w';go_simp;with_reducible rfl
  rotate_left;·simp only [Act.put,L_,M_,N_,i64_w,i32_w];rfl
  refine done_ (done_of HT_.out (by kernel_rfl)) ?_
  try go_wp2
  go_ret
  exact ⟨by first|rfl|(simp [errW_none,errW_some] <;> rfl)|(simp [*,errW_none,errW_some] <;> rfl),bb_⟩
def impl_IsPlaces.f (k : Nat) (a0_0 : Int) (l0_1 : List Int) (a1 : Int) (l2 : List Int) : Option (Bool × Bool) := (impl_isThreshold.f k a0_0 l0_1 a1).bind fun t451 => (if t451 = true then ((impl_Order_isPlaces.f k a0_0 l0_1 a1 l2).bind fun t452 => (some (t452, true))) else (some (false, false)))
set_option maxHeartbeats 8000000 in
set_option maxRecDepth 100000 in
theorem impl_IsPlaces.calls (k : Nat) (a0_0 : Int) (A0_1 : Option Addr) (c0_1 : Nat) (l0_1 : List Int) (a1 : Int) (A2 : Option Addr) (c2 : Nat) (l2 : List Int) (r1 : Bool) (r2 : Bool) (w : World) (hr0_1 : Kd.C (Kd.int .i64) w A0_1 l0_1.length l0_1) (hc0_1 : l0_1.length ≤ c0_1) (hr2 : Kd.C (Kd.int .i64) w A2 l2.length l2) (hc2 : l2.length ≤ c2) (hT : TabOK w) (h : impl_IsPlaces.f k a0_0 l0_1 a1 l2 = some (r1,r2)) :
 Calls Tryd.prog 26 #[.agg #[.int .i64 a0_0,.slice A0_1 l0_1.length c0_1],.int .i64 a1,.slice A2 l2.length c2] w fun e w'=>e = .returned (.tuple #[.bool r1,.bool r2]) ∧ Below w.heap.size w w':=by
 have hu26:=Tryd.underlying26;have HT:=A_ hT;clear hT;have HR0_1:=A_ hr0_1;have HC0_1:=A_ hc0_1;clear hr0_1 hc0_1;have HR2:=A_ hr2;have HC2:=A_ hc2;clear hr2 hc2;have HB:=A_ (Below.refl w.heap.size w);have H : ((impl_isThreshold.f k a0_0 l0_1 a1).bind fun t451=>(if t451 = true then ((impl_Order_isPlaces.f k a0_0 l0_1 a1 l2).bind fun t452=>(some (t452,true))) else (some (false,false)))) = some (r1,r2):=h;clear h;replace H:=Option.bind_eq_some_iff.mp H;obtain ⟨t451,A40,H⟩:=H;replace H : (if t451 = true then ((impl_Order_isPlaces.f k a0_0 l0_1 a1 l2).bind fun t452=>(some (t452,true))) else (some (false,false))) = some (r1,r2):=H;have A4:=A_ A40;clear A40;by_cases c5 : t451 = true
 ·subst c5;have H1 : ((impl_Order_isPlaces.f k a0_0 l0_1 a1 l2).bind fun t452=>(some (t452,true))) = some (r1,r2):=by rw [if_pos rfl] at H;exact H
  clear H;have H:=H1;clear H1;replace H:=Option.bind_eq_some_iff.mp H;obtain ⟨t452,A60,H⟩:=H;replace H : (some (t452,true)) = some (r1,r2):=H;have A6:=A_ A60;clear A60;simp only [Option.some.injEq,Prod.mk.injEq] at H
  obtain ⟨rfl,rfl⟩:=H;go_enter Tryd.func26,Tryd.ntmps26
  go_wp2_with (first|((with_reducible refine gate_dst (N:=3) rfl ?_);refine box_event ?hg (N:=3) ?hd (cs:=#[.int .i64 a0_0,.slice A0_1 l0_1.length c0_1]) (t:=26) ?hr ?_;(case hd=>rfl);(case hg=>rfl);(case hr=>first|(go_simp;done)|(go_simp;rfl));intro gb450 hg w7 hbox hb;have BK450:=A_ (hbox);have GW450:=A_ ((by rw [hg];exact (below_size bb_) : w.heap.size ≤ gb450));have GE450:=A_ ((by rw [hg];exact (below_size bb_) : w.heap.size ≤ gb450));replace HB:=A_ (below_step bb_ hb);clear hb hbox hg;have hcz8_0 : w7.cell? ⟨gb450,0,none⟩ = some (.int .i64 a0_0):=blk_cell BK450.out 0;have hcz8_1 : w7.cell? ⟨gb450,1,none⟩ = some (.slice A0_1 l0_1.length c0_1):=blk_cell BK450.out 1;have hfz8_0:=blk_frozen BK450.out 0;have hfz8_1:=blk_frozen BK450.out 1)|((with_reducible refine gate_callee (f:=99) rfl ?_);refine goesL_ (some 10) rfl rfl Tryd.func99 (by kernel_rfl) rfl #[.agg #[.int .i64 a0_0,.slice A0_1 l0_1.length c0_1],.int .i64 a1] rfl au_ ?_;(with_reducible refine (impl_isThreshold.calls k a0_0 _ _ l0_1 a1 true _ ?side1 ?side2 ?side3 A4.out).mono ?_);(case side1=>exact cl_ (Kd.C_below HR0_1.out HB.out));(case side2=>exact HC0_1.out);(case side3=>first|exact HT.out|exact HT.out.below bb_|(repeat (first|exact HT.out|apply TabOK.drewN|apply TabOK.drew|apply TabOK.alloc)));rintro e w9 ⟨rfl,hb⟩;refine ⟨_,rfl,?_⟩;replace BK450:=bz BK450 hb;replace HB:=A_ (below_step bb_ hb);(try clear hb);(try clear hb2);(try clear hk);(try clear hi);have hcz10_0 : w9.cell? ⟨gb450,0,none⟩ = some (.int .i64 a0_0):=blk_cell BK450.out 0;have hcz10_1 : w9.cell? ⟨gb450,1,none⟩ = some (.slice A0_1 l0_1.length c0_1):=blk_cell BK450.out 1;have hfz10_0:=blk_frozen BK450.out 0;have hfz10_1:=blk_frozen BK450.out 1)|((with_reducible refine gate_callee (f:=100) rfl ?_);refine goesL_ (some 15) rfl rfl Tryd.func100 (by kernel_rfl) rfl #[.agg #[.int .i64 a0_0,.slice A0_1 l0_1.length c0_1],.int .i64 a1,.slice A2 l2.length c2] rfl au_ ?_;(with_reducible refine (impl_Order_isPlaces.calls k a0_0 _ _ l0_1 a1 _ _ l2 t452 _ ?side1 ?side2 ?side3 ?side4 A6.out).mono ?_);(case side1=>exact cl_ (Kd.C_below HR0_1.out HB.out));(case side2=>exact HC0_1.out);(case side3=>exact cl_ (Kd.C_below HR2.out HB.out));(case side4=>exact HC2.out);rintro e w11 ⟨rfl,hb⟩;refine ⟨_,rfl,?_⟩;replace BK450:=bz BK450 hb;replace HB:=A_ (below_step bb_ hb);(try clear hb);(try clear hb2);(try clear hk);(try clear hi)))
  go_ret2
  exact ⟨by first|rfl|(simp [errW_none,errW_some] <;> rfl)|(simp [*,errW_none,errW_some] <;> rfl),bb_⟩
 ·replace c5:=Bool.eq_false_iff.mpr c5;subst c5;have H1 : (some (false,false)) = some (r1,r2):=by rw [if_neg (show ¬ (false = true) by decide)] at H;exact H
  clear H;have H:=H1;clear H1;simp only [Option.some.injEq,Prod.mk.injEq] at H
  obtain ⟨rfl,rfl⟩:=H;go_enter Tryd.func26,Tryd.ntmps26
  go_wp2_with (first|((with_reducible refine gate_dst (N:=3) rfl ?_);refine box_event ?hg (N:=3) ?hd (cs:=#[.int .i64 a0_0,.slice A0_1 l0_1.length c0_1]) (t:=26) ?hr ?_;(case hd=>rfl);(case hg=>rfl);(case hr=>first|(go_simp;done)|(go_simp;rfl));intro gb450 hg w12 hbox hb;have BK450:=A_ (hbox);have GW450:=A_ ((by rw [hg];exact (below_size bb_) : w.heap.size ≤ gb450));have GE450:=A_ ((by rw [hg];exact (below_size bb_) : w.heap.size ≤ gb450));replace HB:=A_ (below_step bb_ hb);clear hb hbox hg;have hcz13_0 : w12.cell? ⟨gb450,0,none⟩ = some (.int .i64 a0_0):=blk_cell BK450.out 0;have hcz13_1 : w12.cell? ⟨gb450,1,none⟩ = some (.slice A0_1 l0_1.length c0_1):=blk_cell BK450.out 1;have hfz13_0:=blk_frozen BK450.out 0;have hfz13_1:=blk_frozen BK450.out 1)|((with_reducible refine gate_callee (f:=99) rfl ?_);refine goesL_ (some 10) rfl rfl Tryd.func99 (by kernel_rfl) rfl #[.agg #[.int .i64 a0_0,.slice A0_1 l0_1.length c0_1],.int .i64 a1] rfl au_ ?_;(with_reducible refine (impl_isThreshold.calls k a0_0 _ _ l0_1 a1 false _ ?side1 ?side2 ?side3 A4.out).mono ?_);(case side1=>exact cl_ (Kd.C_below HR0_1.out HB.out));(case side2=>exact HC0_1.out);(case side3=>first|exact HT.out|exact HT.out.below bb_|(repeat (first|exact HT.out|apply TabOK.drewN|apply TabOK.drew|apply TabOK.alloc)));rintro e w14 ⟨rfl,hb⟩;refine ⟨_,rfl,?_⟩;replace BK450:=bz BK450 hb;replace HB:=A_ (below_step bb_ hb);(try clear hb);(try clear hb2);(try clear hk);(try clear hi)))
  go_ret2
  exact ⟨by first|rfl|(simp [errW_none,errW_some] <;> rfl)|(simp [*,errW_none,errW_some] <;> rfl),bb_⟩
def laws_vNumber.l0 : Nat → Int → List Int → Int → Int → Option (Int)
 | 0,_,_,_,_=>none
 | k + 1,x3,x6,x7,x8=>if x8 < x7 then (if 0 ≤ x8 then (if x8 < (x6.length : Int) then (laws_vNumber.l0 k (Int.tmod (wrap64 ((wrap64 (31 * x3)) + (wrap64 (rd x6 x8)))) 1000003) x6 x7 (wrap64 (x8 + 1))) else (none)) else (none)) else (some x3)
def laws_vNumber.f (k : Nat) (l0 : List Int) : Option (Int) := laws_vNumber.l0 k 0 l0 (l0.length : Int) 0
set_option maxHeartbeats 8000000 in
set_option maxRecDepth 100000 in
theorem laws_vNumber.calls (k : Nat) (A0 : Option Addr) (c0 : Nat) (l0 : List Int) (r : Int) (w : World) (hr0 : Kd.C (Kd.int .u8) w A0 l0.length l0) (hc0 : l0.length ≤ c0) (h : laws_vNumber.f k l0 = some r) :
 Calls Tryd.prog 27 #[.slice A0 l0.length c0] w fun e w'=>e = .returned (.int .i64 r) ∧ Drawn0 w w':=by
 have HR0:=A_ hr0;have HC0:=A_ hc0;clear hr0 hc0;have H : (laws_vNumber.l0 k 0 l0 (l0.length : Int) 0) = some r:=h;clear h;have H':=A_ H;clear H;go_enter Tryd.func27,Tryd.ntmps27
 go_wp2
 go_loopg [3,8] k (fun kq v3 v8 w'=>∃ (x3_1 : Int) (x8_1 : Int),v3 = .int .i64 x3_1 ∧ v8 = .int .i64 x8_1 ∧ Aside0 (laws_vNumber.l0 kq x3_1 l0 (l0.length : Int) x8_1 = some r) ∧ Aside0 (kq ≤ k) ∧ Drawn0 w w')
 case atStart=>exact ⟨(0),(0),(by first|rfl|(simp;done)|(simp [*];done)),(by first|rfl|(simp;done)|(simp [*];done)),H',⟨Nat.le_refl _⟩,by repeat (first|exact Drawn0.refl _|apply Drawn0.step)⟩
 case round =>
  clear H';obtain ⟨x3_1,x8_1,rfl,rfl,HA,HK1,⟨m1,rfl⟩⟩:=hrel;cases gk with
  | zero => exact absurd HA.out (by simp [laws_vNumber.l0])
  | succ k1 =>
   have H:=HA.out;clear HA;simp only [laws_vNumber.l0] at H
   by_cases c2 : x8_1 < (l0.length : Int)
   ·rw [if_pos c2] at H;have c2b0 : decide (x8_1 < (l0.length : Int)) = true:=decide_eq_true c2;clear c2;by_cases c3 : 0 ≤ x8_1
    ·rw [if_pos c3] at H;have c3b0 : decide (0 ≤ x8_1) = true:=decide_eq_true c3;clear c3;by_cases c4 : x8_1 < (l0.length : Int)
     ·rw [if_pos c4] at H;have c4b0 : decide (x8_1 < (l0.length : Int)) = true:=decide_eq_true c4;clear c4;have H':=A_ H;clear H;have p453 : 0 ≤ (x8_1 : Int):=of_decide_eq_true (by first|(with_reducible assumption)|assumption);have q453 : x8_1 < (l0.length : Int):=of_decide_eq_true (by first|(with_reducible assumption)|assumption);obtain ⟨ad453,e453,hx453_0⟩:=Kd.at_int HR0.out x8_1 p453 q453;cases e453
      replace p453:=eq_true p453;replace q453:=eq_true q453;go_wp2
      go_roundg k1
      case measure=>have:=HK1.out;omega
      case rel=>exact ⟨(Int.tmod (wrap64 ((wrap64 (31 * x3_1)) + (wrap64 (rd l0 x8_1)))) 1000003),(wrap64 (x8_1 + 1)),(by first|rfl|(simp;done)|(simp [*];done)),(by first|rfl|(simp;done)|(simp [*];done)),H',⟨by have:=HK1.out;omega⟩,by repeat (first|exact Drawn0.refl _|apply Drawn0.step)⟩
     ·rw [if_neg c4] at H;exact absurd H (by simp)
    ·rw [if_neg c3] at H;exact absurd H (by simp)
   ·rw [if_neg c2] at H;have c2b0 : decide (x8_1 < (l0.length : Int)) = false:=decide_eq_false c2;clear c2;obtain rfl:=Option.some.inj H;go_wp2
    go_ret
    exact ⟨by first|rfl|(simp;done)|(simp [*];done),by repeat (first|exact Drawn0.refl _|apply Drawn0.step)⟩
end Go.Proofs.YtjdkcafpgebjfaaDoor.P

