/- A part of the proof that the law FnEndsAreLeast holds at every input. Written by wip/pack.py: the kit's printed words that are used, the functions' walks as wip/gen.py prints them, and hand proofs. -/
import Derived.Test.YtimjblnglhmakaaDoorKFnEndsAreLeast1
namespace Go.Proofs.YtimjblnglhmakaaDoor.P
open Go.RowKit Go.Proofs.YtimjblnglhmakaaDoorW.PrintWords Go.Proofs.YtimjblnglhmakaaDoorW.PrintLast Go.Proofs.YtimjblnglhmakaaDoorW.PrintMore
open Bool renaming true → T, false → F
open List renaming setIfInBounds_toArray → L_, set_cons_zero → M_, set_cons_succ → N_, map_toArray → P_, map_cons → Q_, map_nil → R_, length_drop → S_, length_take → U_
open Aside0 renaming mk → A_
attribute [local go_sem] max2_int min2_int max_two min_two max_three min_three max_four min_four
set_option linter.unusedVariables false
set_option linter.unusedSimpArgs false
attribute [local go_sem] fldOrder_0 fldOrder_1
mutual
def spec_orGood.l0 : Nat → List Int → Int → Int → Int → List Int → Option (Bool)
 | 0,_,_,_,_,_=>none
 | k + 1,x11,x12,x13,x113000,x113001=>if x13 < x12 then (if 0 ≤ x13 then (if x13 < (x11.length : Int) then ((spec_orHas.f (rd x11 x13) x13).bind fun t115=>(if t115 = true then (some false) else ((spec_orList.f k (rd x11 x13)).bind fun t116=>(spec_orGood.l1 k (rd x11 x13) x11 x12 x13 t116 (t116.length : Int) 0 x113000 x113001)))) else (none)) else (none)) else (some true)
def spec_orGood.l1 : Nat → Int → List Int → Int → Int → List Int → Int → Int → Int → List Int → Option (Bool)
 | 0,_,_,_,_,_,_,_,_,_=>none
 | k + 1,x4,x11,x12,x13,x22,x23,x24,x113000,x113001=>if x24 < x23 then (if 0 ≤ x24 then (if x24 < (x22.length : Int) then (if 0 ≤ (rd x22 x24) then (if (rd x22 x24) < (x113001.length : Int) then (if (Go.bits .andNot .i64 (rd x113001 (rd x22 x24)) x4) = 0 then (spec_orGood.l1 k x4 x11 x12 x13 x22 x23 (wrap64 (x24 + 1)) x113000 x113001) else (some false)) else (none)) else (none)) else (none)) else (none)) else (spec_orGood.l0 k x11 x12 (wrap64 (x13 + 1)) x113000 x113001)
end
def spec_orGood.f (k : Nat) (a0_0 : Int) (l0_1 : List Int) : Option (Bool) := (spec_orRelation.f k a0_0 l0_1).bind fun t113 => (if t113 = true then (spec_orGood.l0 k l0_1 (l0_1.length : Int) 0 a0_0 l0_1) else (some false))
set_option maxHeartbeats 8000000 in
set_option maxRecDepth 100000 in
theorem spec_orGood.calls (k : Nat) (a0_0 : Int) (A0_1 : Option Addr) (c0_1 : Nat) (l0_1 : List Int) (r : Bool) (w : World) (hr0_1 : Kd.C (Kd.int .i64) w A0_1 l0_1.length l0_1) (hc0_1 : l0_1.length ≤ c0_1) (h : spec_orGood.f k a0_0 l0_1 = some r) :
 Calls Tryd.prog 142 #[.agg #[.int .i64 a0_0,.slice A0_1 l0_1.length c0_1]] w fun e w'=>e = .returned (.bool r) ∧ Below w.heap.size w w':=by
 have hu28:=Tryd.underlying28;have HR0_1:=A_ hr0_1;have HC0_1:=A_ hc0_1;clear hr0_1 hc0_1;have HB:=A_ (Below.refl w.heap.size w);have H : ((spec_orRelation.f k a0_0 l0_1).bind fun t113=>(if t113 = true then (spec_orGood.l0 k l0_1 (l0_1.length : Int) 0 a0_0 l0_1) else (some false))) = some r:=h;clear h;replace H:=Option.bind_eq_some_iff.mp H;obtain ⟨t113,A20,H⟩:=H;replace H : (if t113 = true then (spec_orGood.l0 k l0_1 (l0_1.length : Int) 0 a0_0 l0_1) else (some false)) = some r:=H;have A2:=A_ A20;clear A20;by_cases c3 : t113 = true
 ·subst c3;have H1 : (spec_orGood.l0 k l0_1 (l0_1.length : Int) 0 a0_0 l0_1) = some r:=by rw [if_pos rfl] at H;exact H
  clear H;have H:=H1;clear H1;have H':=A_ H;clear H;go_enter Tryd.func142,Tryd.ntmps142
  go_wp2_with (first|((with_reducible refine gate_dst (N:=1) rfl ?_);refine box_event ?hg (N:=1) ?hd (cs:=#[.int .i64 a0_0,.slice A0_1 l0_1.length c0_1]) (t:=28) ?hr ?_;(case hd=>rfl);(case hg=>rfl);(case hr=>first|(go_simp;done)|(go_simp;rfl));intro gb112 hg w4 hbox hb;have BK112:=A_ (hbox);have GW112:=A_ ((by rw [hg];exact (below_size bb_) : w.heap.size ≤ gb112));have GE112:=A_ ((by rw [hg];exact (below_size bb_) : w.heap.size ≤ gb112));replace HB:=A_ (below_step bb_ hb);clear hb hbox hg;have hcz5_0 : w4.cell? ⟨gb112,0,none⟩ = some (.int .i64 a0_0):=blk_cell BK112.out 0;have hcz5_1 : w4.cell? ⟨gb112,1,none⟩ = some (.slice A0_1 l0_1.length c0_1):=blk_cell BK112.out 1;have hfz5_0:=blk_frozen BK112.out 0;have hfz5_1:=blk_frozen BK112.out 1)|((with_reducible refine gate_callee (f:=207) rfl ?_);refine goesL_ (some 8) rfl rfl Tryd.func207 (by kernel_rfl) rfl #[.agg #[.int .i64 a0_0,.slice A0_1 l0_1.length c0_1]] rfl au_ ?_;(with_reducible refine (spec_orRelation.calls k a0_0 _ _ l0_1 true _ ?side1 ?side2 A2.out).mono ?_);(case side1=>exact cl_ (Kd.C_below HR0_1.out HB.out));(case side2=>exact HC0_1.out);rintro e w6 ⟨rfl,hb⟩;refine ⟨_,rfl,?_⟩;replace BK112:=bz BK112 hb;replace HB:=A_ (below_step bb_ hb);(try clear hb);(try clear hb2);(try clear hk);(try clear hi);have hcz7_0 : w6.cell? ⟨gb112,0,none⟩ = some (.int .i64 a0_0):=blk_cell BK112.out 0;have hcz7_1 : w6.cell? ⟨gb112,1,none⟩ = some (.slice A0_1 l0_1.length c0_1):=blk_cell BK112.out 1;have hfz7_0:=blk_frozen BK112.out 0;have hfz7_1:=blk_frozen BK112.out 1))
  go_loopg [13] k (fun kq v13 w'=>∃ (x13_1 : Int),v13 = .int .i64 x13_1 ∧ Aside0 (spec_orGood.l0 kq l0_1 (l0_1.length : Int) x13_1 a0_0 l0_1 = some r) ∧ Aside0 (kq ≤ k) ∧ Aside0 (w'.heap[gb112]? = some (.cells #[.int .i64 a0_0,(.slice A0_1 l0_1.length c0_1)] 28 (0,0))) ∧ Aside0 (Below w.heap.size w w'))
  case atStart=>exact ⟨(0),(by first|rfl|(simp;done)|(simp [*];done)),H',⟨Nat.le_refl _⟩,⟨bl_ BK112⟩,⟨bb_⟩⟩
  case round =>
   clear H';try clear c1
   try clear c2
   try clear p2
   try clear c3
   try clear hcz5_0
   try clear hcz5_1
   try clear hcz7_0
   try clear hcz7_1
   try clear hfz5_0
   try clear hfz5_1
   try clear hfz7_0
   try clear hfz7_1
   obtain ⟨x13_1,rfl,HA,HK1,BK112,HB⟩:=hrel;cases gk with
   | zero=>exact absurd HA.out (by simp [spec_orGood.l0])
   | succ k1 =>
    have H:=HA.out;clear HA;simp only [spec_orGood.l0] at H
    by_cases c8 : x13_1 < (l0_1.length : Int)
    ·rw [if_pos c8] at H;have c8b0 : decide (x13_1 < (l0_1.length : Int)) = true:=decide_eq_true c8;clear c8;by_cases c9 : 0 ≤ x13_1
     ·rw [if_pos c9] at H;have c9b0 : decide (0 ≤ x13_1) = true:=decide_eq_true c9;clear c9;by_cases c10 : x13_1 < (l0_1.length : Int)
      ·rw [if_pos c10] at H;have c10b0 : decide (x13_1 < (l0_1.length : Int)) = true:=decide_eq_true c10;clear c10;replace H:=Option.bind_eq_some_iff.mp H;obtain ⟨t115,A110,H⟩:=H;replace H : (if t115 = true then (some false) else ((spec_orList.f k1 (rd l0_1 x13_1)).bind fun t116=>(spec_orGood.l1 k1 (rd l0_1 x13_1) l0_1 (l0_1.length : Int) x13_1 t116 (t116.length : Int) 0 a0_0 l0_1))) = some r:=H;have A11:=A_ A110;clear A110;by_cases c12 : t115 = true
       ·subst c12;have H1 : (some false) = some r:=by rw [if_pos rfl] at H;exact H
        clear H;have H:=H1;clear H1;obtain rfl:=Option.some.inj H;have p114 : 0 ≤ (x13_1 : Int):=of_decide_eq_true (by first|(with_reducible assumption)|assumption);have q114 : x13_1 < (l0_1.length : Int):=of_decide_eq_true (by first|(with_reducible assumption)|assumption);obtain ⟨ad114,e114,hx114_0⟩:=Kd.at_int HR0_1.out x13_1 p114 q114;cases e114
        (try replace hx114_0:=(HB.out.cell (World.block_lt_of_cell? w _ hx114_0)).trans hx114_0);replace p114:=eq_true p114;replace q114:=eq_true q114;go_wp2_with (first|((with_reducible refine gate_callee (f:=192) rfl ?_);refine goesL_ (some 20) rfl rfl Tryd.func192 (by kernel_rfl) rfl #[.int .i64 (rd l0_1 x13_1),.int .i64 x13_1] rfl au_ ?_;(with_reducible refine (spec_orHas.calls (rd l0_1 x13_1) x13_1 true _ A11.out).mono ?_);rintro e w' ⟨rfl,⟨nd,rfl⟩⟩;refine ⟨_,rfl,?_⟩))
        go_ret
        exact ⟨by first|rfl|(simp [errW_none,errW_some] <;> rfl)|(simp [*,errW_none,errW_some] <;> rfl),bb_⟩
       ·replace c12:=Bool.eq_false_iff.mpr c12;subst c12;have H1 : ((spec_orList.f k1 (rd l0_1 x13_1)).bind fun t116=>(spec_orGood.l1 k1 (rd l0_1 x13_1) l0_1 (l0_1.length : Int) x13_1 t116 (t116.length : Int) 0 a0_0 l0_1)) = some r:=by rw [if_neg (show ¬ (false = true) by decide)] at H;exact H
        clear H;have H:=H1;clear H1;replace H:=Option.bind_eq_some_iff.mp H;obtain ⟨t116,A130,H⟩:=H;replace H : (spec_orGood.l1 k1 (rd l0_1 x13_1) l0_1 (l0_1.length : Int) x13_1 t116 (t116.length : Int) 0 a0_0 l0_1) = some r:=H;have A13:=A_ A130;clear A130;have H':=A_ H;clear H;have p114 : 0 ≤ (x13_1 : Int):=of_decide_eq_true (by first|(with_reducible assumption)|assumption);have q114 : x13_1 < (l0_1.length : Int):=of_decide_eq_true (by first|(with_reducible assumption)|assumption);obtain ⟨ad114,e114,hx114_0⟩:=Kd.at_int HR0_1.out x13_1 p114 q114;cases e114
        (try replace hx114_0:=(HB.out.cell (World.block_lt_of_cell? w _ hx114_0)).trans hx114_0);replace p114:=eq_true p114;replace q114:=eq_true q114;go_wp2_with (first|((with_reducible refine gate_callee (f:=192) rfl ?_);refine goesL_ (some 20) rfl rfl Tryd.func192 (by kernel_rfl) rfl #[.int .i64 (rd l0_1 x13_1),.int .i64 x13_1] rfl au_ ?_;(with_reducible refine (spec_orHas.calls (rd l0_1 x13_1) x13_1 false _ A11.out).mono ?_);rintro e w' ⟨rfl,⟨nd,rfl⟩⟩;refine ⟨_,rfl,?_⟩)|((with_reducible refine gate_callee (f:=191) rfl ?_);refine goesL_ (some 22) rfl rfl Tryd.func191 (by kernel_rfl) rfl #[.int .i64 (rd l0_1 x13_1)] rfl au_ ?_;(with_reducible refine (spec_orList.calls k1 (rd l0_1 x13_1) t116 _ A13.out).mono ?_);rintro e w14 ⟨v117,rfl,ho0,hb⟩;refine ⟨_,rfl,?_⟩;have HO118:=A_ (Kd.R_lower ho0 (below_size bb_));replace BK112:=bz BK112 hb;replace HB:=A_ (below_step bb_ hb);(try clear hb);(try clear hb2);(try clear hk);(try clear hi);(try clear ho0);obtain ⟨Ao15,co15,eo15⟩:=Kd.R_slice HO118.out;subst eo15))
        go_loopg [24] k1 (fun kq v24 w'=>∃ (x24_2 : Int),v24 = .int .i64 x24_2 ∧ Aside0 (spec_orGood.l1 kq (rd l0_1 x13_1) l0_1 (l0_1.length : Int) x13_1 t116 (t116.length : Int) x24_2 a0_0 l0_1 = some r) ∧ Aside0 (kq ≤ k1) ∧ Aside0 (Kd.R (Kd.int .i64) 3 w' w.heap.size (fun _=>True) (.slice Ao15 t116.length co15) t116) ∧ Aside0 (w'.heap[gb112]? = some (.cells #[.int .i64 a0_0,(.slice (some ad114) l0_1.length c0_1)] 28 (0,0))) ∧ Aside0 (Below w.heap.size w w'))
        case atStart=>exact ⟨(0),(by first|rfl|(simp;done)|(simp [*];done)),H',⟨Nat.le_refl _⟩,⟨by (with_reducible repeat (first|apply Kd.R_alloc|apply Kd.R_drewN|apply Kd.R_drew));exact HO118.out⟩,⟨bl_ BK112⟩,⟨bb_⟩⟩
        case round =>
         clear H';try clear c1
         try clear p1
         try clear q1
         try clear hx1
         try clear c2
         try clear p2
         try clear c3
         try clear c8
         try clear c8b0
         try clear c9
         try clear c9b0
         try clear c10
         try clear c10b0
         try clear p11
         try clear q11
         try clear hx11
         try clear c12
         try clear c14
         try clear hcz5_0
         try clear hcz5_1
         try clear hcz7_0
         try clear hcz7_1
         try clear hfz5_0
         try clear hfz5_1
         try clear hfz7_0
         try clear hfz7_1
         try clear hx114_0
         try clear p114
         try clear p2
         try clear q114
         obtain ⟨x24_2,rfl,HA,HK2,HO_22,BK112,HB⟩:=hrel;cases gk with
         | zero=>exact absurd HA.out (by simp [spec_orGood.l1])
         | succ k2 =>
          have H:=HA.out;clear HA;simp only [spec_orGood.l1] at H
          by_cases c16 : x24_2 < (t116.length : Int)
          ·rw [if_pos c16] at H;have c16b0 : decide (x24_2 < (t116.length : Int)) = true:=decide_eq_true c16;clear c16;by_cases c17 : 0 ≤ x24_2
           ·rw [if_pos c17] at H;have c17b0 : decide (0 ≤ x24_2) = true:=decide_eq_true c17;clear c17;by_cases c18 : x24_2 < (t116.length : Int)
            ·rw [if_pos c18] at H;have c18b0 : decide (x24_2 < (t116.length : Int)) = true:=decide_eq_true c18;clear c18;by_cases c19 : 0 ≤ (rd t116 x24_2)
             ·rw [if_pos c19] at H;have c19b0 : decide (0 ≤ (rd t116 x24_2)) = true:=decide_eq_true c19;clear c19;by_cases c20 : (rd t116 x24_2) < (l0_1.length : Int)
              ·rw [if_pos c20] at H;have c20b0 : decide ((rd t116 x24_2) < (l0_1.length : Int)) = true:=decide_eq_true c20;clear c20;by_cases c21 : (Go.bits .andNot .i64 (rd l0_1 (rd t116 x24_2)) (rd l0_1 x13_1)) = 0
               ·rw [if_pos c21] at H;have c21b0 : ((Go.bits .andNot .i64 (rd l0_1 (rd t116 x24_2)) (rd l0_1 x13_1)) == 0) = true:=beq_iff_eq.mpr c21;have c21b1 : ((Go.bits .andNot .i64 (rd l0_1 (rd t116 x24_2)) (rd l0_1 x13_1)) != 0) = false:=bne_eq_false_iff_eq.mpr c21;clear c21;have H':=A_ H;clear H;have p119 : 0 ≤ (x24_2 : Int):=of_decide_eq_true (by first|(with_reducible assumption)|assumption);have q119 : x24_2 < (t116.length : Int):=of_decide_eq_true (by first|(with_reducible assumption)|assumption);obtain ⟨ad119,e119,hx119_0⟩:=Kd.at_int (Kd.R_reads' HO_22.out).2.2 x24_2 p119 q119;cases e119
                replace p119:=eq_true p119;replace q119:=eq_true q119;have hcz22_0 : wr.cell? ⟨gb112,0,none⟩ = some (.int .i64 a0_0):=blk_cell BK112.out 0;have hcz22_1 : wr.cell? ⟨gb112,1,none⟩ = some (.slice (some ad114) l0_1.length c0_1):=blk_cell BK112.out 1;have hfz22_0:=blk_frozen BK112.out 0;have hfz22_1:=blk_frozen BK112.out 1;have p120 : 0 ≤ ((rd t116 x24_2) : Int):=of_decide_eq_true (by first|(with_reducible assumption)|assumption);have q120 : (rd t116 x24_2) < (l0_1.length : Int):=of_decide_eq_true (by first|(with_reducible assumption)|assumption);obtain ⟨ad120,e120,hx120_0⟩:=Kd.at_int HR0_1.out (rd t116 x24_2) p120 q120;obtain rfl : ad114 = ad120:=(by injection e120);(try replace hx120_0:=(HB.out.cell (World.block_lt_of_cell? w _ hx120_0)).trans hx120_0);replace p120:=eq_true p120;replace q120:=eq_true q120;go_wp2
                go_roundg k2
                case measure=>have:=HK1.out;have:=HK2.out;omega
                case rel=>exact ⟨(wrap64 (x24_2 + 1)),(by first|rfl|(simp;done)|(simp [*];done)),H',⟨by have:=HK1.out;have:=HK2.out;omega⟩,⟨by (with_reducible repeat (first|apply Kd.R_alloc|apply Kd.R_drewN|apply Kd.R_drew));exact HO_22.out⟩,⟨bl_ BK112⟩,⟨bb_⟩⟩
               ·rw [if_neg c21] at H;have c21b0 : ((Go.bits .andNot .i64 (rd l0_1 (rd t116 x24_2)) (rd l0_1 x13_1)) == 0) = false:=beq_eq_false_iff_ne.mpr c21;have c21b1 : ((Go.bits .andNot .i64 (rd l0_1 (rd t116 x24_2)) (rd l0_1 x13_1)) != 0) = true:=bne_iff_ne.mpr c21;obtain rfl:=Option.some.inj H;have p119 : 0 ≤ (x24_2 : Int):=of_decide_eq_true (by first|(with_reducible assumption)|assumption);have q119 : x24_2 < (t116.length : Int):=of_decide_eq_true (by first|(with_reducible assumption)|assumption);obtain ⟨ad119,e119,hx119_0⟩:=Kd.at_int (Kd.R_reads' HO_22.out).2.2 x24_2 p119 q119;cases e119
                replace p119:=eq_true p119;replace q119:=eq_true q119;have hcz23_0 : wr.cell? ⟨gb112,0,none⟩ = some (.int .i64 a0_0):=blk_cell BK112.out 0;have hcz23_1 : wr.cell? ⟨gb112,1,none⟩ = some (.slice (some ad114) l0_1.length c0_1):=blk_cell BK112.out 1;have hfz23_0:=blk_frozen BK112.out 0;have hfz23_1:=blk_frozen BK112.out 1;have p120 : 0 ≤ ((rd t116 x24_2) : Int):=of_decide_eq_true (by first|(with_reducible assumption)|assumption);have q120 : (rd t116 x24_2) < (l0_1.length : Int):=of_decide_eq_true (by first|(with_reducible assumption)|assumption);obtain ⟨ad120,e120,hx120_0⟩:=Kd.at_int HR0_1.out (rd t116 x24_2) p120 q120;obtain rfl : ad114 = ad120:=(by injection e120);(try replace hx120_0:=(HB.out.cell (World.block_lt_of_cell? w _ hx120_0)).trans hx120_0);replace p120:=eq_true p120;replace q120:=eq_true q120;go_wp2
                go_ret
                exact ⟨by first|rfl|(simp [errW_none,errW_some] <;> rfl)|(simp [*,errW_none,errW_some] <;> rfl),bb_⟩
              ·rw [if_neg c20] at H;exact absurd H (by simp)
             ·rw [if_neg c19] at H;exact absurd H (by simp)
            ·rw [if_neg c18] at H;exact absurd H (by simp)
           ·rw [if_neg c17] at H;exact absurd H (by simp)
          ·rw [if_neg c16] at H;have c16b0 : decide (x24_2 < (t116.length : Int)) = false:=decide_eq_false c16;clear c16;have H':=A_ H;clear H;go_wp2
           go_roundg k2
           case measure=>have:=HK1.out;have:=HK2.out;omega
           case rel=>exact ⟨(wrap64 (x13_1 + 1)),(by first|rfl|(simp;done)|(simp [*];done)),H',⟨by have:=HK1.out;have:=HK2.out;omega⟩,⟨bl_ BK112⟩,⟨bb_⟩⟩
      ·rw [if_neg c10] at H;exact absurd H (by simp)
     ·rw [if_neg c9] at H;exact absurd H (by simp)
    ·rw [if_neg c8] at H;have c8b0 : decide (x13_1 < (l0_1.length : Int)) = false:=decide_eq_false c8;clear c8;obtain rfl:=Option.some.inj H;go_wp2
     go_ret
     exact ⟨by first|rfl|(simp [errW_none,errW_some] <;> rfl)|(simp [*,errW_none,errW_some] <;> rfl),bb_⟩
 ·replace c3:=Bool.eq_false_iff.mpr c3;subst c3;have H1 : (some false) = some r:=by rw [if_neg (show ¬ (false = true) by decide)] at H;exact H
  clear H;have H:=H1;clear H1;obtain rfl:=Option.some.inj H;go_enter Tryd.func142,Tryd.ntmps142
  go_wp2_with (first|((with_reducible refine gate_dst (N:=1) rfl ?_);refine box_event ?hg (N:=1) ?hd (cs:=#[.int .i64 a0_0,.slice A0_1 l0_1.length c0_1]) (t:=28) ?hr ?_;(case hd=>rfl);(case hg=>rfl);(case hr=>first|(go_simp;done)|(go_simp;rfl));intro gb112 hg w24 hbox hb;have BK112:=A_ (hbox);have GW112:=A_ ((by rw [hg];exact (below_size bb_) : w.heap.size ≤ gb112));have GE112:=A_ ((by rw [hg];exact (below_size bb_) : w.heap.size ≤ gb112));replace HB:=A_ (below_step bb_ hb);clear hb hbox hg;have hcz25_0 : w24.cell? ⟨gb112,0,none⟩ = some (.int .i64 a0_0):=blk_cell BK112.out 0;have hcz25_1 : w24.cell? ⟨gb112,1,none⟩ = some (.slice A0_1 l0_1.length c0_1):=blk_cell BK112.out 1;have hfz25_0:=blk_frozen BK112.out 0;have hfz25_1:=blk_frozen BK112.out 1)|((with_reducible refine gate_callee (f:=207) rfl ?_);refine goesL_ (some 8) rfl rfl Tryd.func207 (by kernel_rfl) rfl #[.agg #[.int .i64 a0_0,.slice A0_1 l0_1.length c0_1]] rfl au_ ?_;(with_reducible refine (spec_orRelation.calls k a0_0 _ _ l0_1 false _ ?side1 ?side2 A2.out).mono ?_);(case side1=>exact cl_ (Kd.C_below HR0_1.out HB.out));(case side2=>exact HC0_1.out);rintro e w26 ⟨rfl,hb⟩;refine ⟨_,rfl,?_⟩;replace BK112:=bz BK112 hb;replace HB:=A_ (below_step bb_ hb);(try clear hb);(try clear hb2);(try clear hk);(try clear hi)))
  go_ret
  exact ⟨by first|rfl|(simp [errW_none,errW_some] <;> rfl)|(simp [*,errW_none,errW_some] <;> rfl),bb_⟩
def spec_ivRefuses.f (a0_0 : Int) (l0_1 : List Int) (a1 : Int) (a2 : Int) (a3 : Int) (a4 : Int) : Option (Bool) := if 0 ≤ a1 then (if a1 < (l0_1.length : Int) then ((spec_orHas.f (rd l0_1 a1) a2).bind fun t1237 => (if t1237 = true then (if 0 ≤ a3 then (if a3 < (l0_1.length : Int) then ((spec_orHas.f (rd l0_1 a3) a4).bind fun t1239 => (if t1239 = true then ((spec_orHas.f (rd l0_1 a3) a2).bind fun t1241 => (if t1241 = true then (some false) else ((spec_orHas.f (rd l0_1 a1) a4).bind fun t1243 => (some (!t1243))))) else (some false))) else (none)) else (none)) else (some false))) else (none)) else (none)
set_option maxHeartbeats 8000000 in
set_option maxRecDepth 100000 in
theorem spec_ivRefuses.calls (a0_0 : Int) (A0_1 : Option Addr) (c0_1 : Nat) (l0_1 : List Int) (a1 : Int) (a2 : Int) (a3 : Int) (a4 : Int) (r : Bool) (w : World) (hr0_1 : Kd.C (Kd.int .i64) w A0_1 l0_1.length l0_1) (hc0_1 : l0_1.length ≤ c0_1) (h : spec_ivRefuses.f a0_0 l0_1 a1 a2 a3 a4 = some r) :
 Calls Tryd.prog 208 #[.agg #[.int .i64 a0_0,.slice A0_1 l0_1.length c0_1],.int .i64 a1,.int .i64 a2,.int .i64 a3,.int .i64 a4] w fun e w'=>e = .returned (.bool r) ∧ Below w.heap.size w w':=by
 have hu28:=Tryd.underlying28;have HR0_1:=A_ hr0_1;have HC0_1:=A_ hc0_1;clear hr0_1 hc0_1;have HB:=A_ (Below.refl w.heap.size w);have H : (if 0 ≤ a1 then (if a1 < (l0_1.length : Int) then ((spec_orHas.f (rd l0_1 a1) a2).bind fun t1237=>(if t1237 = true then (if 0 ≤ a3 then (if a3 < (l0_1.length : Int) then ((spec_orHas.f (rd l0_1 a3) a4).bind fun t1239=>(if t1239 = true then ((spec_orHas.f (rd l0_1 a3) a2).bind fun t1241=>(if t1241 = true then (some false) else ((spec_orHas.f (rd l0_1 a1) a4).bind fun t1243=>(some (!t1243))))) else (some false))) else (none)) else (none)) else (some false))) else (none)) else (none)) = some r:=h;clear h;by_cases c6 : 0 ≤ a1
 ·rw [if_pos c6] at H;have c6b0 : decide (0 ≤ a1) = true:=decide_eq_true c6;clear c6;by_cases c7 : a1 < (l0_1.length : Int)
  ·rw [if_pos c7] at H;have c7b0 : decide (a1 < (l0_1.length : Int)) = true:=decide_eq_true c7;clear c7;replace H:=Option.bind_eq_some_iff.mp H;obtain ⟨t1237,A80,H⟩:=H;replace H : (if t1237 = true then (if 0 ≤ a3 then (if a3 < (l0_1.length : Int) then ((spec_orHas.f (rd l0_1 a3) a4).bind fun t1239=>(if t1239 = true then ((spec_orHas.f (rd l0_1 a3) a2).bind fun t1241=>(if t1241 = true then (some false) else ((spec_orHas.f (rd l0_1 a1) a4).bind fun t1243=>(some (!t1243))))) else (some false))) else (none)) else (none)) else (some false)) = some r:=H;have A8:=A_ A80;clear A80;by_cases c9 : t1237 = true
   ·subst c9;have H1 : (if 0 ≤ a3 then (if a3 < (l0_1.length : Int) then ((spec_orHas.f (rd l0_1 a3) a4).bind fun t1239=>(if t1239 = true then ((spec_orHas.f (rd l0_1 a3) a2).bind fun t1241=>(if t1241 = true then (some false) else ((spec_orHas.f (rd l0_1 a1) a4).bind fun t1243=>(some (!t1243))))) else (some false))) else (none)) else (none)) = some r:=by rw [if_pos rfl] at H;exact H
    clear H;have H:=H1;clear H1;by_cases c10 : 0 ≤ a3
    ·rw [if_pos c10] at H;have c10b0 : decide (0 ≤ a3) = true:=decide_eq_true c10;clear c10;by_cases c11 : a3 < (l0_1.length : Int)
     ·rw [if_pos c11] at H;have c11b0 : decide (a3 < (l0_1.length : Int)) = true:=decide_eq_true c11;clear c11;replace H:=Option.bind_eq_some_iff.mp H;obtain ⟨t1239,A120,H⟩:=H;replace H : (if t1239 = true then ((spec_orHas.f (rd l0_1 a3) a2).bind fun t1241=>(if t1241 = true then (some false) else ((spec_orHas.f (rd l0_1 a1) a4).bind fun t1243=>(some (!t1243))))) else (some false)) = some r:=H;have A12:=A_ A120;clear A120;by_cases c13 : t1239 = true
      ·subst c13;have H1 : ((spec_orHas.f (rd l0_1 a3) a2).bind fun t1241=>(if t1241 = true then (some false) else ((spec_orHas.f (rd l0_1 a1) a4).bind fun t1243=>(some (!t1243))))) = some r:=by rw [if_pos rfl] at H;exact H
       clear H;have H:=H1;clear H1;replace H:=Option.bind_eq_some_iff.mp H;obtain ⟨t1241,A140,H⟩:=H;replace H : (if t1241 = true then (some false) else ((spec_orHas.f (rd l0_1 a1) a4).bind fun t1243=>(some (!t1243)))) = some r:=H;have A14:=A_ A140;clear A140;by_cases c15 : t1241 = true
       ·subst c15;have H1 : (some false) = some r:=by rw [if_pos rfl] at H;exact H
        clear H;have H:=H1;clear H1;obtain rfl:=Option.some.inj H;go_enter Tryd.func208,Tryd.ntmps208
        go_wp2_with (first|((with_reducible refine gate_dst (N:=5) rfl ?_);refine box_event ?hg (N:=5) ?hd (cs:=#[.int .i64 a0_0,.slice A0_1 l0_1.length c0_1]) (t:=28) ?hr ?_;(case hd=>rfl);(case hg=>rfl);(case hr=>first|(go_simp;done)|(go_simp;rfl));intro gb1235 hg w16 hbox hb;have BK1235:=A_ (hbox);have GW1235:=A_ ((by rw [hg];exact (below_size bb_) : w.heap.size ≤ gb1235));have GE1235:=A_ ((by rw [hg];exact (below_size bb_) : w.heap.size ≤ gb1235));replace HB:=A_ (below_step bb_ hb);clear hb hbox hg;have hcz17_0 : w16.cell? ⟨gb1235,0,none⟩ = some (.int .i64 a0_0):=blk_cell BK1235.out 0;have hcz17_1 : w16.cell? ⟨gb1235,1,none⟩ = some (.slice A0_1 l0_1.length c0_1):=blk_cell BK1235.out 1;have hfz17_0:=blk_frozen BK1235.out 0;have hfz17_1:=blk_frozen BK1235.out 1;have p1236 : 0 ≤ (a1 : Int):=of_decide_eq_true (by first|(with_reducible assumption)|assumption);have q1236 : a1 < (l0_1.length : Int):=of_decide_eq_true (by first|(with_reducible assumption)|assumption);obtain ⟨ad1236,e1236,hx1236_0⟩:=Kd.at_int HR0_1.out a1 p1236 q1236;cases e1236;(try replace hx1236_0:=(HB.out.cell (World.block_lt_of_cell? w _ hx1236_0)).trans hx1236_0);replace p1236:=eq_true p1236;replace q1236:=eq_true q1236)|((with_reducible refine gate_callee (f:=192) rfl ?_);refine goesL_ (some 17) rfl rfl Tryd.func192 (by kernel_rfl) rfl #[.int .i64 (rd l0_1 a1),.int .i64 a2] rfl au_ ?_;(with_reducible refine (spec_orHas.calls (rd l0_1 a1) a2 true _ A8.out).mono ?_);rintro e w' ⟨rfl,⟨nd,rfl⟩⟩;refine ⟨_,rfl,?_⟩;have p1238 : 0 ≤ (a3 : Int):=of_decide_eq_true (by first|(with_reducible assumption)|assumption);have q1238 : a3 < (l0_1.length : Int):=of_decide_eq_true (by first|(with_reducible assumption)|assumption);obtain ⟨ad1238,e1238,hx1238_0⟩:=Kd.at_int HR0_1.out a3 p1238 q1238;obtain rfl : ad1236 = ad1238:=(by injection e1238);(try replace hx1238_0:=(HB.out.cell (World.block_lt_of_cell? w _ hx1238_0)).trans hx1238_0);replace p1238:=eq_true p1238;replace q1238:=eq_true q1238)|(go_at_call 192;(with_reducible refine (spec_orHas.calls (rd l0_1 a3) a4 true _ A12.out).mono ?_);rintro e w' ⟨rfl,⟨nd,rfl⟩⟩;have p1240 : 0 ≤ (a3 : Int):=of_decide_eq_true (by first|(with_reducible assumption)|assumption);have q1240 : a3 < (l0_1.length : Int):=of_decide_eq_true (by first|(with_reducible assumption)|assumption);obtain ⟨ad1240,e1240,hx1240_0⟩:=Kd.at_int HR0_1.out a3 p1240 q1240;obtain rfl : ad1236 = ad1240:=(by injection e1240);(try replace hx1240_0:=(HB.out.cell (World.block_lt_of_cell? w _ hx1240_0)).trans hx1240_0);replace p1240:=eq_true p1240;replace q1240:=eq_true q1240)|(go_at_call 192;(with_reducible refine (spec_orHas.calls (rd l0_1 a3) a2 true _ A14.out).mono ?_);rintro e w' ⟨rfl,⟨nd,rfl⟩⟩))
        go_ret
        exact ⟨by first|rfl|(simp [errW_none,errW_some] <;> rfl)|(simp [*,errW_none,errW_some] <;> rfl),bb_⟩
       ·replace c15:=Bool.eq_false_iff.mpr c15;subst c15;have H1 : ((spec_orHas.f (rd l0_1 a1) a4).bind fun t1243=>(some (!t1243))) = some r:=by rw [if_neg (show ¬ (false = true) by decide)] at H;exact H
        clear H;have H:=H1;clear H1;replace H:=Option.bind_eq_some_iff.mp H;obtain ⟨t1243,A180,H⟩:=H;replace H : (some (!t1243)) = some r:=H;have A18:=A_ A180;clear A180;obtain rfl:=Option.some.inj H;go_enter Tryd.func208,Tryd.ntmps208
        go_wp2_with (first|((with_reducible refine gate_dst (N:=5) rfl ?_);refine box_event ?hg (N:=5) ?hd (cs:=#[.int .i64 a0_0,.slice A0_1 l0_1.length c0_1]) (t:=28) ?hr ?_;(case hd=>rfl);(case hg=>rfl);(case hr=>first|(go_simp;done)|(go_simp;rfl));intro gb1235 hg w19 hbox hb;have BK1235:=A_ (hbox);have GW1235:=A_ ((by rw [hg];exact (below_size bb_) : w.heap.size ≤ gb1235));have GE1235:=A_ ((by rw [hg];exact (below_size bb_) : w.heap.size ≤ gb1235));replace HB:=A_ (below_step bb_ hb);clear hb hbox hg;have hcz20_0 : w19.cell? ⟨gb1235,0,none⟩ = some (.int .i64 a0_0):=blk_cell BK1235.out 0;have hcz20_1 : w19.cell? ⟨gb1235,1,none⟩ = some (.slice A0_1 l0_1.length c0_1):=blk_cell BK1235.out 1;have hfz20_0:=blk_frozen BK1235.out 0;have hfz20_1:=blk_frozen BK1235.out 1;have p1236 : 0 ≤ (a1 : Int):=of_decide_eq_true (by first|(with_reducible assumption)|assumption);have q1236 : a1 < (l0_1.length : Int):=of_decide_eq_true (by first|(with_reducible assumption)|assumption);obtain ⟨ad1236,e1236,hx1236_0⟩:=Kd.at_int HR0_1.out a1 p1236 q1236;cases e1236;(try replace hx1236_0:=(HB.out.cell (World.block_lt_of_cell? w _ hx1236_0)).trans hx1236_0);replace p1236:=eq_true p1236;replace q1236:=eq_true q1236)|((with_reducible refine gate_callee (f:=192) rfl ?_);refine goesL_ (some 17) rfl rfl Tryd.func192 (by kernel_rfl) rfl #[.int .i64 (rd l0_1 a1),.int .i64 a2] rfl au_ ?_;(with_reducible refine (spec_orHas.calls (rd l0_1 a1) a2 true _ A8.out).mono ?_);rintro e w' ⟨rfl,⟨nd,rfl⟩⟩;refine ⟨_,rfl,?_⟩;have p1238 : 0 ≤ (a3 : Int):=of_decide_eq_true (by first|(with_reducible assumption)|assumption);have q1238 : a3 < (l0_1.length : Int):=of_decide_eq_true (by first|(with_reducible assumption)|assumption);obtain ⟨ad1238,e1238,hx1238_0⟩:=Kd.at_int HR0_1.out a3 p1238 q1238;obtain rfl : ad1236 = ad1238:=(by injection e1238);(try replace hx1238_0:=(HB.out.cell (World.block_lt_of_cell? w _ hx1238_0)).trans hx1238_0);replace p1238:=eq_true p1238;replace q1238:=eq_true q1238)|(go_at_call 192;(with_reducible refine (spec_orHas.calls (rd l0_1 a3) a4 true _ A12.out).mono ?_);rintro e w' ⟨rfl,⟨nd,rfl⟩⟩;have p1240 : 0 ≤ (a3 : Int):=of_decide_eq_true (by first|(with_reducible assumption)|assumption);have q1240 : a3 < (l0_1.length : Int):=of_decide_eq_true (by first|(with_reducible assumption)|assumption);obtain ⟨ad1240,e1240,hx1240_0⟩:=Kd.at_int HR0_1.out a3 p1240 q1240;obtain rfl : ad1236 = ad1240:=(by injection e1240);(try replace hx1240_0:=(HB.out.cell (World.block_lt_of_cell? w _ hx1240_0)).trans hx1240_0);replace p1240:=eq_true p1240;replace q1240:=eq_true q1240)|(go_at_call 192;(with_reducible refine (spec_orHas.calls (rd l0_1 a3) a2 false _ A14.out).mono ?_);rintro e w' ⟨rfl,⟨nd,rfl⟩⟩;have p1242 : 0 ≤ (a1 : Int):=of_decide_eq_true (by first|(with_reducible assumption)|assumption);have q1242 : a1 < (l0_1.length : Int):=of_decide_eq_true (by first|(with_reducible assumption)|assumption);obtain ⟨ad1242,e1242,hx1242_0⟩:=Kd.at_int HR0_1.out a1 p1242 q1242;obtain rfl : ad1236 = ad1242:=(by injection e1242);(try replace hx1242_0:=(HB.out.cell (World.block_lt_of_cell? w _ hx1242_0)).trans hx1242_0);replace p1242:=eq_true p1242;replace q1242:=eq_true q1242)|(go_at_call 192;(with_reducible refine (spec_orHas.calls (rd l0_1 a1) a4 t1243 _ A18.out).mono ?_);rintro e w' ⟨rfl,⟨nd,rfl⟩⟩))
        go_ret
        exact ⟨by first|rfl|(simp [errW_none,errW_some] <;> rfl)|(simp [*,errW_none,errW_some] <;> rfl),bb_⟩
      ·replace c13:=Bool.eq_false_iff.mpr c13;subst c13;have H1 : (some false) = some r:=by rw [if_neg (show ¬ (false = true) by decide)] at H;exact H
       clear H;have H:=H1;clear H1;obtain rfl:=Option.some.inj H;go_enter Tryd.func208,Tryd.ntmps208
       go_wp2_with (first|((with_reducible refine gate_dst (N:=5) rfl ?_);refine box_event ?hg (N:=5) ?hd (cs:=#[.int .i64 a0_0,.slice A0_1 l0_1.length c0_1]) (t:=28) ?hr ?_;(case hd=>rfl);(case hg=>rfl);(case hr=>first|(go_simp;done)|(go_simp;rfl));intro gb1235 hg w21 hbox hb;have BK1235:=A_ (hbox);have GW1235:=A_ ((by rw [hg];exact (below_size bb_) : w.heap.size ≤ gb1235));have GE1235:=A_ ((by rw [hg];exact (below_size bb_) : w.heap.size ≤ gb1235));replace HB:=A_ (below_step bb_ hb);clear hb hbox hg;have hcz22_0 : w21.cell? ⟨gb1235,0,none⟩ = some (.int .i64 a0_0):=blk_cell BK1235.out 0;have hcz22_1 : w21.cell? ⟨gb1235,1,none⟩ = some (.slice A0_1 l0_1.length c0_1):=blk_cell BK1235.out 1;have hfz22_0:=blk_frozen BK1235.out 0;have hfz22_1:=blk_frozen BK1235.out 1;have p1236 : 0 ≤ (a1 : Int):=of_decide_eq_true (by first|(with_reducible assumption)|assumption);have q1236 : a1 < (l0_1.length : Int):=of_decide_eq_true (by first|(with_reducible assumption)|assumption);obtain ⟨ad1236,e1236,hx1236_0⟩:=Kd.at_int HR0_1.out a1 p1236 q1236;cases e1236;(try replace hx1236_0:=(HB.out.cell (World.block_lt_of_cell? w _ hx1236_0)).trans hx1236_0);replace p1236:=eq_true p1236;replace q1236:=eq_true q1236)|((with_reducible refine gate_callee (f:=192) rfl ?_);refine goesL_ (some 17) rfl rfl Tryd.func192 (by kernel_rfl) rfl #[.int .i64 (rd l0_1 a1),.int .i64 a2] rfl au_ ?_;(with_reducible refine (spec_orHas.calls (rd l0_1 a1) a2 true _ A8.out).mono ?_);rintro e w' ⟨rfl,⟨nd,rfl⟩⟩;refine ⟨_,rfl,?_⟩;have p1238 : 0 ≤ (a3 : Int):=of_decide_eq_true (by first|(with_reducible assumption)|assumption);have q1238 : a3 < (l0_1.length : Int):=of_decide_eq_true (by first|(with_reducible assumption)|assumption);obtain ⟨ad1238,e1238,hx1238_0⟩:=Kd.at_int HR0_1.out a3 p1238 q1238;obtain rfl : ad1236 = ad1238:=(by injection e1238);(try replace hx1238_0:=(HB.out.cell (World.block_lt_of_cell? w _ hx1238_0)).trans hx1238_0);replace p1238:=eq_true p1238;replace q1238:=eq_true q1238)|(go_at_call 192;(with_reducible refine (spec_orHas.calls (rd l0_1 a3) a4 false _ A12.out).mono ?_);rintro e w' ⟨rfl,⟨nd,rfl⟩⟩))
       go_ret
       exact ⟨by first|rfl|(simp [errW_none,errW_some] <;> rfl)|(simp [*,errW_none,errW_some] <;> rfl),bb_⟩
     ·rw [if_neg c11] at H;exact absurd H (by simp)
    ·rw [if_neg c10] at H;exact absurd H (by simp)
   ·replace c9:=Bool.eq_false_iff.mpr c9;subst c9;have H1 : (some false) = some r:=by rw [if_neg (show ¬ (false = true) by decide)] at H;exact H
    clear H;have H:=H1;clear H1;obtain rfl:=Option.some.inj H;go_enter Tryd.func208,Tryd.ntmps208
    go_wp2_with (first|((with_reducible refine gate_dst (N:=5) rfl ?_);refine box_event ?hg (N:=5) ?hd (cs:=#[.int .i64 a0_0,.slice A0_1 l0_1.length c0_1]) (t:=28) ?hr ?_;(case hd=>rfl);(case hg=>rfl);(case hr=>first|(go_simp;done)|(go_simp;rfl));intro gb1235 hg w23 hbox hb;have BK1235:=A_ (hbox);have GW1235:=A_ ((by rw [hg];exact (below_size bb_) : w.heap.size ≤ gb1235));have GE1235:=A_ ((by rw [hg];exact (below_size bb_) : w.heap.size ≤ gb1235));replace HB:=A_ (below_step bb_ hb);clear hb hbox hg;have hcz24_0 : w23.cell? ⟨gb1235,0,none⟩ = some (.int .i64 a0_0):=blk_cell BK1235.out 0;have hcz24_1 : w23.cell? ⟨gb1235,1,none⟩ = some (.slice A0_1 l0_1.length c0_1):=blk_cell BK1235.out 1;have hfz24_0:=blk_frozen BK1235.out 0;have hfz24_1:=blk_frozen BK1235.out 1;have p1236 : 0 ≤ (a1 : Int):=of_decide_eq_true (by first|(with_reducible assumption)|assumption);have q1236 : a1 < (l0_1.length : Int):=of_decide_eq_true (by first|(with_reducible assumption)|assumption);obtain ⟨ad1236,e1236,hx1236_0⟩:=Kd.at_int HR0_1.out a1 p1236 q1236;cases e1236;(try replace hx1236_0:=(HB.out.cell (World.block_lt_of_cell? w _ hx1236_0)).trans hx1236_0);replace p1236:=eq_true p1236;replace q1236:=eq_true q1236)|((with_reducible refine gate_callee (f:=192) rfl ?_);refine goesL_ (some 17) rfl rfl Tryd.func192 (by kernel_rfl) rfl #[.int .i64 (rd l0_1 a1),.int .i64 a2] rfl au_ ?_;(with_reducible refine (spec_orHas.calls (rd l0_1 a1) a2 false _ A8.out).mono ?_);rintro e w' ⟨rfl,⟨nd,rfl⟩⟩;refine ⟨_,rfl,?_⟩))
    go_ret
    exact ⟨by first|rfl|(simp [errW_none,errW_some] <;> rfl)|(simp [*,errW_none,errW_some] <;> rfl),bb_⟩
  ·rw [if_neg c7] at H;exact absurd H (by simp)
 ·rw [if_neg c6] at H;exact absurd H (by simp)
mutual
def spec_ivTwoTwo.l0 : Nat → Int → Int → List Int → Option (List Int × Bool)
 | 0,_,_,_=>none
 | k + 1,x4,x1245000,x1245001=>if x4 < x1245000 then (spec_ivTwoTwo.l1 k x4 0 x1245000 x1245001) else (some (([] : List Int),false))
def spec_ivTwoTwo.l1 : Nat → Int → Int → Int → List Int → Option (List Int × Bool)
 | 0,_,_,_,_=>none
 | k + 1,x4,x5,x1245000,x1245001=>if x5 < x1245000 then (spec_ivTwoTwo.l2 k x4 x5 0 x1245000 x1245001) else (spec_ivTwoTwo.l0 k (wrap64 (x4 + 1)) x1245000 x1245001)
def spec_ivTwoTwo.l2 : Nat → Int → Int → Int → Int → List Int → Option (List Int × Bool)
 | 0,_,_,_,_,_=>none
 | k + 1,x4,x5,x6,x1245000,x1245001=>if x6 < x1245000 then (spec_ivTwoTwo.l3 k x4 x5 x6 0 x1245000 x1245001) else (spec_ivTwoTwo.l1 k x4 (wrap64 (x5 + 1)) x1245000 x1245001)
def spec_ivTwoTwo.l3 : Nat → Int → Int → Int → Int → Int → List Int → Option (List Int × Bool)
 | 0,_,_,_,_,_,_=>none
 | k + 1,x4,x5,x6,x7,x1245000,x1245001=>if x7 < x1245000 then ((spec_ivRefuses.f x1245000 x1245001 x4 x5 x6 x7).bind fun t1245=>(if t1245 = true then (some ((([x4,x5,x6,x7] : List Int)),true)) else (spec_ivTwoTwo.l3 k x4 x5 x6 (wrap64 (x7 + 1)) x1245000 x1245001))) else (spec_ivTwoTwo.l2 k x4 x5 (wrap64 (x6 + 1)) x1245000 x1245001)
end
def spec_ivTwoTwo.f (k : Nat) (a0_0 : Int) (l0_1 : List Int) : Option (List Int × Bool) := spec_ivTwoTwo.l0 k 0 a0_0 l0_1
set_option maxHeartbeats 8000000 in
set_option maxRecDepth 100000 in
theorem spec_ivTwoTwo.calls (k : Nat) (a0_0 : Int) (A0_1 : Option Addr) (c0_1 : Nat) (l0_1 : List Int) (r1 : List Int) (r2 : Bool) (w : World) (hr0_1 : Kd.C (Kd.int .i64) w A0_1 l0_1.length l0_1) (hc0_1 : l0_1.length ≤ c0_1) (h : spec_ivTwoTwo.f k a0_0 l0_1 = some (r1,r2)) :
 Calls Tryd.prog 143 #[.agg #[.int .i64 a0_0,.slice A0_1 l0_1.length c0_1]] w fun e w'=>∃ v0_ : Value,e = .returned (.tuple #[v0_,.bool r2]) ∧ Kd.R (Kd.int .i64) 3 w' w.heap.size (fun _=>True) v0_ r1 ∧ Below w.heap.size w w':=by
 have hu28:=Tryd.underlying28;have HR0_1:=A_ hr0_1;have HC0_1:=A_ hc0_1;clear hr0_1 hc0_1;have HB:=A_ (Below.refl w.heap.size w);have H : (spec_ivTwoTwo.l0 k 0 a0_0 l0_1) = some (r1,r2):=h;clear h;have H':=A_ H;clear H;go_enter Tryd.func143,Tryd.ntmps143
 go_wp2_with (first|((with_reducible refine gate_dst (N:=1) rfl ?_);refine box_event ?hg (N:=1) ?hd (cs:=#[.int .i64 a0_0,.slice A0_1 l0_1.length c0_1]) (t:=28) ?hr ?_;(case hd=>rfl);(case hg=>rfl);(case hr=>first|(go_simp;done)|(go_simp;rfl));intro gb1244 hg w2 hbox hb;have BK1244:=A_ (hbox);have GW1244:=A_ ((by rw [hg];exact (below_size bb_) : w.heap.size ≤ gb1244));have GE1244:=A_ ((by rw [hg];exact (below_size bb_) : w.heap.size ≤ gb1244));replace HB:=A_ (below_step bb_ hb);clear hb hbox hg))
 go_loopg [4] k (fun kq v4 w'=>∃ (x4_1 : Int),v4 = .int .i64 x4_1 ∧ Aside0 (spec_ivTwoTwo.l0 kq x4_1 a0_0 l0_1 = some (r1,r2)) ∧ Aside0 (kq ≤ k) ∧ Aside0 (w'.heap[gb1244]? = some (.cells #[.int .i64 a0_0,(.slice A0_1 l0_1.length c0_1)] 28 (0,0))) ∧ Aside0 (Below w.heap.size w w'))
 case atStart=>exact ⟨(0),(by first|rfl|(simp;done)|(simp [*];done)),H',⟨Nat.le_refl _⟩,⟨bl_ BK1244⟩,⟨bb_⟩⟩
 case round =>
  clear H';try clear c1
  try clear p2
  obtain ⟨x4_1,rfl,HA,HK1,BK1244,HB⟩:=hrel;cases gk with
  | zero => exact absurd HA.out (by simp [spec_ivTwoTwo.l0])
  | succ k1 =>
   have H:=HA.out;clear HA;simp only [spec_ivTwoTwo.l0] at H
   by_cases c3 : x4_1 < a0_0
   ·rw [if_pos c3] at H;have c3b0 : decide (x4_1 < a0_0) = true:=decide_eq_true c3;clear c3;have H':=A_ H;clear H;have hcz4_0 : wr.cell? ⟨gb1244,0,none⟩ = some (.int .i64 a0_0):=blk_cell BK1244.out 0;have hcz4_1 : wr.cell? ⟨gb1244,1,none⟩ = some (.slice A0_1 l0_1.length c0_1):=blk_cell BK1244.out 1;have hfz4_0:=blk_frozen BK1244.out 0;have hfz4_1:=blk_frozen BK1244.out 1;go_wp2
    go_loopg [5] k1 (fun kq v5 w'=>∃ (x5_2 : Int),v5 = .int .i64 x5_2 ∧ Aside0 (spec_ivTwoTwo.l1 kq x4_1 x5_2 a0_0 l0_1 = some (r1,r2)) ∧ Aside0 (kq ≤ k1) ∧ Aside0 (w'.heap[gb1244]? = some (.cells #[.int .i64 a0_0,(.slice A0_1 l0_1.length c0_1)] 28 (0,0))) ∧ Aside0 (Below w.heap.size w w'))
    case atStart=>exact ⟨(0),(by first|rfl|(simp;done)|(simp [*];done)),H',⟨Nat.le_refl _⟩,⟨bl_ BK1244⟩,⟨bb_⟩⟩
    case round =>
     clear H';try clear c1
     try clear p2
     try clear c3
     try clear c3b0
     try clear hcz4_0
     try clear hcz4_1
     try clear hfz4_0
     try clear hfz4_1
     try clear p2
     obtain ⟨x5_2,rfl,HA,HK2,BK1244,HB⟩:=hrel;cases gk with
     | zero=>exact absurd HA.out (by simp [spec_ivTwoTwo.l1])
     | succ k2 =>
      have H:=HA.out;clear HA;simp only [spec_ivTwoTwo.l1] at H
      by_cases c5 : x5_2 < a0_0
      ·rw [if_pos c5] at H;have c5b0 : decide (x5_2 < a0_0) = true:=decide_eq_true c5;clear c5;have H':=A_ H;clear H;have hcz6_0 : wr.cell? ⟨gb1244,0,none⟩ = some (.int .i64 a0_0):=blk_cell BK1244.out 0;have hcz6_1 : wr.cell? ⟨gb1244,1,none⟩ = some (.slice A0_1 l0_1.length c0_1):=blk_cell BK1244.out 1;have hfz6_0:=blk_frozen BK1244.out 0;have hfz6_1:=blk_frozen BK1244.out 1;go_wp2
       go_loopg [6] k2 (fun kq v6 w'=>∃ (x6_3 : Int),v6 = .int .i64 x6_3 ∧ Aside0 (spec_ivTwoTwo.l2 kq x4_1 x5_2 x6_3 a0_0 l0_1 = some (r1,r2)) ∧ Aside0 (kq ≤ k2) ∧ Aside0 (w'.heap[gb1244]? = some (.cells #[.int .i64 a0_0,(.slice A0_1 l0_1.length c0_1)] 28 (0,0))) ∧ Aside0 (Below w.heap.size w w'))
       case atStart=>exact ⟨(0),(by first|rfl|(simp;done)|(simp [*];done)),H',⟨Nat.le_refl _⟩,⟨bl_ BK1244⟩,⟨bb_⟩⟩
       case round =>
        clear H';try clear c1
        try clear p2
        try clear c3
        try clear c3b0
        try clear c5
        try clear c5b0
        try clear hcz4_0
        try clear hcz4_1
        try clear hcz6_0
        try clear hcz6_1
        try clear hfz4_0
        try clear hfz4_1
        try clear hfz6_0
        try clear hfz6_1
        try clear p2
        obtain ⟨x6_3,rfl,HA,HK3,BK1244,HB⟩:=hrel;cases gk with
        | zero=>exact absurd HA.out (by simp [spec_ivTwoTwo.l2])
        | succ k3 =>
         have H:=HA.out;clear HA;simp only [spec_ivTwoTwo.l2] at H
         by_cases c7 : x6_3 < a0_0
         ·rw [if_pos c7] at H;have c7b0 : decide (x6_3 < a0_0) = true:=decide_eq_true c7;clear c7;have H':=A_ H;clear H;have hcz8_0 : wr.cell? ⟨gb1244,0,none⟩ = some (.int .i64 a0_0):=blk_cell BK1244.out 0;have hcz8_1 : wr.cell? ⟨gb1244,1,none⟩ = some (.slice A0_1 l0_1.length c0_1):=blk_cell BK1244.out 1;have hfz8_0:=blk_frozen BK1244.out 0;have hfz8_1:=blk_frozen BK1244.out 1;go_wp2
          go_loopg [7] k3 (fun kq v7 w'=>∃ (x7_4 : Int),v7 = .int .i64 x7_4 ∧ Aside0 (spec_ivTwoTwo.l3 kq x4_1 x5_2 x6_3 x7_4 a0_0 l0_1 = some (r1,r2)) ∧ Aside0 (kq ≤ k3) ∧ Aside0 (w'.heap[gb1244]? = some (.cells #[.int .i64 a0_0,(.slice A0_1 l0_1.length c0_1)] 28 (0,0))) ∧ Aside0 (Below w.heap.size w w'))
          case atStart=>exact ⟨(0),(by first|rfl|(simp;done)|(simp [*];done)),H',⟨Nat.le_refl _⟩,⟨bl_ BK1244⟩,⟨bb_⟩⟩
          case round =>
           clear H';try clear c1
           try clear p2
           try clear c3
           try clear c3b0
           try clear c5
           try clear c5b0
           try clear c7
           try clear c7b0
           try clear hcz4_0
           try clear hcz4_1
           try clear hcz6_0
           try clear hcz6_1
           try clear hcz8_0
           try clear hcz8_1
           try clear hfz4_0
           try clear hfz4_1
           try clear hfz6_0
           try clear hfz6_1
           try clear hfz8_0
           try clear hfz8_1
           try clear p2
           obtain ⟨x7_4,rfl,HA,HK4,BK1244,HB⟩:=hrel;cases gk with
           | zero=>exact absurd HA.out (by simp [spec_ivTwoTwo.l3])
           | succ k4 =>
            have H:=HA.out;clear HA;simp only [spec_ivTwoTwo.l3] at H
            by_cases c9 : x7_4 < a0_0
            ·rw [if_pos c9] at H;have c9b0 : decide (x7_4 < a0_0) = true:=decide_eq_true c9;clear c9;replace H:=Option.bind_eq_some_iff.mp H;obtain ⟨t1245,A100,H⟩:=H;replace H : (if t1245 = true then (some ((([x4_1,x5_2,x6_3,x7_4] : List Int)),true)) else (spec_ivTwoTwo.l3 k4 x4_1 x5_2 x6_3 (wrap64 (x7_4 + 1)) a0_0 l0_1)) = some (r1,r2):=H;have A10:=A_ A100;clear A100;by_cases c11 : t1245 = true
             ·subst c11;have H1 : (some ((([x4_1,x5_2,x6_3,x7_4] : List Int)),true)) = some (r1,r2):=by rw [if_pos rfl] at H;exact H
              clear H;have H:=H1;clear H1;obtain ⟨y1246,hy1246⟩ : ∃ y_ : List Int,y_ = (([x4_1,x5_2,x6_3,x7_4] : List Int)):=⟨_,rfl⟩;replace H : (some (y1246,true)) = some (r1,r2):=by first|(rw [hy1246];with_reducible exact H)|(have H2_:=(Option.bind_some _ _).symm.trans H;rw [hy1246];with_reducible exact H2_)|(have H2_:=(Option.bind_some _ _).symm.trans H;with_reducible exact H2_)|with_reducible exact H|(rw [hy1246];exact H)|exact H
              have Ny1246:=A_ hy1246;clear hy1246;simp only [Option.some.injEq,Prod.mk.injEq] at H
              obtain ⟨rfl,rfl⟩:=H;have hcz12_0 : wr.cell? ⟨gb1244,0,none⟩ = some (.int .i64 a0_0):=blk_cell BK1244.out 0;have hcz12_1 : wr.cell? ⟨gb1244,1,none⟩ = some (.slice A0_1 l0_1.length c0_1):=blk_cell BK1244.out 1;have hfz12_0:=blk_frozen BK1244.out 0;have hfz12_1:=blk_frozen BK1244.out 1;go_wp2_with (first|((with_reducible refine gate_callee (f:=208) rfl ?_);refine goesL_ (some 37) rfl rfl Tryd.func208 (by kernel_rfl) rfl #[.agg #[.int .i64 a0_0,.slice A0_1 l0_1.length c0_1],.int .i64 x4_1,.int .i64 x5_2,.int .i64 x6_3,.int .i64 x7_4] rfl au_ ?_;(with_reducible refine (spec_ivRefuses.calls a0_0 _ _ l0_1 x4_1 x5_2 x6_3 x7_4 true _ ?side1 ?side2 A10.out).mono ?_);(case side1=>exact cl_ (Kd.C_below HR0_1.out HB.out));(case side2=>exact HC0_1.out);rintro e w13 ⟨rfl,hb⟩;refine ⟨_,rfl,?_⟩;replace BK1244:=bz BK1244 hb;replace HB:=A_ (below_step bb_ hb);(try clear hb);(try clear hb2);(try clear hk);(try clear hi))|((with_reducible refine gate_dst (N:=42) rfl ?_);refine Kd.R_lit (Kd.int .i64) _ 3 ?hg (N:=42) ?hd (xs:=([x4_1,x5_2,x6_3,x7_4] : List Int)) (inner:=[.int .i64 x4_1,.int .i64 x5_2,.int .i64 x6_3,.int .i64 x7_4]) (ok:=fun _=>True) (okp:=fun _=>True) ?hr ?hp (fun _ hk=>hk) trivial (Below.refl _ _) (Nat.le_refl _) (by simp) ?_;(case hd=>rfl);(case hg=>rfl);(case hr=>first|(go_simp;done)|(go_simp;rfl));(case hp=>exact (Reps.one (show Kd.M (Kd.int .i64) _ _ _ x4_1 [.int .i64 x4_1] from rfl) (Reps.one (show Kd.M (Kd.int .i64) _ _ _ x5_2 [.int .i64 x5_2] from rfl) (Reps.one (show Kd.M (Kd.int .i64) _ _ _ x6_3 [.int .i64 x6_3] from rfl) (Reps.one (show Kd.M (Kd.int .i64) _ _ _ x7_4 [.int .i64 x7_4] from rfl) (Reps.none _ _))))));intro v1247 w14 ho15 hb hg_ hnew_;clear hg_ hnew_;(first|rw [← Ny1246.out] at ho15|(simp only [Int.reduceToNat] at ho15;rw [← Ny1246.out] at ho15));have HO1248:=A_ (Kd.R_lower ho15 (below_size bb_));replace BK1244:=bz BK1244 hb;replace HB:=A_ (below_step bb_ hb);clear hb ho15))
              go_ret2
              exact ⟨_,by first|rfl|(simp [errW_none,errW_some] <;> rfl)|(simp [*,errW_none,errW_some] <;> rfl),by (with_reducible repeat (first|apply Kd.R_alloc|apply Kd.R_drewN|apply Kd.R_drew));exact HO1248.out,bb_⟩
             ·replace c11:=Bool.eq_false_iff.mpr c11;subst c11;have H1 : (spec_ivTwoTwo.l3 k4 x4_1 x5_2 x6_3 (wrap64 (x7_4 + 1)) a0_0 l0_1) = some (r1,r2):=by rw [if_neg (show ¬ (false = true) by decide)] at H;exact H
              clear H;have H:=H1;clear H1;have H':=A_ H;clear H;have hcz16_0 : wr.cell? ⟨gb1244,0,none⟩ = some (.int .i64 a0_0):=blk_cell BK1244.out 0;have hcz16_1 : wr.cell? ⟨gb1244,1,none⟩ = some (.slice A0_1 l0_1.length c0_1):=blk_cell BK1244.out 1;have hfz16_0:=blk_frozen BK1244.out 0;have hfz16_1:=blk_frozen BK1244.out 1;go_wp2_with (first|((with_reducible refine gate_callee (f:=208) rfl ?_);refine goesL_ (some 37) rfl rfl Tryd.func208 (by kernel_rfl) rfl #[.agg #[.int .i64 a0_0,.slice A0_1 l0_1.length c0_1],.int .i64 x4_1,.int .i64 x5_2,.int .i64 x6_3,.int .i64 x7_4] rfl au_ ?_;(with_reducible refine (spec_ivRefuses.calls a0_0 _ _ l0_1 x4_1 x5_2 x6_3 x7_4 false _ ?side1 ?side2 A10.out).mono ?_);(case side1=>exact cl_ (Kd.C_below HR0_1.out HB.out));(case side2=>exact HC0_1.out);rintro e w17 ⟨rfl,hb⟩;refine ⟨_,rfl,?_⟩;replace BK1244:=bz BK1244 hb;replace HB:=A_ (below_step bb_ hb);(try clear hb);(try clear hb2);(try clear hk);(try clear hi)))
              go_roundg k4
              case measure=>have:=HK1.out;have:=HK2.out;have:=HK3.out;have:=HK4.out;omega
              case rel=>exact ⟨(wrap64 (x7_4 + 1)),(by first|rfl|(simp;done)|(simp [*];done)),H',⟨by have:=HK1.out;have:=HK2.out;have:=HK3.out;have:=HK4.out;omega⟩,⟨bl_ BK1244⟩,⟨bb_⟩⟩
            ·rw [if_neg c9] at H;have c9b0 : decide (x7_4 < a0_0) = false:=decide_eq_false c9;clear c9;have H':=A_ H;clear H;have hcz18_0 : wr.cell? ⟨gb1244,0,none⟩ = some (.int .i64 a0_0):=blk_cell BK1244.out 0;have hcz18_1 : wr.cell? ⟨gb1244,1,none⟩ = some (.slice A0_1 l0_1.length c0_1):=blk_cell BK1244.out 1;have hfz18_0:=blk_frozen BK1244.out 0;have hfz18_1:=blk_frozen BK1244.out 1;go_wp2
             go_roundg k4
             case measure=>have:=HK1.out;have:=HK2.out;have:=HK3.out;have:=HK4.out;omega
             case rel=>exact ⟨(wrap64 (x6_3 + 1)),(by first|rfl|(simp;done)|(simp [*];done)),H',⟨by have:=HK1.out;have:=HK2.out;have:=HK3.out;have:=HK4.out;omega⟩,⟨bl_ BK1244⟩,⟨bb_⟩⟩
         ·rw [if_neg c7] at H;have c7b0 : decide (x6_3 < a0_0) = false:=decide_eq_false c7;clear c7;have H':=A_ H;clear H;have hcz19_0 : wr.cell? ⟨gb1244,0,none⟩ = some (.int .i64 a0_0):=blk_cell BK1244.out 0;have hcz19_1 : wr.cell? ⟨gb1244,1,none⟩ = some (.slice A0_1 l0_1.length c0_1):=blk_cell BK1244.out 1;have hfz19_0:=blk_frozen BK1244.out 0;have hfz19_1:=blk_frozen BK1244.out 1;go_wp2
          go_roundg k3
          case measure=>have:=HK1.out;have:=HK2.out;have:=HK3.out;omega
          case rel=>exact ⟨(wrap64 (x5_2 + 1)),(by first|rfl|(simp;done)|(simp [*];done)),H',⟨by have:=HK1.out;have:=HK2.out;have:=HK3.out;omega⟩,⟨bl_ BK1244⟩,⟨bb_⟩⟩
      ·rw [if_neg c5] at H;have c5b0 : decide (x5_2 < a0_0) = false:=decide_eq_false c5;clear c5;have H':=A_ H;clear H;have hcz20_0 : wr.cell? ⟨gb1244,0,none⟩ = some (.int .i64 a0_0):=blk_cell BK1244.out 0;have hcz20_1 : wr.cell? ⟨gb1244,1,none⟩ = some (.slice A0_1 l0_1.length c0_1):=blk_cell BK1244.out 1;have hfz20_0:=blk_frozen BK1244.out 0;have hfz20_1:=blk_frozen BK1244.out 1;go_wp2
       go_roundg k2
       case measure=>have:=HK1.out;have:=HK2.out;omega
       case rel=>exact ⟨(wrap64 (x4_1 + 1)),(by first|rfl|(simp;done)|(simp [*];done)),H',⟨by have:=HK1.out;have:=HK2.out;omega⟩,⟨bl_ BK1244⟩,⟨bb_⟩⟩
   ·rw [if_neg c3] at H;have c3b0 : decide (x4_1 < a0_0) = false:=decide_eq_false c3;clear c3;simp only [Option.some.injEq,Prod.mk.injEq] at H
    obtain ⟨rfl,rfl⟩:=H;have hcz21_0 : wr.cell? ⟨gb1244,0,none⟩ = some (.int .i64 a0_0):=blk_cell BK1244.out 0;have hcz21_1 : wr.cell? ⟨gb1244,1,none⟩ = some (.slice A0_1 l0_1.length c0_1):=blk_cell BK1244.out 1;have hfz21_0:=blk_frozen BK1244.out 0;have hfz21_1:=blk_frozen BK1244.out 1;go_wp2
    go_ret2
    exact ⟨_,by first|rfl|(simp [errW_none,errW_some] <;> rfl)|(simp [*,errW_none,errW_some] <;> rfl),by first|exact Kd.R_nil _ _ _ _ _|exact Kd.N_nil _ _ _ _ _|exact Kd.V_nil _ _ _ _ _|exact Kd.Q_nil _ _ _ _ _|exact Kd.S_nil _ _ _ _ _,bb_⟩
def spec_ivIs.f (k : Nat) (a0_0 : Int) (l0_1 : List Int) : Option (Bool) := (spec_ivTwoTwo.f k a0_0 l0_1).bind fun bt1250 => (some (!bt1250.2))
set_option maxHeartbeats 8000000 in
set_option maxRecDepth 100000 in
theorem spec_ivIs.calls (k : Nat) (a0_0 : Int) (A0_1 : Option Addr) (c0_1 : Nat) (l0_1 : List Int) (r : Bool) (w : World) (hr0_1 : Kd.C (Kd.int .i64) w A0_1 l0_1.length l0_1) (hc0_1 : l0_1.length ≤ c0_1) (h : spec_ivIs.f k a0_0 l0_1 = some r) :
 Calls Tryd.prog 204 #[.agg #[.int .i64 a0_0,.slice A0_1 l0_1.length c0_1]] w fun e w'=>e = .returned (.bool r) ∧ Below w.heap.size w w':=by
 have hu28:=Tryd.underlying28;have HR0_1:=A_ hr0_1;have HC0_1:=A_ hc0_1;clear hr0_1 hc0_1;have HB:=A_ (Below.refl w.heap.size w);have H : ((spec_ivTwoTwo.f k a0_0 l0_1).bind fun bt1250=>(some (!bt1250.2))) = some r:=h;clear h;replace H:=Option.bind_eq_some_iff.mp H;obtain ⟨⟨t1250,t1253⟩,A20,H⟩:=H;replace H : (some (!t1253)) = some r:=H;have A2:=A_ A20;clear A20;obtain rfl:=Option.some.inj H;go_enter Tryd.func204,Tryd.ntmps204
 go_wp2_with (first|((with_reducible refine gate_dst (N:=1) rfl ?_);refine box_event ?hg (N:=1) ?hd (cs:=#[.int .i64 a0_0,.slice A0_1 l0_1.length c0_1]) (t:=28) ?hr ?_;(case hd=>rfl);(case hg=>rfl);(case hr=>first|(go_simp;done)|(go_simp;rfl));intro gb1249 hg w3 hbox hb;have BK1249:=A_ (hbox);have GW1249:=A_ ((by rw [hg];exact (below_size bb_) : w.heap.size ≤ gb1249));have GE1249:=A_ ((by rw [hg];exact (below_size bb_) : w.heap.size ≤ gb1249));replace HB:=A_ (below_step bb_ hb);clear hb hbox hg;have hcz4_0 : w3.cell? ⟨gb1249,0,none⟩ = some (.int .i64 a0_0):=blk_cell BK1249.out 0;have hcz4_1 : w3.cell? ⟨gb1249,1,none⟩ = some (.slice A0_1 l0_1.length c0_1):=blk_cell BK1249.out 1;have hfz4_0:=blk_frozen BK1249.out 0;have hfz4_1:=blk_frozen BK1249.out 1)|((with_reducible refine gate_callee (f:=143) rfl ?_);refine goesL_ (some 7) rfl rfl Tryd.func143 (by kernel_rfl) rfl #[.agg #[.int .i64 a0_0,.slice A0_1 l0_1.length c0_1]] rfl au_ ?_;(with_reducible refine (spec_ivTwoTwo.calls k a0_0 _ _ l0_1 t1250 t1253 _ ?side1 ?side2 A2.out).mono ?_);(case side1=>exact cl_ (Kd.C_below HR0_1.out HB.out));(case side2=>exact HC0_1.out);rintro e w5 ⟨v1251,rfl,ho0,hb⟩;refine ⟨_,rfl,?_⟩;have HO1252:=A_ (Kd.R_lower ho0 (below_size bb_));replace BK1249:=bz BK1249 hb;replace HB:=A_ (below_step bb_ hb);(try clear hb);(try clear hb2);(try clear hk);(try clear hi);(try clear ho0)))
 go_ret
 exact ⟨by first|rfl|(simp [errW_none,errW_some] <;> rfl)|(simp [*,errW_none,errW_some] <;> rfl),bb_⟩
def spec_ivGoodOrder.f (k : Nat) (a0_0 : Int) (l0_1 : List Int) : Option (Bool) := (spec_orGood.f k a0_0 l0_1).bind fun t1255 => (if t1255 = true then ((spec_ivIs.f k a0_0 l0_1).bind fun t1256 => (some t1256)) else (some false))
set_option maxHeartbeats 8000000 in
set_option maxRecDepth 100000 in
theorem spec_ivGoodOrder.calls (k : Nat) (a0_0 : Int) (A0_1 : Option Addr) (c0_1 : Nat) (l0_1 : List Int) (r : Bool) (w : World) (hr0_1 : Kd.C (Kd.int .i64) w A0_1 l0_1.length l0_1) (hc0_1 : l0_1.length ≤ c0_1) (h : spec_ivGoodOrder.f k a0_0 l0_1 = some r) :
 Calls Tryd.prog 136 #[.agg #[.int .i64 a0_0,.slice A0_1 l0_1.length c0_1]] w fun e w'=>e = .returned (.bool r) ∧ Below w.heap.size w w':=by
 have hu28:=Tryd.underlying28;have HR0_1:=A_ hr0_1;have HC0_1:=A_ hc0_1;clear hr0_1 hc0_1;have HB:=A_ (Below.refl w.heap.size w);have H : ((spec_orGood.f k a0_0 l0_1).bind fun t1255=>(if t1255 = true then ((spec_ivIs.f k a0_0 l0_1).bind fun t1256=>(some t1256)) else (some false))) = some r:=h;clear h;replace H:=Option.bind_eq_some_iff.mp H;obtain ⟨t1255,A20,H⟩:=H;replace H : (if t1255 = true then ((spec_ivIs.f k a0_0 l0_1).bind fun t1256=>(some t1256)) else (some false)) = some r:=H;have A2:=A_ A20;clear A20;by_cases c3 : t1255 = true
 ·subst c3;have H1 : ((spec_ivIs.f k a0_0 l0_1).bind fun t1256=>(some t1256)) = some r:=by rw [if_pos rfl] at H;exact H
  clear H;have H:=H1;clear H1;replace H:=Option.bind_eq_some_iff.mp H;obtain ⟨t1256,A40,H⟩:=H;replace H : (some t1256) = some r:=H;have A4:=A_ A40;clear A40;obtain rfl:=Option.some.inj H;go_enter Tryd.func136,Tryd.ntmps136
  go_wp2_with (first|((with_reducible refine gate_dst (N:=1) rfl ?_);refine box_event ?hg (N:=1) ?hd (cs:=#[.int .i64 a0_0,.slice A0_1 l0_1.length c0_1]) (t:=28) ?hr ?_;(case hd=>rfl);(case hg=>rfl);(case hr=>first|(go_simp;done)|(go_simp;rfl));intro gb1254 hg w5 hbox hb;have BK1254:=A_ (hbox);have GW1254:=A_ ((by rw [hg];exact (below_size bb_) : w.heap.size ≤ gb1254));have GE1254:=A_ ((by rw [hg];exact (below_size bb_) : w.heap.size ≤ gb1254));replace HB:=A_ (below_step bb_ hb);clear hb hbox hg;have hcz6_0 : w5.cell? ⟨gb1254,0,none⟩ = some (.int .i64 a0_0):=blk_cell BK1254.out 0;have hcz6_1 : w5.cell? ⟨gb1254,1,none⟩ = some (.slice A0_1 l0_1.length c0_1):=blk_cell BK1254.out 1;have hfz6_0:=blk_frozen BK1254.out 0;have hfz6_1:=blk_frozen BK1254.out 1)|((with_reducible refine gate_callee (f:=142) rfl ?_);refine goesL_ (some 4) rfl rfl Tryd.func142 (by kernel_rfl) rfl #[.agg #[.int .i64 a0_0,.slice A0_1 l0_1.length c0_1]] rfl au_ ?_;(with_reducible refine (spec_orGood.calls k a0_0 _ _ l0_1 true _ ?side1 ?side2 A2.out).mono ?_);(case side1=>exact cl_ (Kd.C_below HR0_1.out HB.out));(case side2=>exact HC0_1.out);rintro e w7 ⟨rfl,hb⟩;refine ⟨_,rfl,?_⟩;replace BK1254:=bz BK1254 hb;replace HB:=A_ (below_step bb_ hb);(try clear hb);(try clear hb2);(try clear hk);(try clear hi);have hcz8_0 : w7.cell? ⟨gb1254,0,none⟩ = some (.int .i64 a0_0):=blk_cell BK1254.out 0;have hcz8_1 : w7.cell? ⟨gb1254,1,none⟩ = some (.slice A0_1 l0_1.length c0_1):=blk_cell BK1254.out 1;have hfz8_0:=blk_frozen BK1254.out 0;have hfz8_1:=blk_frozen BK1254.out 1)|(go_at_call 204;(with_reducible refine (spec_ivIs.calls k a0_0 _ _ l0_1 t1256 _ ?side1 ?side2 A4.out).mono ?_);(case side1=>exact cl_ (Kd.C_below HR0_1.out HB.out));(case side2=>exact HC0_1.out);rintro e w9 ⟨rfl,hb⟩;replace BK1254:=bz BK1254 hb;replace HB:=A_ (below_step bb_ hb);(try clear hb);(try clear hb2);(try clear hk);(try clear hi)))
  go_ret
  exact ⟨by first|rfl|(simp [errW_none,errW_some] <;> rfl)|(simp [*,errW_none,errW_some] <;> rfl),bb_⟩
 ·replace c3:=Bool.eq_false_iff.mpr c3;subst c3;have H1 : (some false) = some r:=by rw [if_neg (show ¬ (false = true) by decide)] at H;exact H
  clear H;have H:=H1;clear H1;obtain rfl:=Option.some.inj H;go_enter Tryd.func136,Tryd.ntmps136
  go_wp2_with (first|((with_reducible refine gate_dst (N:=1) rfl ?_);refine box_event ?hg (N:=1) ?hd (cs:=#[.int .i64 a0_0,.slice A0_1 l0_1.length c0_1]) (t:=28) ?hr ?_;(case hd=>rfl);(case hg=>rfl);(case hr=>first|(go_simp;done)|(go_simp;rfl));intro gb1254 hg w10 hbox hb;have BK1254:=A_ (hbox);have GW1254:=A_ ((by rw [hg];exact (below_size bb_) : w.heap.size ≤ gb1254));have GE1254:=A_ ((by rw [hg];exact (below_size bb_) : w.heap.size ≤ gb1254));replace HB:=A_ (below_step bb_ hb);clear hb hbox hg;have hcz11_0 : w10.cell? ⟨gb1254,0,none⟩ = some (.int .i64 a0_0):=blk_cell BK1254.out 0;have hcz11_1 : w10.cell? ⟨gb1254,1,none⟩ = some (.slice A0_1 l0_1.length c0_1):=blk_cell BK1254.out 1;have hfz11_0:=blk_frozen BK1254.out 0;have hfz11_1:=blk_frozen BK1254.out 1)|((with_reducible refine gate_callee (f:=142) rfl ?_);refine goesL_ (some 4) rfl rfl Tryd.func142 (by kernel_rfl) rfl #[.agg #[.int .i64 a0_0,.slice A0_1 l0_1.length c0_1]] rfl au_ ?_;(with_reducible refine (spec_orGood.calls k a0_0 _ _ l0_1 false _ ?side1 ?side2 A2.out).mono ?_);(case side1=>exact cl_ (Kd.C_below HR0_1.out HB.out));(case side2=>exact HC0_1.out);rintro e w12 ⟨rfl,hb⟩;refine ⟨_,rfl,?_⟩;replace BK1254:=bz BK1254 hb;replace HB:=A_ (below_step bb_ hb);(try clear hb);(try clear hb2);(try clear hk);(try clear hi)))
  go_ret
  exact ⟨by first|rfl|(simp [errW_none,errW_some] <;> rfl)|(simp [*,errW_none,errW_some] <;> rfl),bb_⟩
def spec_l1Most.f (a0 : Int) (a1 : Int) : Option (Int) := if a0 > a1 then (some a0) else (some a1)
set_option maxHeartbeats 8000000 in
set_option maxRecDepth 100000 in
theorem spec_l1Most.calls (a0 : Int) (a1 : Int) (r : Int) (w : World) (h : spec_l1Most.f a0 a1 = some r) :
 Calls Tryd.prog 149 #[.int .i64 a0,.int .i64 a1] w fun e w'=>e = .returned (.int .i64 r) ∧ Drawn0 w w':=by
 have H : (if a0 > a1 then (some a0) else (some a1)) = some r:=h;clear h;by_cases c3 : a0 > a1
 ·rw [if_pos c3] at H;have c3b0 : decide (a1 < a0) = true:=decide_eq_true c3;clear c3;obtain rfl:=Option.some.inj H;go_enter Tryd.func149,Tryd.ntmps149
  go_wp2
  go_ret
  exact ⟨by first|rfl|(simp;done)|(simp [*];done),by repeat (first|exact Drawn0.refl _|apply Drawn0.step)⟩
 ·rw [if_neg c3] at H;have c3b0 : decide (a1 < a0) = false:=decide_eq_false c3;clear c3;obtain rfl:=Option.some.inj H;go_enter Tryd.func149,Tryd.ntmps149
  go_wp2
  go_ret
  exact ⟨by first|rfl|(simp;done)|(simp [*];done),by repeat (first|exact Drawn0.refl _|apply Drawn0.step)⟩
def spec_orBelow.l0 : Nat → Int → Int → List Int → Int → Int → Option (Int)
 | 0,_,_,_,_,_=>none
 | k + 1,x1,x5,x9,x10,x11=>if x11 < x10 then (if 0 ≤ x11 then (if x11 < (x9.length : Int) then ((spec_orHas.f (rd x9 x11) x1).bind fun t123=>(if t123 = true then (spec_orBelow.l0 k x1 (Go.bits .or .i64 x5 (shl .i64 1 x11)) x9 x10 (wrap64 (x11 + 1))) else (spec_orBelow.l0 k x1 x5 x9 x10 (wrap64 (x11 + 1))))) else (none)) else (none)) else (some x5)
def spec_orBelow.f (k : Nat) (a0_0 : Int) (l0_1 : List Int) (a1 : Int) : Option (Int) := spec_orBelow.l0 k a1 0 l0_1 (l0_1.length : Int) 0
set_option maxHeartbeats 8000000 in
set_option maxRecDepth 100000 in
theorem spec_orBelow.calls (k : Nat) (a0_0 : Int) (A0_1 : Option Addr) (c0_1 : Nat) (l0_1 : List Int) (a1 : Int) (r : Int) (w : World) (hr0_1 : Kd.C (Kd.int .i64) w A0_1 l0_1.length l0_1) (hc0_1 : l0_1.length ≤ c0_1) (h : spec_orBelow.f k a0_0 l0_1 a1 = some r) :
 Calls Tryd.prog 111 #[.agg #[.int .i64 a0_0,.slice A0_1 l0_1.length c0_1],.int .i64 a1] w fun e w'=>e = .returned (.int .i64 r) ∧ Below w.heap.size w w':=by
 have hu28:=Tryd.underlying28;have HR0_1:=A_ hr0_1;have HC0_1:=A_ hc0_1;clear hr0_1 hc0_1;have HB:=A_ (Below.refl w.heap.size w);have H : (spec_orBelow.l0 k a1 0 l0_1 (l0_1.length : Int) 0) = some r:=h;clear h;have H':=A_ H;clear H;go_enter Tryd.func111,Tryd.ntmps111
 go_wp2_with (first|((with_reducible refine gate_dst (N:=2) rfl ?_);refine box_event ?hg (N:=2) ?hd (cs:=#[.int .i64 a0_0,.slice A0_1 l0_1.length c0_1]) (t:=28) ?hr ?_;(case hd=>rfl);(case hg=>rfl);(case hr=>first|(go_simp;done)|(go_simp;rfl));intro gb121 hg w3 hbox hb;have BK121:=A_ (hbox);have GW121:=A_ ((by rw [hg];exact (below_size bb_) : w.heap.size ≤ gb121));have GE121:=A_ ((by rw [hg];exact (below_size bb_) : w.heap.size ≤ gb121));replace HB:=A_ (below_step bb_ hb);clear hb hbox hg;have hcz4_0 : w3.cell? ⟨gb121,0,none⟩ = some (.int .i64 a0_0):=blk_cell BK121.out 0;have hcz4_1 : w3.cell? ⟨gb121,1,none⟩ = some (.slice A0_1 l0_1.length c0_1):=blk_cell BK121.out 1;have hfz4_0:=blk_frozen BK121.out 0;have hfz4_1:=blk_frozen BK121.out 1))
 go_loopg [5,11] k (fun kq v5 v11 w'=>∃ (x5_1 : Int) (x11_1 : Int),v5 = .int .i64 x5_1 ∧ v11 = .int .i64 x11_1 ∧ Aside0 (spec_orBelow.l0 kq a1 x5_1 l0_1 (l0_1.length : Int) x11_1 = some r) ∧ Aside0 (kq ≤ k) ∧ Aside0 (w'.heap[gb121]? = some (.cells #[.int .i64 a0_0,(.slice A0_1 l0_1.length c0_1)] 28 (0,0))) ∧ Aside0 (Below w.heap.size w w'))
 case atStart=>exact ⟨(0),(0),(by first|rfl|(simp;done)|(simp [*];done)),(by first|rfl|(simp;done)|(simp [*];done)),H',⟨Nat.le_refl _⟩,⟨bl_ BK121⟩,⟨bb_⟩⟩
 case round =>
  clear H';try clear c1
  try clear p2
  try clear hcz4_0
  try clear hcz4_1
  try clear hfz4_0
  try clear hfz4_1
  obtain ⟨x5_1,x11_1,rfl,rfl,HA,HK1,BK121,HB⟩:=hrel;cases gk with
  | zero => exact absurd HA.out (by simp [spec_orBelow.l0])
  | succ k1 =>
   have H:=HA.out;clear HA;simp only [spec_orBelow.l0] at H
   by_cases c5 : x11_1 < (l0_1.length : Int)
   ·rw [if_pos c5] at H;have c5b0 : decide (x11_1 < (l0_1.length : Int)) = true:=decide_eq_true c5;clear c5;by_cases c6 : 0 ≤ x11_1
    ·rw [if_pos c6] at H;have c6b0 : decide (0 ≤ x11_1) = true:=decide_eq_true c6;clear c6;by_cases c7 : x11_1 < (l0_1.length : Int)
     ·rw [if_pos c7] at H;have c7b0 : decide (x11_1 < (l0_1.length : Int)) = true:=decide_eq_true c7;clear c7;replace H:=Option.bind_eq_some_iff.mp H;obtain ⟨t123,A80,H⟩:=H;replace H : (if t123 = true then (spec_orBelow.l0 k1 a1 (Go.bits .or .i64 x5_1 (shl .i64 1 x11_1)) l0_1 (l0_1.length : Int) (wrap64 (x11_1 + 1))) else (spec_orBelow.l0 k1 a1 x5_1 l0_1 (l0_1.length : Int) (wrap64 (x11_1 + 1)))) = some r:=H;have A8:=A_ A80;clear A80;by_cases c9 : t123 = true
      ·subst c9;have H1 : (spec_orBelow.l0 k1 a1 (Go.bits .or .i64 x5_1 (shl .i64 1 x11_1)) l0_1 (l0_1.length : Int) (wrap64 (x11_1 + 1))) = some r:=by rw [if_pos rfl] at H;exact H
       clear H;have H:=H1;clear H1;have c10b0:=eq_true (of_decide_eq_true (by first|(with_reducible assumption)|assumption) : 0 ≤ x11_1);obtain ⟨ji11,hji11⟩ : ∃ j_ : Int,(shl .i64 1 x11_1) = j_:=⟨_,rfl⟩;replace H : (spec_orBelow.l0 k1 a1 (Go.bits .or .i64 x5_1 (ji11)) l0_1 (l0_1.length : Int) (wrap64 (x11_1 + 1))) = some r:=by first|(rw [hji11] at H;exact H)|(simp only [hji11] at H ⊢;exact H)
       (try rw [hji11] at A8);have hji11_ : (IntKind.i64.wrap (1 * 2 ^ min x11_1.toNat 64)) = ji11:=hji11;have hji11z : x11_1 ≤ 64 → (IntKind.i64.wrap (1 * 2 ^ x11_1.toNat)) = ji11:=shl_small hji11;have hji11u : (IntKind.i64.wrap (2 ^ min x11_1.toNat 64)) = ji11:=by have h_:=hji11_;rw [Int.one_mul] at h_;exact h_
       have hji11v : x11_1 ≤ 64 → (IntKind.i64.wrap (2 ^ x11_1.toNat)) = ji11:=fun hle_=>by have h_:=hji11z hle_;rw [Int.one_mul] at h_;exact h_
       have hji11y : (wrap64 (1 * 2 ^ min x11_1.toNat 64)) = ji11:=(i64_w _).symm.trans hji11_;have hji11x : x11_1 ≤ 64 → (wrap64 (1 * 2 ^ x11_1.toNat)) = ji11:=fun h_=>(i64_w _).symm.trans (hji11z h_)
       have H':=A_ H;clear H;have p122 : 0 ≤ (x11_1 : Int):=of_decide_eq_true (by first|(with_reducible assumption)|assumption);have q122 : x11_1 < (l0_1.length : Int):=of_decide_eq_true (by first|(with_reducible assumption)|assumption);obtain ⟨ad122,e122,hx122_0⟩:=Kd.at_int HR0_1.out x11_1 p122 q122;cases e122
       (try replace hx122_0:=(HB.out.cell (World.block_lt_of_cell? w _ hx122_0)).trans hx122_0);replace p122:=eq_true p122;replace q122:=eq_true q122;go_wp2_with (first|((with_reducible refine gate_callee (f:=192) rfl ?_);refine goesL_ (some 18) rfl rfl Tryd.func192 (by kernel_rfl) rfl #[.int .i64 (rd l0_1 x11_1),.int .i64 a1] rfl au_ ?_;(with_reducible refine (spec_orHas.calls (rd l0_1 x11_1) a1 true _ A8.out).mono ?_);rintro e w' ⟨rfl,⟨nd,rfl⟩⟩;refine ⟨_,rfl,?_⟩))
       go_roundg k1
       case measure=>have:=HK1.out;omega
       case rel=>exact ⟨(Go.bits .or .i64 x5_1 (ji11)),(wrap64 (x11_1 + 1)),(by first|rfl|(simp;done)|(simp only [← hji11] <;> (first|rfl|simp))|(simp [*];done)),(by first|rfl|(simp;done)|(simp [*];done)),H',⟨by have:=HK1.out;omega⟩,⟨bl_ BK121⟩,⟨bb_⟩⟩
      ·replace c9:=Bool.eq_false_iff.mpr c9;subst c9;have H1 : (spec_orBelow.l0 k1 a1 x5_1 l0_1 (l0_1.length : Int) (wrap64 (x11_1 + 1))) = some r:=by rw [if_neg (show ¬ (false = true) by decide)] at H;exact H
       clear H;have H:=H1;clear H1;have H':=A_ H;clear H;have p122 : 0 ≤ (x11_1 : Int):=of_decide_eq_true (by first|(with_reducible assumption)|assumption);have q122 : x11_1 < (l0_1.length : Int):=of_decide_eq_true (by first|(with_reducible assumption)|assumption);obtain ⟨ad122,e122,hx122_0⟩:=Kd.at_int HR0_1.out x11_1 p122 q122;cases e122
       (try replace hx122_0:=(HB.out.cell (World.block_lt_of_cell? w _ hx122_0)).trans hx122_0);replace p122:=eq_true p122;replace q122:=eq_true q122;go_wp2_with (first|((with_reducible refine gate_callee (f:=192) rfl ?_);refine goesL_ (some 18) rfl rfl Tryd.func192 (by kernel_rfl) rfl #[.int .i64 (rd l0_1 x11_1),.int .i64 a1] rfl au_ ?_;(with_reducible refine (spec_orHas.calls (rd l0_1 x11_1) a1 false _ A8.out).mono ?_);rintro e w' ⟨rfl,⟨nd,rfl⟩⟩;refine ⟨_,rfl,?_⟩))
       go_roundg k1
       case measure=>have:=HK1.out;omega
       case rel=>exact ⟨(x5_1),(wrap64 (x11_1 + 1)),(by first|rfl|(simp;done)|(simp [*];done)),(by first|rfl|(simp;done)|(simp [*];done)),H',⟨by have:=HK1.out;omega⟩,⟨bl_ BK121⟩,⟨bb_⟩⟩
     ·rw [if_neg c7] at H;exact absurd H (by simp)
    ·rw [if_neg c6] at H;exact absurd H (by simp)
   ·rw [if_neg c5] at H;have c5b0 : decide (x11_1 < (l0_1.length : Int)) = false:=decide_eq_false c5;clear c5;obtain rfl:=Option.some.inj H;go_wp2
    go_ret
    exact ⟨by first|rfl|(simp [errW_none,errW_some] <;> rfl)|(simp [*,errW_none,errW_some] <;> rfl),bb_⟩
def spec_l1Put.l0 : Nat → List Int → Int → Int → Option (List Int)
 | 0,_,_,_=>none
 | k + 1,x0,x1,x5=>if x5 < (x0.length : Int) then (if 0 ≤ x5 then (if (rd x0 x5) < x1 then (spec_l1Put.l0 k x0 x1 (wrap64 (x5 + 1))) else (if (rd x0 x5) = x1 then (some x0) else ((some (([] : List Int) : List Int)).bind fun y539=>(if x5 ≤ (x0.length : Int) then ((some (x0.take (x5 : Int).toNat : List Int)).bind fun y542=>(if y539.length + y542.length < 17592186044416 then ((some (y539 ++ y542 : List Int)).bind fun y546=>(if y546.length < 17592186044416 then ((some (y546 ++ [x1] : List Int)).bind fun y549=>((some (x0.drop (x5 : Int).toNat : List Int)).bind fun y552=>(if y549.length + y552.length < 17592186044416 then (some (y549 ++ y552)) else (none)))) else (none))) else (none))) else (none))))) else (none)) else ((some (([] : List Int) : List Int)).bind fun y559=>(if 0 ≤ x5 then (if x5 ≤ (x0.length : Int) then ((some (x0.take (x5 : Int).toNat : List Int)).bind fun y562=>(if y559.length + y562.length < 17592186044416 then ((some (y559 ++ y562 : List Int)).bind fun y566=>(if y566.length < 17592186044416 then ((some (y566 ++ [x1] : List Int)).bind fun y569=>((some (x0.drop (x5 : Int).toNat : List Int)).bind fun y572=>(if y569.length + y572.length < 17592186044416 then (some (y569 ++ y572)) else (none)))) else (none))) else (none))) else (none)) else (none)))
def spec_l1Put.f (k : Nat) (l0 : List Int) (a1 : Int) : Option (List Int) := spec_l1Put.l0 k l0 a1 0
set_option maxHeartbeats 8000000 in
set_option maxRecDepth 100000 in
theorem spec_l1Put.calls (k : Nat) (P0_ : Nat → Prop) (u9000_ : Value) (l0 : List Int) (a1 : Int) (r : List Int) (w0 w : World) (hB : Below w0.heap.size w0 w) (ho0 : Kd.R (Kd.int .i64) 3 w w0.heap.size P0_ u9000_ l0) (h : spec_l1Put.f k l0 a1 = some r) :
 Calls Tryd.prog 193 #[u9000_,.int .i64 a1] w fun e w'=>∃ v0_ : Value,e = .returned (v0_) ∧ Kd.R (Kd.int .i64) 3 w' w0.heap.size (fun k_=>(P0_ k_ ∨ w.heap.size ≤ k_)) v0_ r ∧ Below w0.heap.size w0 w' ∧ Kept w w' (fun k_=>P0_ k_):=by
 have HO0:=A_ (show Kd.R (Kd.int .i64) 3 w w0.heap.size (fun k_=>(P0_ k_ ∨ w.heap.size ≤ k_)) u9000_ l0 from Kd.R_mono ho0 (fun k_ hk=>(.inl hk)));have HK:=A_ (Kept.refl w (fun k_=>P0_ k_));have HW0:=A_ hB.size;have HB:=A_ hB;clear hB;have H : (spec_l1Put.l0 k l0 a1 0) = some r:=h;clear h;have H':=A_ H;clear H;go_enter Tryd.func193,Tryd.ntmps193
 go_wp2
 go_loopg [5] k (fun kq v5 w'=>∃ (x5_1 : Int),v5 = .int .i64 x5_1 ∧ Aside0 (spec_l1Put.l0 kq l0 a1 x5_1 = some r) ∧ Aside0 (kq ≤ k) ∧ Aside0 (Kd.R (Kd.int .i64) 3 w' w0.heap.size (fun k_=>(P0_ k_ ∨ w.heap.size ≤ k_)) u9000_ l0) ∧ Aside0 (Kept w w' (fun k_=>P0_ k_)) ∧ Aside0 (Below w0.heap.size w0 w'))
 case atStart=>exact ⟨(0),(by first|rfl|(simp;done)|(simp [*];done)),H',⟨Nat.le_refl _⟩,⟨by (with_reducible repeat (first|apply Kd.R_alloc|apply Kd.R_drewN|apply Kd.R_drew));exact HO0.out⟩,⟨by repeat (first|(with_reducible first|exact HK.out|apply Kept.alloc|apply Kept.drewN|apply Kept.drew)|exact HK.out)⟩,⟨bb_⟩⟩
 case round =>
  clear H';try clear c1
  try clear p2
  obtain ⟨x5_1,rfl,HA,HK1,HO_0,HK,HB⟩:=hrel;cases gk with
  | zero => exact absurd HA.out (by simp [spec_l1Put.l0])
  | succ k1 =>
   have H:=HA.out;clear HA;simp only [spec_l1Put.l0] at H
   by_cases c3 : x5_1 < (l0.length : Int)
   ·rw [if_pos c3] at H;have c3b0 : decide (x5_1 < (l0.length : Int)) = true:=decide_eq_true c3;clear c3;by_cases c4 : 0 ≤ x5_1
    ·rw [if_pos c4] at H;have c4b0 : decide (0 ≤ x5_1) = true:=decide_eq_true c4;clear c4;by_cases c5 : (rd l0 x5_1) < a1
     ·rw [if_pos c5] at H;have c5b0 : decide ((rd l0 x5_1) < a1) = true:=decide_eq_true c5;clear c5;have H':=A_ H;clear H;obtain ⟨Ao6,co6,eo6⟩:=Kd.R_slice HO_0.out;subst eo6;have p537 : 0 ≤ (x5_1 : Int):=of_decide_eq_true (by first|(with_reducible assumption)|assumption);have q537 : x5_1 < (l0.length : Int):=of_decide_eq_true (by first|(with_reducible assumption)|assumption);obtain ⟨ad537,e537,hx537_0⟩:=Kd.at_int (Kd.R_reads' HO_0.out).2.2 x5_1 p537 q537;cases e537
      replace p537:=eq_true p537;replace q537:=eq_true q537;go_wp2
      go_roundg k1
      case measure=>have:=HK1.out;omega
      case rel=>exact ⟨(wrap64 (x5_1 + 1)),(by first|rfl|(simp;done)|(simp [*];done)),H',⟨by have:=HK1.out;omega⟩,⟨by (with_reducible repeat (first|apply Kd.R_alloc|apply Kd.R_drewN|apply Kd.R_drew));exact HO_0.out⟩,⟨by repeat (first|(with_reducible first|exact HK.out|apply Kept.alloc|apply Kept.drewN|apply Kept.drew)|exact HK.out)⟩,⟨bb_⟩⟩
     ·rw [if_neg c5] at H;have c5b0 : decide ((rd l0 x5_1) < a1) = false:=decide_eq_false c5;clear c5;by_cases c7 : (rd l0 x5_1) = a1
      ·rw [if_pos c7] at H;have c7b0 : ((rd l0 x5_1) == a1) = true:=beq_iff_eq.mpr c7;have c7b1 : ((rd l0 x5_1) != a1) = false:=bne_eq_false_iff_eq.mpr c7;clear c7;obtain rfl:=Option.some.inj H;obtain ⟨Ao8,co8,eo8⟩:=Kd.R_slice HO_0.out;subst eo8;have p537 : 0 ≤ (x5_1 : Int):=of_decide_eq_true (by first|(with_reducible assumption)|assumption);have q537 : x5_1 < (l0.length : Int):=of_decide_eq_true (by first|(with_reducible assumption)|assumption);obtain ⟨ad537,e537,hx537_0⟩:=Kd.at_int (Kd.R_reads' HO_0.out).2.2 x5_1 p537 q537;cases e537
       replace p537:=eq_true p537;replace q537:=eq_true q537;have p538 : 0 ≤ (x5_1 : Int):=of_decide_eq_true (by first|(with_reducible assumption)|assumption);have q538 : x5_1 < (l0.length : Int):=of_decide_eq_true (by first|(with_reducible assumption)|assumption);obtain ⟨ad538,e538,hx538_0⟩:=Kd.at_int (Kd.R_reads' HO_0.out).2.2 x5_1 p538 q538;obtain rfl : ad537 = ad538:=(by injection e538);replace p538:=eq_true p538;replace q538:=eq_true q538;go_wp2
       go_ret
       exact ⟨_,by first|rfl|(simp [errW_none,errW_some] <;> rfl)|(simp [*,errW_none,errW_some] <;> rfl),by (with_reducible repeat (first|apply Kd.R_alloc|apply Kd.R_drewN|apply Kd.R_drew));exact HO_0.out,bb_,by repeat (first|(with_reducible first|exact HK.out|apply Kept.alloc|apply Kept.drewN|apply Kept.drew)|exact HK.out)⟩
      ·rw [if_neg c7] at H;have c7b0 : ((rd l0 x5_1) == a1) = false:=beq_eq_false_iff_ne.mpr c7;have c7b1 : ((rd l0 x5_1) != a1) = true:=bne_iff_ne.mpr c7;obtain ⟨y539,hy539⟩ : ∃ y_ : List Int,y_ = (([] : List Int)):=⟨_,rfl⟩;replace H : (if x5_1 ≤ (l0.length : Int) then ((some (l0.take (x5_1 : Int).toNat : List Int)).bind fun y542=>(if y539.length + y542.length < 17592186044416 then ((some (y539 ++ y542 : List Int)).bind fun y546=>(if y546.length < 17592186044416 then ((some (y546 ++ [a1] : List Int)).bind fun y549=>((some (l0.drop (x5_1 : Int).toNat : List Int)).bind fun y552=>(if y549.length + y552.length < 17592186044416 then (some (y549 ++ y552)) else (none)))) else (none))) else (none))) else (none)) = some r:=by first|(rw [hy539];with_reducible exact H)|(have H2_:=(Option.bind_some _ _).symm.trans H;rw [hy539];with_reducible exact H2_)|(have H2_:=(Option.bind_some _ _).symm.trans H;with_reducible exact H2_)|with_reducible exact H|(rw [hy539];exact H)|exact H
       have Ny539:=A_ hy539;clear hy539;have c9b0:=eq_true (of_decide_eq_true (by first|(with_reducible assumption)|assumption) : 0 ≤ x5_1);by_cases c10 : x5_1 ≤ (l0.length : Int)
       ·rw [if_pos c10] at H;have c10b0:=eq_true c10;have c10b1 : decide (x5_1 ≤ (l0.length : Int)) = true:=decide_eq_true c10;clear c10;obtain ⟨y542,hy542⟩ : ∃ y_ : List Int,y_ = (l0.take (x5_1 : Int).toNat):=⟨_,rfl⟩;replace H : (if y539.length + y542.length < 17592186044416 then ((some (y539 ++ y542 : List Int)).bind fun y546=>(if y546.length < 17592186044416 then ((some (y546 ++ [a1] : List Int)).bind fun y549=>((some (l0.drop (x5_1 : Int).toNat : List Int)).bind fun y552=>(if y549.length + y552.length < 17592186044416 then (some (y549 ++ y552)) else (none)))) else (none))) else (none)) = some r:=by first|(rw [hy542];with_reducible exact H)|(have H2_:=(Option.bind_some _ _).symm.trans H;rw [hy542];with_reducible exact H2_)|(have H2_:=(Option.bind_some _ _).symm.trans H;with_reducible exact H2_)|with_reducible exact H|(rw [hy542];exact H)|exact H
        have Ny542:=A_ hy542;clear hy542;by_cases c11 : y539.length + y542.length < 17592186044416
        ·rw [if_pos c11] at H;have LMc11:=A_ c11;clear c11;obtain ⟨y546,hy546⟩ : ∃ y_ : List Int,y_ = (y539 ++ y542):=⟨_,rfl⟩;replace H : (if y546.length < 17592186044416 then ((some (y546 ++ [a1] : List Int)).bind fun y549=>((some (l0.drop (x5_1 : Int).toNat : List Int)).bind fun y552=>(if y549.length + y552.length < 17592186044416 then (some (y549 ++ y552)) else (none)))) else (none)) = some r:=by first|(rw [hy546];with_reducible exact H)|(have H2_:=(Option.bind_some _ _).symm.trans H;rw [hy546];with_reducible exact H2_)|(have H2_:=(Option.bind_some _ _).symm.trans H;with_reducible exact H2_)|with_reducible exact H|(rw [hy546];exact H)|exact H
         have Ny546:=A_ hy546;clear hy546;by_cases c12 : y546.length < 17592186044416
         ·rw [if_pos c12] at H;have LMc12:=A_ c12;clear c12;obtain ⟨y549,hy549⟩ : ∃ y_ : List Int,y_ = (y546 ++ [a1]):=⟨_,rfl⟩;replace H : ((some (l0.drop (x5_1 : Int).toNat : List Int)).bind fun y552=>(if y549.length + y552.length < 17592186044416 then (some (y549 ++ y552)) else (none))) = some r:=by first|(rw [hy549];with_reducible exact H)|(have H2_:=(Option.bind_some _ _).symm.trans H;rw [hy549];with_reducible exact H2_)|(have H2_:=(Option.bind_some _ _).symm.trans H;with_reducible exact H2_)|with_reducible exact H|(rw [hy549];exact H)|exact H
          have Ny549:=A_ hy549;clear hy549;have c13b0:=eq_true (of_decide_eq_true (by first|(with_reducible assumption)|assumption) : 0 ≤ x5_1);have c14b0:=eq_true (of_decide_eq_true (by first|(with_reducible assumption)|assumption) : x5_1 ≤ (l0.length : Int));obtain ⟨y552,hy552⟩ : ∃ y_ : List Int,y_ = (l0.drop (x5_1 : Int).toNat):=⟨_,rfl⟩;replace H : (if y549.length + y552.length < 17592186044416 then (some (y549 ++ y552)) else (none)) = some r:=by first|(rw [hy552];with_reducible exact H)|(have H2_:=(Option.bind_some _ _).symm.trans H;rw [hy552];with_reducible exact H2_)|(have H2_:=(Option.bind_some _ _).symm.trans H;with_reducible exact H2_)|with_reducible exact H|(rw [hy552];exact H)|exact H
          have Ny552:=A_ hy552;clear hy552;by_cases c15 : y549.length + y552.length < 17592186044416
          ·rw [if_pos c15] at H;have LMc15:=A_ c15;clear c15;obtain ⟨y556,hy556⟩ : ∃ y_ : List Int,y_ = (y549 ++ y552):=⟨_,rfl⟩;replace H : (some y556) = some r:=by first|(rw [hy556];with_reducible exact H)|(have H2_:=(Option.bind_some _ _).symm.trans H;rw [hy556];with_reducible exact H2_)|(have H2_:=(Option.bind_some _ _).symm.trans H;with_reducible exact H2_)|with_reducible exact H|(rw [hy556];exact H)|exact H
           have Ny556:=A_ hy556;clear hy556;obtain rfl:=Option.some.inj H;obtain ⟨Ao16,co16,eo16⟩:=Kd.R_slice HO_0.out;subst eo16;have p537 : 0 ≤ (x5_1 : Int):=of_decide_eq_true (by first|(with_reducible assumption)|assumption);have q537 : x5_1 < (l0.length : Int):=of_decide_eq_true (by first|(with_reducible assumption)|assumption);obtain ⟨ad537,e537,hx537_0⟩:=Kd.at_int (Kd.R_reads' HO_0.out).2.2 x5_1 p537 q537;cases e537
           replace p537:=eq_true p537;replace q537:=eq_true q537;have p538 : 0 ≤ (x5_1 : Int):=of_decide_eq_true (by first|(with_reducible assumption)|assumption);have q538 : x5_1 < (l0.length : Int):=of_decide_eq_true (by first|(with_reducible assumption)|assumption);obtain ⟨ad538,e538,hx538_0⟩:=Kd.at_int (Kd.R_reads' HO_0.out).2.2 x5_1 p538 q538;obtain rfl : ad537 = ad538:=(by injection e538);replace p538:=eq_true p538;replace q538:=eq_true q538;go_wp2_with (first|((with_reducible refine gate_dst (N:=34) rfl ?_);refine Kd.R_lit (Kd.int .i64) _ 3 ?hg (N:=34) ?hd (xs:=([] : List Int)) (inner:=[]) (ok:=fun _=>True) (okp:=fun _=>True) ?hr ?hp (fun _ hk=>hk) trivial (Below.refl _ _) (Nat.le_refl _) (by simp) ?_;(case hd=>rfl);(case hg=>rfl);(case hr=>first|(go_simp;done)|(go_simp;rfl));(case hp=>exact (Reps.none _ _));intro v540 w17 ho18 hb hg_ hnew_;clear hg_ hnew_;(first|rw [← Ny539.out] at ho18|(simp only [Int.reduceToNat] at ho18;rw [← Ny539.out] at ho18));have HO541:=A_ (Kd.R_lower (Kd.R_new' (Kd.R_newM (M:=fun k_=>(P0_ k_ ∨ w.heap.size ≤ k_)) ho18 (by first|exact HK.out.1|exact (show Kept w _ (fun k_=>P0_ k_) from by repeat (first|(with_reducible first|exact HK.out|apply Kept.alloc|apply Kept.drewN|apply Kept.drew)|exact HK.out)).1) (fun k_ h_=>.inr h_)) (Kd.R_lt (rl_ HO_0))) (below_size bb_));replace HO_0:=A_ (Kd.R_elder' (rl_ HO_0) (Kd.R_base ho18) hb);replace HK:=A_ (Kept.below (S:=(fun k_=>P0_ k_)) (by repeat (with_reducible first|exact HK.out|apply Kept.alloc|apply Kept.drewN|apply Kept.drew)) hb);replace HB:=A_ (below_step bb_ hb);clear hb ho18;have q19 : (x5_1 : Int) ≤ ((l0.length : Int) : Int):=of_decide_eq_true (by first|(with_reducible assumption)|assumption);obtain ⟨i019,hi019,_,hsz19,_⟩:=info_parts info3;have hroom19 : l0.length ≤ co16:=(Kd.R_reads' HO_0.out).2.1;have hC19 : Kd.C (Kd.int .i64) _ (some ad537) l0.length l0:=(Kd.R_reads' HO_0.out).2.2;have hcut19:=cut_to (P:=Tryd.prog) 22 3 .i64 Tryd.underlying22 hi019 (some ad537) l0.length co16 x5_1 (of_decide_eq_true (by first|(with_reducible assumption)|assumption)) q19 hroom19;have hr19:=Kd.C_take (m:=(x5_1 : Int).toNat) hC19 (by omega);have hy19 : y542.length = (x5_1 : Int).toNat:=(by rw [Ny542.out,U_];omega);rw [← Ny542.out] at hr19;rw [← hy19] at hcut19;have HR545:=A_ hr19;have HC545:=A_ (show y542.length ≤ co16 from by omega);clear hr19 hC19 hroom19 hi019 hsz19;have KY19:=A_ hy19;clear hy19;have KL19:=A_ (show (x5_1 : Int).toNat ≤ l0.length from by omega);replace q19:=eq_true q19)|((with_reducible refine gate_builtin (b:=.append) (xs:=#[.tmp 34,.tmp 37]) rfl ?_);at_builtin;refine Kd.R_append_rows (Kd.int .i64) (w0:=w0) w0.heap.size rfl (.tmp 34) (.tmp 37) 22 3 (.int .i64 0) 8 rfl Tryd.underlying22 info3 rfl (by decide) (by omega) v540 y539 y542 _ _ _ (fun k_=>(P0_ k_ ∨ w.heap.size ≤ k_) ∧ some k_ ≠ (.slice (some ad537) l0.length co16 : Value).ownBlock) (fun _=>False) rfl rfl ?aO ?aR (fun _ _ h=>h) (fun _ h=>h.elim) ?aF ?aB ?aS ?aL ?_;(case aR=>repeat (first|exact (by repeat (first|(with_reducible exact HR545.out)|(with_reducible refine Kd.C_alloc ?_ _)|(with_reducible refine Kd.C_drewN ?_ _)|(with_reducible refine Kd.C_drew ?_)|exact HR545.out))|(with_reducible refine Kd.C_alloc ?_ _)|(with_reducible refine Kd.C_drewN ?_ _)|(with_reducible refine Kd.C_drew ?_)));(case aB=>exact bb_);(case aF=>exact (fun k_ hk=>⟨(.inr (Nat.le_trans (by first|exact HK.out.1|exact (show Kept w _ (fun k_=>P0_ k_) from by repeat (first|(with_reducible first|exact HK.out|apply Kept.alloc|apply Kept.drewN|apply Kept.drew)|exact HK.out)).1) hk)),Kd.fresh' (Kd.R_lt (rl_ HO_0)) k_ hk⟩));(case aO=>exact (by (with_reducible repeat (first|apply Kd.R_alloc|apply Kd.R_drewN|apply Kd.R_drew));exact Kd.R_mono HO541.out (fun _ hk=>⟨hk.1.1,hk.2⟩)));(case aS=>exact (below_size bb_));(case aL=>have:=LMc11.out;omega);intro v547 w20 ho hb hg hat;rw [← Ny546.out] at ho;replace HB:=A_ (hb);replace HK:=A_ (Kept.of_grown (S:=(fun k_=>P0_ k_)) hg (by repeat (with_reducible first|exact HK.out|apply Kept.alloc|apply Kept.drewN|apply Kept.drew)) (fun k_ e_=>(HO541.out.1 k_ e_).1.1));replace HR545:=A_ ((show Kd.C (Kd.int .i64) w20 (some ad537) y542.length y542 from by rw [Ny542.out];exact Kd.C_take (m:=(x5_1 : Int).toNat) ((Kd.R_reads' (Kd.R_after (ok:=(fun k_=>(P0_ k_ ∨ w.heap.size ≤ k_))) (rl_ HO_0) hg hat)).2.2) KL19.out));replace HO_0:=A_ (Kd.R_after (ok:=(fun k_=>(P0_ k_ ∨ w.heap.size ≤ k_))) (rl_ HO_0) hg hat);have HO548:=A_ (ho);clear HO541;clear ho hb hg hat)|((with_reducible refine gate_builtin (b:=.append) (xs:=#[.tmp 39,.tmp 41]) rfl ?_);at_builtin;refine Kd.R_append (Kd.int .i64) (w0:=w0) w0.heap.size rfl (.tmp 39) (.tmp 41) 22 3 (.int .i64 0) 8 rfl Tryd.underlying22 info3 rfl (by decide) (by omega) v547 y546 a1 [.int .i64 a1] (fun k_=>(P0_ k_ ∨ w.heap.size ≤ k_) ∧ some k_ ≠ (.slice (some ad537) l0.length co16 : Value).ownBlock) (fun _=>False) rfl rfl ?aP (fun _ hk=>hk.elim) ?aF ?aO ?aB ?aS ?aL ?_;(case aP=>exact rfl);(case aB=>exact bb_);(case aF=>exact (fun k_ hk=>⟨(.inr (Nat.le_trans (by first|exact HK.out.1|exact (show Kept w _ (fun k_=>P0_ k_) from by repeat (first|(with_reducible first|exact HK.out|apply Kept.alloc|apply Kept.drewN|apply Kept.drew)|exact HK.out)).1) hk)),Kd.fresh' (Kd.R_lt (rl_ HO_0)) k_ hk⟩));(case aO=>exact (rl_ HO548));(case aS=>exact (below_size bb_));(case aL=>have:=LMc12.out;omega);intro v550 w21 ho hb hg hat;rw [← Ny549.out] at ho;replace HB:=A_ (hb);replace HK:=A_ (Kept.of_grown (S:=(fun k_=>P0_ k_)) hg (by repeat (with_reducible first|exact HK.out|apply Kept.alloc|apply Kept.drewN|apply Kept.drew)) (fun k_ e_=>(HO548.out.1 k_ e_).1));replace HR545:=A_ ((show Kd.C (Kd.int .i64) w21 (some ad537) y542.length y542 from by rw [Ny542.out];exact Kd.C_take (m:=(x5_1 : Int).toNat) ((Kd.R_reads' (Kd.R_after (ok:=(fun k_=>(P0_ k_ ∨ w.heap.size ≤ k_))) (rl_ HO_0) hg hat)).2.2) KL19.out));replace HO_0:=A_ (Kd.R_after (ok:=(fun k_=>(P0_ k_ ∨ w.heap.size ≤ k_))) (rl_ HO_0) hg hat);have HO551:=A_ (ho);clear HO548;clear ho hb hg hat;have q22 : (x5_1 : Int) ≤ ((l0.length : Int) : Int):=of_decide_eq_true (by first|(with_reducible assumption)|assumption);obtain ⟨i022,hi022,_,hsz22,_⟩:=info_parts info3;have hroom22 : l0.length ≤ co16:=(Kd.R_reads' HO_0.out).2.1;have hC22 : Kd.C (Kd.int .i64) _ (some ad537) l0.length l0:=(Kd.R_reads' HO_0.out).2.2;have q022 : (0 : Int) ≤ (x5_1 : Int):=of_decide_eq_true (by first|(with_reducible assumption)|assumption);have hcut22:=cut_from (P:=Tryd.prog) 22 3 .i64 Tryd.underlying22 hi022 1 hsz22 (some ad537) l0.length co16 x5_1 q022 q22;have hr22:=Kd.C_drop (m:=(x5_1 : Int).toNat) (c:=co16) hC22 (by omega) hroom22;obtain ⟨A22,hA22⟩ : ∃ A1,A1 = (if co16 = (x5_1 : Int).toNat then (some ad537) else ((some ad537) : Option Addr).map (·.add ((x5_1 : Int).toNat * 1))):=⟨_,rfl⟩;obtain ⟨c22,hc22⟩ : ∃ c1,c1 = co16 - (x5_1 : Int).toNat:=⟨_,rfl⟩;have hy22 : y552.length = l0.length - (x5_1 : Int).toNat:=(by rw [Ny552.out,S_] <;> omega);rw [show (l0).drop (x5_1 : Int).toNat = y552 from Ny552.out.symm] at hr22;replace hr22 : Kd.C (Kd.int .i64) _ A22 y552.length y552:=(by rw [hA22];exact hr22);rw [← hy22,← hA22,← hc22] at hcut22;have HR555:=A_ hr22;have HC555:=A_ (show y552.length ≤ c22 from by rw [hy22,hc22];exact Nat.sub_le_sub_right hroom22 _);clear hr22 hC22 hroom22 hi022 hsz22 hc22;have KY22:=A_ hy22;have KA22:=A_ hA22;clear hy22 hA22;have KL22:=A_ (show (x5_1 : Int).toNat ≤ l0.length from by omega);replace q22:=eq_true q22)|((with_reducible refine gate_builtin (b:=.append) (xs:=#[.tmp 43,.tmp 46]) rfl ?_);at_builtin;refine Kd.R_append_rows (Kd.int .i64) (w0:=w0) w0.heap.size rfl (.tmp 43) (.tmp 46) 22 3 (.int .i64 0) 8 rfl Tryd.underlying22 info3 rfl (by decide) (by omega) v550 y549 y552 _ _ _ (fun k_=>(P0_ k_ ∨ w.heap.size ≤ k_) ∧ some k_ ≠ (.slice (some ad537) l0.length co16 : Value).ownBlock) (fun _=>False) rfl rfl ?aO ?aR (fun _ _ h=>h) (fun _ h=>h.elim) ?aF ?aB ?aS ?aL ?_;(case aR=>repeat (first|exact (by repeat (first|(with_reducible exact HR555.out)|(with_reducible refine Kd.C_alloc ?_ _)|(with_reducible refine Kd.C_drewN ?_ _)|(with_reducible refine Kd.C_drew ?_)|exact HR555.out))|(with_reducible refine Kd.C_alloc ?_ _)|(with_reducible refine Kd.C_drewN ?_ _)|(with_reducible refine Kd.C_drew ?_)));(case aB=>exact bb_);(case aF=>exact (fun k_ hk=>⟨(.inr (Nat.le_trans (by first|exact HK.out.1|exact (show Kept w _ (fun k_=>P0_ k_) from by repeat (first|(with_reducible first|exact HK.out|apply Kept.alloc|apply Kept.drewN|apply Kept.drew)|exact HK.out)).1) hk)),Kd.fresh' (Kd.R_lt (rl_ HO_0)) k_ hk⟩));(case aO=>exact (rl_ HO551));(case aS=>exact (below_size bb_));(case aL=>have:=LMc15.out;omega);intro v557 w23 ho hb hg hat;rw [← Ny556.out] at ho;replace HB:=A_ (hb);replace HK:=A_ (Kept.of_grown (S:=(fun k_=>P0_ k_)) hg (by repeat (with_reducible first|exact HK.out|apply Kept.alloc|apply Kept.drewN|apply Kept.drew)) (fun k_ e_=>(HO551.out.1 k_ e_).1));replace HR545:=A_ ((show Kd.C (Kd.int .i64) w23 (some ad537) y542.length y542 from by rw [Ny542.out];exact Kd.C_take (m:=(x5_1 : Int).toNat) ((Kd.R_reads' (Kd.R_after (ok:=(fun k_=>(P0_ k_ ∨ w.heap.size ≤ k_))) (rl_ HO_0) hg hat)).2.2) KL19.out));replace HR555:=A_ ((show Kd.C (Kd.int .i64) w23 A22 y552.length y552 from by rw [Ny552.out,KA22.out];exact Kd.C_drop (m:=(x5_1 : Int).toNat) (c:=co16) ((Kd.R_reads' (Kd.R_after (ok:=(fun k_=>(P0_ k_ ∨ w.heap.size ≤ k_))) (rl_ HO_0) hg hat)).2.2) KL22.out ((Kd.R_reads' (Kd.R_after (ok:=(fun k_=>(P0_ k_ ∨ w.heap.size ≤ k_))) (rl_ HO_0) hg hat)).2.1)));replace HO_0:=A_ (Kd.R_after (ok:=(fun k_=>(P0_ k_ ∨ w.heap.size ≤ k_))) (rl_ HO_0) hg hat);have HO558:=A_ (ho);clear HO551;clear ho hb hg hat))
           go_ret
           exact ⟨_,by first|rfl|(simp [errW_none,errW_some] <;> rfl)|(simp [*,errW_none,errW_some] <;> rfl),by (with_reducible repeat (first|apply Kd.R_alloc|apply Kd.R_drewN|apply Kd.R_drew));exact Kd.R_mono HO558.out (fun _ hk=>hk.1),bb_,by repeat (first|(with_reducible first|exact HK.out|apply Kept.alloc|apply Kept.drewN|apply Kept.drew)|exact HK.out)⟩
          ·rw [if_neg c15] at H;exact absurd H (by simp)
         ·rw [if_neg c12] at H;exact absurd H (by simp)
        ·rw [if_neg c11] at H;exact absurd H (by simp)
       ·rw [if_neg c10] at H;exact absurd H (by simp)
    ·rw [if_neg c4] at H;exact absurd H (by simp)
   ·rw [if_neg c3] at H;have c3b0 : decide (x5_1 < (l0.length : Int)) = false:=decide_eq_false c3;clear c3;obtain ⟨y559,hy559⟩ : ∃ y_ : List Int,y_ = (([] : List Int)):=⟨_,rfl⟩;replace H : (if 0 ≤ x5_1 then (if x5_1 ≤ (l0.length : Int) then ((some (l0.take (x5_1 : Int).toNat : List Int)).bind fun y562=>(if y559.length + y562.length < 17592186044416 then ((some (y559 ++ y562 : List Int)).bind fun y566=>(if y566.length < 17592186044416 then ((some (y566 ++ [a1] : List Int)).bind fun y569=>((some (l0.drop (x5_1 : Int).toNat : List Int)).bind fun y572=>(if y569.length + y572.length < 17592186044416 then (some (y569 ++ y572)) else (none)))) else (none))) else (none))) else (none)) else (none)) = some r:=by first|(rw [hy559];with_reducible exact H)|(have H2_:=(Option.bind_some _ _).symm.trans H;rw [hy559];with_reducible exact H2_)|(have H2_:=(Option.bind_some _ _).symm.trans H;with_reducible exact H2_)|with_reducible exact H|(rw [hy559];exact H)|exact H
    have Ny559:=A_ hy559;clear hy559;by_cases c24 : 0 ≤ x5_1
    ·rw [if_pos c24] at H;have c24b0:=eq_true c24;have c24b1 : decide (0 ≤ x5_1) = true:=decide_eq_true c24;clear c24;by_cases c25 : x5_1 ≤ (l0.length : Int)
     ·rw [if_pos c25] at H;have c25b0:=eq_true c25;have c25b1 : decide (x5_1 ≤ (l0.length : Int)) = true:=decide_eq_true c25;clear c25;obtain ⟨y562,hy562⟩ : ∃ y_ : List Int,y_ = (l0.take (x5_1 : Int).toNat):=⟨_,rfl⟩;replace H : (if y559.length + y562.length < 17592186044416 then ((some (y559 ++ y562 : List Int)).bind fun y566=>(if y566.length < 17592186044416 then ((some (y566 ++ [a1] : List Int)).bind fun y569=>((some (l0.drop (x5_1 : Int).toNat : List Int)).bind fun y572=>(if y569.length + y572.length < 17592186044416 then (some (y569 ++ y572)) else (none)))) else (none))) else (none)) = some r:=by first|(rw [hy562];with_reducible exact H)|(have H2_:=(Option.bind_some _ _).symm.trans H;rw [hy562];with_reducible exact H2_)|(have H2_:=(Option.bind_some _ _).symm.trans H;with_reducible exact H2_)|with_reducible exact H|(rw [hy562];exact H)|exact H
      have Ny562:=A_ hy562;clear hy562;by_cases c26 : y559.length + y562.length < 17592186044416
      ·rw [if_pos c26] at H;have LMc26:=A_ c26;clear c26;obtain ⟨y566,hy566⟩ : ∃ y_ : List Int,y_ = (y559 ++ y562):=⟨_,rfl⟩;replace H : (if y566.length < 17592186044416 then ((some (y566 ++ [a1] : List Int)).bind fun y569=>((some (l0.drop (x5_1 : Int).toNat : List Int)).bind fun y572=>(if y569.length + y572.length < 17592186044416 then (some (y569 ++ y572)) else (none)))) else (none)) = some r:=by first|(rw [hy566];with_reducible exact H)|(have H2_:=(Option.bind_some _ _).symm.trans H;rw [hy566];with_reducible exact H2_)|(have H2_:=(Option.bind_some _ _).symm.trans H;with_reducible exact H2_)|with_reducible exact H|(rw [hy566];exact H)|exact H
       have Ny566:=A_ hy566;clear hy566;by_cases c27 : y566.length < 17592186044416
       ·rw [if_pos c27] at H;have LMc27:=A_ c27;clear c27;obtain ⟨y569,hy569⟩ : ∃ y_ : List Int,y_ = (y566 ++ [a1]):=⟨_,rfl⟩;replace H : ((some (l0.drop (x5_1 : Int).toNat : List Int)).bind fun y572=>(if y569.length + y572.length < 17592186044416 then (some (y569 ++ y572)) else (none))) = some r:=by first|(rw [hy569];with_reducible exact H)|(have H2_:=(Option.bind_some _ _).symm.trans H;rw [hy569];with_reducible exact H2_)|(have H2_:=(Option.bind_some _ _).symm.trans H;with_reducible exact H2_)|with_reducible exact H|(rw [hy569];exact H)|exact H
        have Ny569:=A_ hy569;clear hy569;have c28b0:=eq_true (of_decide_eq_true (by first|(with_reducible assumption)|assumption) : 0 ≤ x5_1);have c29b0:=eq_true (of_decide_eq_true (by first|(with_reducible assumption)|assumption) : x5_1 ≤ (l0.length : Int));obtain ⟨y572,hy572⟩ : ∃ y_ : List Int,y_ = (l0.drop (x5_1 : Int).toNat):=⟨_,rfl⟩;replace H : (if y569.length + y572.length < 17592186044416 then (some (y569 ++ y572)) else (none)) = some r:=by first|(rw [hy572];with_reducible exact H)|(have H2_:=(Option.bind_some _ _).symm.trans H;rw [hy572];with_reducible exact H2_)|(have H2_:=(Option.bind_some _ _).symm.trans H;with_reducible exact H2_)|with_reducible exact H|(rw [hy572];exact H)|exact H
        have Ny572:=A_ hy572;clear hy572;by_cases c30 : y569.length + y572.length < 17592186044416
        ·rw [if_pos c30] at H;have LMc30:=A_ c30;clear c30;obtain ⟨y576,hy576⟩ : ∃ y_ : List Int,y_ = (y569 ++ y572):=⟨_,rfl⟩;replace H : (some y576) = some r:=by first|(rw [hy576];with_reducible exact H)|(have H2_:=(Option.bind_some _ _).symm.trans H;rw [hy576];with_reducible exact H2_)|(have H2_:=(Option.bind_some _ _).symm.trans H;with_reducible exact H2_)|with_reducible exact H|(rw [hy576];exact H)|exact H
         have Ny576:=A_ hy576;clear hy576;obtain rfl:=Option.some.inj H;obtain ⟨Ao31,co31,eo31⟩:=Kd.R_slice HO_0.out;subst eo31;go_wp2_with (first|((with_reducible refine gate_dst (N:=34) rfl ?_);refine Kd.R_lit (Kd.int .i64) _ 3 ?hg (N:=34) ?hd (xs:=([] : List Int)) (inner:=[]) (ok:=fun _=>True) (okp:=fun _=>True) ?hr ?hp (fun _ hk=>hk) trivial (Below.refl _ _) (Nat.le_refl _) (by simp) ?_;(case hd=>rfl);(case hg=>rfl);(case hr=>first|(go_simp;done)|(go_simp;rfl));(case hp=>exact (Reps.none _ _));intro v560 w32 ho33 hb hg_ hnew_;clear hg_ hnew_;(first|rw [← Ny559.out] at ho33|(simp only [Int.reduceToNat] at ho33;rw [← Ny559.out] at ho33));have HO561:=A_ (Kd.R_lower (Kd.R_new' (Kd.R_newM (M:=fun k_=>(P0_ k_ ∨ w.heap.size ≤ k_)) ho33 (by first|exact HK.out.1|exact (show Kept w _ (fun k_=>P0_ k_) from by repeat (first|(with_reducible first|exact HK.out|apply Kept.alloc|apply Kept.drewN|apply Kept.drew)|exact HK.out)).1) (fun k_ h_=>.inr h_)) (Kd.R_lt (rl_ HO_0))) (below_size bb_));replace HO_0:=A_ (Kd.R_elder' (rl_ HO_0) (Kd.R_base ho33) hb);replace HK:=A_ (Kept.below (S:=(fun k_=>P0_ k_)) (by repeat (with_reducible first|exact HK.out|apply Kept.alloc|apply Kept.drewN|apply Kept.drew)) hb);replace HB:=A_ (below_step bb_ hb);clear hb ho33;have q34 : (x5_1 : Int) ≤ ((l0.length : Int) : Int):=of_decide_eq_true (by first|(with_reducible assumption)|assumption);obtain ⟨i034,hi034,_,hsz34,_⟩:=info_parts info3;have hroom34 : l0.length ≤ co31:=(Kd.R_reads' HO_0.out).2.1;have hC34 : Kd.C (Kd.int .i64) _ Ao31 l0.length l0:=(Kd.R_reads' HO_0.out).2.2;have hcut34:=cut_to (P:=Tryd.prog) 22 3 .i64 Tryd.underlying22 hi034 Ao31 l0.length co31 x5_1 (of_decide_eq_true (by first|(with_reducible assumption)|assumption)) q34 hroom34;have hr34:=Kd.C_take (m:=(x5_1 : Int).toNat) hC34 (by omega);have hy34 : y562.length = (x5_1 : Int).toNat:=(by rw [Ny562.out,U_];omega);rw [← Ny562.out] at hr34;rw [← hy34] at hcut34;have HR565:=A_ hr34;have HC565:=A_ (show y562.length ≤ co31 from by omega);clear hr34 hC34 hroom34 hi034 hsz34;have KY34:=A_ hy34;clear hy34;have KL34:=A_ (show (x5_1 : Int).toNat ≤ l0.length from by omega);replace q34:=eq_true q34)|((with_reducible refine gate_builtin (b:=.append) (xs:=#[.tmp 34,.tmp 37]) rfl ?_);at_builtin;refine Kd.R_append_rows (Kd.int .i64) (w0:=w0) w0.heap.size rfl (.tmp 34) (.tmp 37) 22 3 (.int .i64 0) 8 rfl Tryd.underlying22 info3 rfl (by decide) (by omega) v560 y559 y562 _ _ _ (fun k_=>(P0_ k_ ∨ w.heap.size ≤ k_) ∧ some k_ ≠ (.slice Ao31 l0.length co31 : Value).ownBlock) (fun _=>False) rfl rfl ?aO ?aR (fun _ _ h=>h) (fun _ h=>h.elim) ?aF ?aB ?aS ?aL ?_;(case aR=>repeat (first|exact (by repeat (first|(with_reducible exact HR565.out)|(with_reducible refine Kd.C_alloc ?_ _)|(with_reducible refine Kd.C_drewN ?_ _)|(with_reducible refine Kd.C_drew ?_)|exact HR565.out))|(with_reducible refine Kd.C_alloc ?_ _)|(with_reducible refine Kd.C_drewN ?_ _)|(with_reducible refine Kd.C_drew ?_)));(case aB=>exact bb_);(case aF=>exact (fun k_ hk=>⟨(.inr (Nat.le_trans (by first|exact HK.out.1|exact (show Kept w _ (fun k_=>P0_ k_) from by repeat (first|(with_reducible first|exact HK.out|apply Kept.alloc|apply Kept.drewN|apply Kept.drew)|exact HK.out)).1) hk)),Kd.fresh' (Kd.R_lt (rl_ HO_0)) k_ hk⟩));(case aO=>exact (by (with_reducible repeat (first|apply Kd.R_alloc|apply Kd.R_drewN|apply Kd.R_drew));exact Kd.R_mono HO561.out (fun _ hk=>⟨hk.1.1,hk.2⟩)));(case aS=>exact (below_size bb_));(case aL=>have:=LMc26.out;omega);intro v567 w35 ho hb hg hat;rw [← Ny566.out] at ho;replace HB:=A_ (hb);replace HK:=A_ (Kept.of_grown (S:=(fun k_=>P0_ k_)) hg (by repeat (with_reducible first|exact HK.out|apply Kept.alloc|apply Kept.drewN|apply Kept.drew)) (fun k_ e_=>(HO561.out.1 k_ e_).1.1));replace HR565:=A_ ((show Kd.C (Kd.int .i64) w35 Ao31 y562.length y562 from by rw [Ny562.out];exact Kd.C_take (m:=(x5_1 : Int).toNat) ((Kd.R_reads' (Kd.R_after (ok:=(fun k_=>(P0_ k_ ∨ w.heap.size ≤ k_))) (rl_ HO_0) hg hat)).2.2) KL34.out));replace HO_0:=A_ (Kd.R_after (ok:=(fun k_=>(P0_ k_ ∨ w.heap.size ≤ k_))) (rl_ HO_0) hg hat);have HO568:=A_ (ho);clear HO561;clear ho hb hg hat)|((with_reducible refine gate_builtin (b:=.append) (xs:=#[.tmp 39,.tmp 41]) rfl ?_);at_builtin;refine Kd.R_append (Kd.int .i64) (w0:=w0) w0.heap.size rfl (.tmp 39) (.tmp 41) 22 3 (.int .i64 0) 8 rfl Tryd.underlying22 info3 rfl (by decide) (by omega) v567 y566 a1 [.int .i64 a1] (fun k_=>(P0_ k_ ∨ w.heap.size ≤ k_) ∧ some k_ ≠ (.slice Ao31 l0.length co31 : Value).ownBlock) (fun _=>False) rfl rfl ?aP (fun _ hk=>hk.elim) ?aF ?aO ?aB ?aS ?aL ?_;(case aP=>exact rfl);(case aB=>exact bb_);(case aF=>exact (fun k_ hk=>⟨(.inr (Nat.le_trans (by first|exact HK.out.1|exact (show Kept w _ (fun k_=>P0_ k_) from by repeat (first|(with_reducible first|exact HK.out|apply Kept.alloc|apply Kept.drewN|apply Kept.drew)|exact HK.out)).1) hk)),Kd.fresh' (Kd.R_lt (rl_ HO_0)) k_ hk⟩));(case aO=>exact (rl_ HO568));(case aS=>exact (below_size bb_));(case aL=>have:=LMc27.out;omega);intro v570 w36 ho hb hg hat;rw [← Ny569.out] at ho;replace HB:=A_ (hb);replace HK:=A_ (Kept.of_grown (S:=(fun k_=>P0_ k_)) hg (by repeat (with_reducible first|exact HK.out|apply Kept.alloc|apply Kept.drewN|apply Kept.drew)) (fun k_ e_=>(HO568.out.1 k_ e_).1));replace HR565:=A_ ((show Kd.C (Kd.int .i64) w36 Ao31 y562.length y562 from by rw [Ny562.out];exact Kd.C_take (m:=(x5_1 : Int).toNat) ((Kd.R_reads' (Kd.R_after (ok:=(fun k_=>(P0_ k_ ∨ w.heap.size ≤ k_))) (rl_ HO_0) hg hat)).2.2) KL34.out));replace HO_0:=A_ (Kd.R_after (ok:=(fun k_=>(P0_ k_ ∨ w.heap.size ≤ k_))) (rl_ HO_0) hg hat);have HO571:=A_ (ho);clear HO568;clear ho hb hg hat;have q37 : (x5_1 : Int) ≤ ((l0.length : Int) : Int):=of_decide_eq_true (by first|(with_reducible assumption)|assumption);obtain ⟨i037,hi037,_,hsz37,_⟩:=info_parts info3;have hroom37 : l0.length ≤ co31:=(Kd.R_reads' HO_0.out).2.1;have hC37 : Kd.C (Kd.int .i64) _ Ao31 l0.length l0:=(Kd.R_reads' HO_0.out).2.2;have q037 : (0 : Int) ≤ (x5_1 : Int):=of_decide_eq_true (by first|(with_reducible assumption)|assumption);have hcut37:=cut_from (P:=Tryd.prog) 22 3 .i64 Tryd.underlying22 hi037 1 hsz37 Ao31 l0.length co31 x5_1 q037 q37;have hr37:=Kd.C_drop (m:=(x5_1 : Int).toNat) (c:=co31) hC37 (by omega) hroom37;obtain ⟨A37,hA37⟩ : ∃ A1,A1 = (if co31 = (x5_1 : Int).toNat then Ao31 else (Ao31 : Option Addr).map (·.add ((x5_1 : Int).toNat * 1))):=⟨_,rfl⟩;obtain ⟨c37,hc37⟩ : ∃ c1,c1 = co31 - (x5_1 : Int).toNat:=⟨_,rfl⟩;have hy37 : y572.length = l0.length - (x5_1 : Int).toNat:=(by rw [Ny572.out,S_] <;> omega);rw [show (l0).drop (x5_1 : Int).toNat = y572 from Ny572.out.symm] at hr37;replace hr37 : Kd.C (Kd.int .i64) _ A37 y572.length y572:=(by rw [hA37];exact hr37);rw [← hy37,← hA37,← hc37] at hcut37;have HR575:=A_ hr37;have HC575:=A_ (show y572.length ≤ c37 from by rw [hy37,hc37];exact Nat.sub_le_sub_right hroom37 _);clear hr37 hC37 hroom37 hi037 hsz37 hc37;have KY37:=A_ hy37;have KA37:=A_ hA37;clear hy37 hA37;have KL37:=A_ (show (x5_1 : Int).toNat ≤ l0.length from by omega);replace q37:=eq_true q37)|((with_reducible refine gate_builtin (b:=.append) (xs:=#[.tmp 43,.tmp 46]) rfl ?_);at_builtin;refine Kd.R_append_rows (Kd.int .i64) (w0:=w0) w0.heap.size rfl (.tmp 43) (.tmp 46) 22 3 (.int .i64 0) 8 rfl Tryd.underlying22 info3 rfl (by decide) (by omega) v570 y569 y572 _ _ _ (fun k_=>(P0_ k_ ∨ w.heap.size ≤ k_) ∧ some k_ ≠ (.slice Ao31 l0.length co31 : Value).ownBlock) (fun _=>False) rfl rfl ?aO ?aR (fun _ _ h=>h) (fun _ h=>h.elim) ?aF ?aB ?aS ?aL ?_;(case aR=>repeat (first|exact (by repeat (first|(with_reducible exact HR575.out)|(with_reducible refine Kd.C_alloc ?_ _)|(with_reducible refine Kd.C_drewN ?_ _)|(with_reducible refine Kd.C_drew ?_)|exact HR575.out))|(with_reducible refine Kd.C_alloc ?_ _)|(with_reducible refine Kd.C_drewN ?_ _)|(with_reducible refine Kd.C_drew ?_)));(case aB=>exact bb_);(case aF=>exact (fun k_ hk=>⟨(.inr (Nat.le_trans (by first|exact HK.out.1|exact (show Kept w _ (fun k_=>P0_ k_) from by repeat (first|(with_reducible first|exact HK.out|apply Kept.alloc|apply Kept.drewN|apply Kept.drew)|exact HK.out)).1) hk)),Kd.fresh' (Kd.R_lt (rl_ HO_0)) k_ hk⟩));(case aO=>exact (rl_ HO571));(case aS=>exact (below_size bb_));(case aL=>have:=LMc30.out;omega);intro v577 w38 ho hb hg hat;rw [← Ny576.out] at ho;replace HB:=A_ (hb);replace HK:=A_ (Kept.of_grown (S:=(fun k_=>P0_ k_)) hg (by repeat (with_reducible first|exact HK.out|apply Kept.alloc|apply Kept.drewN|apply Kept.drew)) (fun k_ e_=>(HO571.out.1 k_ e_).1));replace HR565:=A_ ((show Kd.C (Kd.int .i64) w38 Ao31 y562.length y562 from by rw [Ny562.out];exact Kd.C_take (m:=(x5_1 : Int).toNat) ((Kd.R_reads' (Kd.R_after (ok:=(fun k_=>(P0_ k_ ∨ w.heap.size ≤ k_))) (rl_ HO_0) hg hat)).2.2) KL34.out));replace HR575:=A_ ((show Kd.C (Kd.int .i64) w38 A37 y572.length y572 from by rw [Ny572.out,KA37.out];exact Kd.C_drop (m:=(x5_1 : Int).toNat) (c:=co31) ((Kd.R_reads' (Kd.R_after (ok:=(fun k_=>(P0_ k_ ∨ w.heap.size ≤ k_))) (rl_ HO_0) hg hat)).2.2) KL37.out ((Kd.R_reads' (Kd.R_after (ok:=(fun k_=>(P0_ k_ ∨ w.heap.size ≤ k_))) (rl_ HO_0) hg hat)).2.1)));replace HO_0:=A_ (Kd.R_after (ok:=(fun k_=>(P0_ k_ ∨ w.heap.size ≤ k_))) (rl_ HO_0) hg hat);have HO578:=A_ (ho);clear HO571;clear ho hb hg hat))
         go_ret
         exact ⟨_,by first|rfl|(simp [errW_none,errW_some] <;> rfl)|(simp [*,errW_none,errW_some] <;> rfl),by (with_reducible repeat (first|apply Kd.R_alloc|apply Kd.R_drewN|apply Kd.R_drew));exact Kd.R_mono HO578.out (fun _ hk=>hk.1),bb_,by repeat (first|(with_reducible first|exact HK.out|apply Kept.alloc|apply Kept.drewN|apply Kept.drew)|exact HK.out)⟩
        ·rw [if_neg c30] at H;exact absurd H (by simp)
       ·rw [if_neg c27] at H;exact absurd H (by simp)
      ·rw [if_neg c26] at H;exact absurd H (by simp)
     ·rw [if_neg c25] at H;exact absurd H (by simp)
    ·rw [if_neg c24] at H;exact absurd H (by simp)
mutual
def spec_ivLevels.l0 : Nat → List Int → Int → Int → Int → List Int → Option (List Int)
 | 0,_,_,_,_,_=>none
 | k + 1,x3,x12,x13,x1258000,x1258001=>if x13 < x12 then ((spec_orBelow.f k x1258000 x1258001 x13).bind fun t1258=>((spec_l1Put.f k x3 t1258).bind fun t1259=>(spec_ivLevels.l0 k t1259 x12 (wrap64 (x13 + 1)) x1258000 x1258001))) else (spec_ivLevels.l1 k x3 ([] : List Int) (x1258001.length : Int) 0 x1258000 x1258001)
def spec_ivLevels.l1 : Nat → List Int → List Int → Int → Int → Int → List Int → Option (List Int)
 | 0,_,_,_,_,_,_=>none
 | k + 1,x3,x5,x24,x25,x1258000,x1258001=>if x25 < x24 then (spec_ivLevels.l2 k x3 x5 x25 0 x24 x25 x3 (x3.length : Int) 0 x1258000 x1258001) else (some x5)
def spec_ivLevels.l2 : Nat → List Int → List Int → Int → Int → Int → Int → List Int → Int → Int → Int → List Int → Option (List Int)
 | 0,_,_,_,_,_,_,_,_,_,_,_=>none
 | k + 1,x3,x5,x6,x7,x24,x25,x28,x29,x30,x1258000,x1258001=>if x30 < x29 then (if 0 ≤ x30 then (if x30 < (x28.length : Int) then ((spec_orBelow.f k x1258000 x1258001 x6).bind fun t1266=>(if (rd x28 x30) = t1266 then (spec_ivLevels.l2 k x3 x5 x6 x7 x24 x25 x28 x29 (wrap64 (x30 + 1)) x1258000 x1258001) else ((spec_orBelow.f k x1258000 x1258001 x6).bind fun t1267=>(if (Go.bits .andNot .i64 (rd x28 x30) t1267) = 0 then (spec_ivLevels.l2 k x3 x5 x6 (wrap64 (x7 + 1)) x24 x25 x28 x29 (wrap64 (x30 + 1)) x1258000 x1258001) else (spec_ivLevels.l2 k x3 x5 x6 x7 x24 x25 x28 x29 (wrap64 (x30 + 1)) x1258000 x1258001))))) else (none)) else (none)) else (if x5.length < 17592186044416 then (spec_ivLevels.l1 k x3 (x5 ++ [x7]) x24 (wrap64 (x25 + 1)) x1258000 x1258001) else (none))
end
def spec_ivLevels.f (k : Nat) (a0_0 : Int) (l0_1 : List Int) : Option (List Int) := spec_ivLevels.l0 k ([] : List Int) (l0_1.length : Int) 0 a0_0 l0_1
set_option maxHeartbeats 8000000 in
set_option maxRecDepth 100000 in
theorem spec_ivLevels.calls (k : Nat) (a0_0 : Int) (A0_1 : Option Addr) (c0_1 : Nat) (l0_1 : List Int) (r : List Int) (w : World) (hr0_1 : Kd.C (Kd.int .i64) w A0_1 l0_1.length l0_1) (hc0_1 : l0_1.length ≤ c0_1) (h : spec_ivLevels.f k a0_0 l0_1 = some r) :
 Calls Tryd.prog 182 #[.agg #[.int .i64 a0_0,.slice A0_1 l0_1.length c0_1]] w fun e w'=>∃ v0_ : Value,e = .returned (v0_) ∧ Kd.R (Kd.int .i64) 3 w' w.heap.size (fun _=>True) v0_ r ∧ Below w.heap.size w w':=by
 have hu28:=Tryd.underlying28;have HR0_1:=A_ hr0_1;have HC0_1:=A_ hc0_1;clear hr0_1 hc0_1;have HB:=A_ (Below.refl w.heap.size w);have H : (spec_ivLevels.l0 k ([] : List Int) (l0_1.length : Int) 0 a0_0 l0_1) = some r:=h;clear h;have H':=A_ H;clear H;go_enter Tryd.func182,Tryd.ntmps182
 go_wp2_with (first|((with_reducible refine gate_dst (N:=1) rfl ?_);refine box_event ?hg (N:=1) ?hd (cs:=#[.int .i64 a0_0,.slice A0_1 l0_1.length c0_1]) (t:=28) ?hr ?_;(case hd=>rfl);(case hg=>rfl);(case hr=>first|(go_simp;done)|(go_simp;rfl));intro gb1257 hg w2 hbox hb;have BK1257:=A_ (hbox);have GW1257:=A_ ((by rw [hg];exact (below_size bb_) : w.heap.size ≤ gb1257));have GE1257:=A_ ((by rw [hg];exact (below_size bb_) : w.heap.size ≤ gb1257));replace HB:=A_ (below_step bb_ hb);clear hb hbox hg;have hcz3_0 : w2.cell? ⟨gb1257,0,none⟩ = some (.int .i64 a0_0):=blk_cell BK1257.out 0;have hcz3_1 : w2.cell? ⟨gb1257,1,none⟩ = some (.slice A0_1 l0_1.length c0_1):=blk_cell BK1257.out 1;have hfz3_0:=blk_frozen BK1257.out 0;have hfz3_1:=blk_frozen BK1257.out 1))
 go_loopg [3,13] k (fun kq v3 v13 w'=>∃ (x3_1 : List Int) (x13_1 : Int),v13 = .int .i64 x13_1 ∧ Aside0 (spec_ivLevels.l0 kq x3_1 (l0_1.length : Int) x13_1 a0_0 l0_1 = some r) ∧ Aside0 (kq ≤ k) ∧ Aside0 (Kd.R (Kd.int .i64) 3 w' w.heap.size (fun _=>True) v3 x3_1) ∧ Aside0 (w'.heap[gb1257]? = some (.cells #[.int .i64 a0_0,(.slice A0_1 l0_1.length c0_1)] 28 (0,0))) ∧ Aside0 (Below w.heap.size w w'))
 case atStart=>exact ⟨(([] : List Int)),(0),(by first|rfl|(simp;done)|(simp [*];done)),H',⟨Nat.le_refl _⟩,⟨by first|exact Kd.R_nil _ _ _ _ _|exact Kd.N_nil _ _ _ _ _|exact Kd.V_nil _ _ _ _ _|exact Kd.Q_nil _ _ _ _ _|exact Kd.S_nil _ _ _ _ _⟩,⟨bl_ BK1257⟩,⟨bb_⟩⟩
 case round =>
  clear H';try clear c1
  try clear p2
  try clear hcz3_0
  try clear hcz3_1
  try clear hfz3_0
  try clear hfz3_1
  obtain ⟨x3_1,x13_1,rfl,HA,HK1,HO_3,BK1257,HB⟩:=hrel;cases gk with
  | zero => exact absurd HA.out (by simp [spec_ivLevels.l0])
  | succ k1 =>
   have H:=HA.out;clear HA;simp only [spec_ivLevels.l0] at H
   by_cases c4 : x13_1 < (l0_1.length : Int)
   ·rw [if_pos c4] at H;have c4b0 : decide (x13_1 < (l0_1.length : Int)) = true:=decide_eq_true c4;clear c4;replace H:=Option.bind_eq_some_iff.mp H;obtain ⟨t1258,A50,H⟩:=H;replace H : ((spec_l1Put.f k1 x3_1 t1258).bind fun t1259=>(spec_ivLevels.l0 k1 t1259 (l0_1.length : Int) (wrap64 (x13_1 + 1)) a0_0 l0_1)) = some r:=H;have A5:=A_ A50;clear A50;replace H:=Option.bind_eq_some_iff.mp H;obtain ⟨t1259,A60,H⟩:=H;replace H : (spec_ivLevels.l0 k1 t1259 (l0_1.length : Int) (wrap64 (x13_1 + 1)) a0_0 l0_1) = some r:=H;have A6:=A_ A60;clear A60;have H':=A_ H;clear H;have hcz7_0 : wr.cell? ⟨gb1257,0,none⟩ = some (.int .i64 a0_0):=blk_cell BK1257.out 0;have hcz7_1 : wr.cell? ⟨gb1257,1,none⟩ = some (.slice A0_1 l0_1.length c0_1):=blk_cell BK1257.out 1;have hfz7_0:=blk_frozen BK1257.out 0;have hfz7_1:=blk_frozen BK1257.out 1;go_wp2_with (first|((with_reducible refine gate_callee (f:=111) rfl ?_);refine goesL_ (some 19) rfl rfl Tryd.func111 (by kernel_rfl) rfl #[.agg #[.int .i64 a0_0,.slice A0_1 l0_1.length c0_1],.int .i64 x13_1] rfl au_ ?_;(with_reducible refine (spec_orBelow.calls k1 a0_0 _ _ l0_1 x13_1 t1258 _ ?side1 ?side2 A5.out).mono ?_);(case side1=>exact cl_ (Kd.C_below HR0_1.out HB.out));(case side2=>exact HC0_1.out);rintro e w8 ⟨rfl,hb⟩;refine ⟨_,rfl,?_⟩;replace HO_3:=rb_ HO_3 hb;replace BK1257:=bz BK1257 hb;replace HB:=A_ (below_step bb_ hb);(try clear hb);(try clear hb2);(try clear hk);(try clear hi);obtain ⟨Ao9,co9,eo9⟩:=Kd.R_slice HO_3.out;subst eo9)|((with_reducible refine gate_callee (f:=193) rfl ?_);refine goesL_ (some 20) rfl rfl Tryd.func193 (by kernel_rfl) rfl #[.slice Ao9 x3_1.length co9,.int .i64 t1258] rfl au_ ?_;(with_reducible refine (spec_l1Put.calls k1 (fun k_=>some k_ = (.slice Ao9 x3_1.length co9 : Value).ownBlock) (.slice Ao9 x3_1.length co9) x3_1 t1258 t1259 w _ ?side1 ?side2 A6.out).mono ?_);(case side1=>repeat (first|(with_reducible first|exact HB.out|apply below_alloc|apply pw_below_drewN|apply below_drew1|refine below_set ?_ (Aside0.out (by assumption)))|exact HB.out));(case side2=>exact Kd.R_tight rfl HO_3.out);rintro e w10 ⟨v1260,rfl,ho0,hb,hkp⟩;refine ⟨_,rfl,?_⟩;replace BK1257:=A_ (blk_kept (bl_ BK1257) hkp (fun hs_=>(fun e_=>(Kd.R_ne HO_3.out BK1257.out (by decide)) e_) hs_));have HO1261:=A_ (Kd.R_mono (ok':=fun k_=>True) ho0 (fun k_ hk_=>trivial));replace HB:=A_ (hb);clear HO_3;(try clear hb);(try clear hkp);(try clear ho0)))
    go_roundg k1
    case measure=>have:=HK1.out;omega
    case rel=>exact ⟨(t1259),(wrap64 (x13_1 + 1)),(by first|rfl|(simp;done)|(simp [*];done)),H',⟨by have:=HK1.out;omega⟩,⟨by (with_reducible repeat (first|apply Kd.R_alloc|apply Kd.R_drewN|apply Kd.R_drew));exact HO1261.out⟩,⟨bl_ BK1257⟩,⟨bb_⟩⟩
   ·rw [if_neg c4] at H;have c4b0 : decide (x13_1 < (l0_1.length : Int)) = false:=decide_eq_false c4;clear c4;have H':=A_ H;clear H;have hcz11_0 : wr.cell? ⟨gb1257,0,none⟩ = some (.int .i64 a0_0):=blk_cell BK1257.out 0;have hcz11_1 : wr.cell? ⟨gb1257,1,none⟩ = some (.slice A0_1 l0_1.length c0_1):=blk_cell BK1257.out 1;have hfz11_0:=blk_frozen BK1257.out 0;have hfz11_1:=blk_frozen BK1257.out 1;go_wp2
    go_loopg [5,25] k1 (fun kq v5 v25 w'=>∃ (x5_2 : List Int) (x25_2 : Int),v25 = .int .i64 x25_2 ∧ Aside0 (spec_ivLevels.l1 kq x3_1 x5_2 (l0_1.length : Int) x25_2 a0_0 l0_1 = some r) ∧ Aside0 (kq ≤ k1) ∧ Aside0 (Kd.R (Kd.int .i64) 3 w' w.heap.size (fun k_=>some k_ ≠ (v5 : Value).ownBlock) u3 x3_1) ∧ Aside0 (Kd.R (Kd.int .i64) 3 w' w.heap.size (fun k_=>some k_ ≠ (u3 : Value).ownBlock) v5 x5_2) ∧ Aside0 (w'.heap[gb1257]? = some (.cells #[.int .i64 a0_0,(.slice A0_1 l0_1.length c0_1)] 28 (0,0))) ∧ Aside0 (Below w.heap.size w w'))
    case atStart=>exact ⟨(([] : List Int)),(0),(by first|rfl|(simp;done)|(simp [*];done)),H',⟨Nat.le_refl _⟩,⟨by (with_reducible repeat (first|apply Kd.R_alloc|apply Kd.R_drewN|apply Kd.R_drew));exact Kd.R_mono HO_3.out (fun _ hk=>(by simp [Value.ownBlock]))⟩,⟨by first|exact Kd.R_nil _ _ _ _ _|exact Kd.N_nil _ _ _ _ _|exact Kd.V_nil _ _ _ _ _|exact Kd.Q_nil _ _ _ _ _|exact Kd.S_nil _ _ _ _ _⟩,⟨bl_ BK1257⟩,⟨bb_⟩⟩
    case round =>
     clear H';try clear c1
     try clear p2
     try clear c4
     try clear c4b0
     try clear p6
     try clear c11
     try clear hcz11_0
     try clear hcz11_1
     try clear hcz3_0
     try clear hcz3_1
     try clear hcz7_0
     try clear hcz7_1
     try clear hfz11_0
     try clear hfz11_1
     try clear hfz3_0
     try clear hfz3_1
     try clear hfz7_0
     try clear hfz7_1
     try clear p2
     obtain ⟨x5_2,x25_2,rfl,HA,HK2,HO_3,HO_5,BK1257,HB⟩:=hrel;cases gk with
     | zero=>exact absurd HA.out (by simp [spec_ivLevels.l1])
     | succ k2 =>
      have H:=HA.out;clear HA;simp only [spec_ivLevels.l1] at H
      by_cases c12 : x25_2 < (l0_1.length : Int)
      ·rw [if_pos c12] at H;have c12b0 : decide (x25_2 < (l0_1.length : Int)) = true:=decide_eq_true c12;clear c12;have H':=A_ H;clear H;obtain ⟨Ao13,co13,eo13⟩:=Kd.R_slice HO_3.out;subst eo13;go_wp2
       go_loopg [7,30] k2 (fun kq v7 v30 w'=>∃ (x7_3 : Int) (x30_3 : Int),v7 = .int .i64 x7_3 ∧ v30 = .int .i64 x30_3 ∧ Aside0 (spec_ivLevels.l2 kq x3_1 x5_2 x25_2 x7_3 (l0_1.length : Int) x25_2 x3_1 (x3_1.length : Int) x30_3 a0_0 l0_1 = some r) ∧ Aside0 (kq ≤ k2) ∧ Aside0 (Kd.R (Kd.int .i64) 3 w' w.heap.size (fun k_=>some k_ ≠ (u5 : Value).ownBlock) (.slice Ao13 x3_1.length co13) x3_1) ∧ Aside0 (Kd.R (Kd.int .i64) 3 w' w.heap.size (fun k_=>some k_ ≠ ((.slice Ao13 x3_1.length co13) : Value).ownBlock ∧ some k_ ≠ ((.slice Ao13 x3_1.length co13) : Value).ownBlock) u5 x5_2) ∧ Aside0 (Kd.R (Kd.int .i64) 3 w' w.heap.size (fun k_=>some k_ ≠ (u5 : Value).ownBlock) (.slice Ao13 x3_1.length co13) x3_1) ∧ Aside0 (w'.heap[gb1257]? = some (.cells #[.int .i64 a0_0,(.slice A0_1 l0_1.length c0_1)] 28 (0,0))) ∧ Aside0 (Below w.heap.size w w'))
       case atStart=>exact ⟨(0),(0),(by first|rfl|(simp;done)|(simp [*];done)),(by first|rfl|(simp;done)|(simp [*];done)),H',⟨Nat.le_refl _⟩,⟨by (with_reducible repeat (first|apply Kd.R_alloc|apply Kd.R_drewN|apply Kd.R_drew));exact HO_3.out⟩,⟨by (with_reducible repeat (first|apply Kd.R_alloc|apply Kd.R_drewN|apply Kd.R_drew));exact Kd.R_mono HO_5.out (fun _ hk=>⟨hk,hk⟩)⟩,⟨by (with_reducible repeat (first|apply Kd.R_alloc|apply Kd.R_drewN|apply Kd.R_drew));exact HO_3.out⟩,⟨bl_ BK1257⟩,⟨bb_⟩⟩
       case round =>
        clear H';try clear c1
        try clear p2
        try clear c4
        try clear c4b0
        try clear p6
        try clear c11
        try clear c12
        try clear c12b0
        try clear hcz11_0
        try clear hcz11_1
        try clear hcz3_0
        try clear hcz3_1
        try clear hcz7_0
        try clear hcz7_1
        try clear hfz11_0
        try clear hfz11_1
        try clear hfz3_0
        try clear hfz3_1
        try clear hfz7_0
        try clear hfz7_1
        try clear p2
        try clear p6
        obtain ⟨x7_3,x30_3,rfl,rfl,HA,HK3,HO_3,HO_5,HO_28,BK1257,HB⟩:=hrel;cases gk with
        | zero=>exact absurd HA.out (by simp [spec_ivLevels.l2])
        | succ k3 =>
         have H:=HA.out;clear HA;simp only [spec_ivLevels.l2] at H
         by_cases c14 : x30_3 < (x3_1.length : Int)
         ·rw [if_pos c14] at H;have c14b0 : decide (x30_3 < (x3_1.length : Int)) = true:=decide_eq_true c14;clear c14;by_cases c15 : 0 ≤ x30_3
          ·rw [if_pos c15] at H;have c15b0 : decide (0 ≤ x30_3) = true:=decide_eq_true c15;clear c15;by_cases c16 : x30_3 < (x3_1.length : Int)
           ·rw [if_pos c16] at H;have c16b0 : decide (x30_3 < (x3_1.length : Int)) = true:=decide_eq_true c16;clear c16;replace H:=Option.bind_eq_some_iff.mp H;obtain ⟨t1266,A170,H⟩:=H;replace H : (if (rd x3_1 x30_3) = t1266 then (spec_ivLevels.l2 k3 x3_1 x5_2 x25_2 x7_3 (l0_1.length : Int) x25_2 x3_1 (x3_1.length : Int) (wrap64 (x30_3 + 1)) a0_0 l0_1) else ((spec_orBelow.f k3 a0_0 l0_1 x25_2).bind fun t1267=>(if (Go.bits .andNot .i64 (rd x3_1 x30_3) t1267) = 0 then (spec_ivLevels.l2 k3 x3_1 x5_2 x25_2 (wrap64 (x7_3 + 1)) (l0_1.length : Int) x25_2 x3_1 (x3_1.length : Int) (wrap64 (x30_3 + 1)) a0_0 l0_1) else (spec_ivLevels.l2 k3 x3_1 x5_2 x25_2 x7_3 (l0_1.length : Int) x25_2 x3_1 (x3_1.length : Int) (wrap64 (x30_3 + 1)) a0_0 l0_1)))) = some r:=H;have A17:=A_ A170;clear A170;by_cases c18 : (rd x3_1 x30_3) = t1266
            ·rw [if_pos c18] at H;have c18b0 : ((rd x3_1 x30_3) == t1266) = true:=beq_iff_eq.mpr c18;have c18b1 : ((rd x3_1 x30_3) != t1266) = false:=bne_eq_false_iff_eq.mpr c18;clear c18;have H':=A_ H;clear H;have p1265 : 0 ≤ (x30_3 : Int):=of_decide_eq_true (by first|(with_reducible assumption)|assumption);have q1265 : x30_3 < (x3_1.length : Int):=of_decide_eq_true (by first|(with_reducible assumption)|assumption);obtain ⟨ad1265,e1265,hx1265_0⟩:=Kd.at_int (Kd.R_reads' HO_28.out).2.2 x30_3 p1265 q1265;cases e1265
             replace p1265:=eq_true p1265;replace q1265:=eq_true q1265;have hcz19_0 : wr.cell? ⟨gb1257,0,none⟩ = some (.int .i64 a0_0):=blk_cell BK1257.out 0;have hcz19_1 : wr.cell? ⟨gb1257,1,none⟩ = some (.slice A0_1 l0_1.length c0_1):=blk_cell BK1257.out 1;have hfz19_0:=blk_frozen BK1257.out 0;have hfz19_1:=blk_frozen BK1257.out 1;go_wp2_with (first|((with_reducible refine gate_callee (f:=111) rfl ?_);refine goesL_ (some 37) rfl rfl Tryd.func111 (by kernel_rfl) rfl #[.agg #[.int .i64 a0_0,.slice A0_1 l0_1.length c0_1],.int .i64 x25_2] rfl au_ ?_;(with_reducible refine (spec_orBelow.calls k3 a0_0 _ _ l0_1 x25_2 t1266 _ ?side1 ?side2 A17.out).mono ?_);(case side1=>exact cl_ (Kd.C_below HR0_1.out HB.out));(case side2=>exact HC0_1.out);rintro e w20 ⟨rfl,hb⟩;refine ⟨_,rfl,?_⟩;replace HO_3:=rb_ HO_3 hb;replace HO_5:=rb_ HO_5 hb;replace HO_28:=rb_ HO_28 hb;replace BK1257:=bz BK1257 hb;replace HB:=A_ (below_step bb_ hb);(try clear hb);(try clear hb2);(try clear hk);(try clear hi)))
             go_roundg k3
             case measure=>have:=HK1.out;have:=HK2.out;have:=HK3.out;omega
             case rel=>exact ⟨(x7_3),(wrap64 (x30_3 + 1)),(by first|rfl|(simp;done)|(simp [*];done)),(by first|rfl|(simp;done)|(simp [*];done)),H',⟨by have:=HK1.out;have:=HK2.out;have:=HK3.out;omega⟩,⟨by (with_reducible repeat (first|apply Kd.R_alloc|apply Kd.R_drewN|apply Kd.R_drew));exact HO_3.out⟩,⟨by (with_reducible repeat (first|apply Kd.R_alloc|apply Kd.R_drewN|apply Kd.R_drew));exact HO_5.out⟩,⟨by (with_reducible repeat (first|apply Kd.R_alloc|apply Kd.R_drewN|apply Kd.R_drew));exact HO_28.out⟩,⟨bl_ BK1257⟩,⟨bb_⟩⟩
            ·rw [if_neg c18] at H;have c18b0 : ((rd x3_1 x30_3) == t1266) = false:=beq_eq_false_iff_ne.mpr c18;have c18b1 : ((rd x3_1 x30_3) != t1266) = true:=bne_iff_ne.mpr c18;replace H:=Option.bind_eq_some_iff.mp H;obtain ⟨t1267,A210,H⟩:=H;replace H : (if (Go.bits .andNot .i64 (rd x3_1 x30_3) t1267) = 0 then (spec_ivLevels.l2 k3 x3_1 x5_2 x25_2 (wrap64 (x7_3 + 1)) (l0_1.length : Int) x25_2 x3_1 (x3_1.length : Int) (wrap64 (x30_3 + 1)) a0_0 l0_1) else (spec_ivLevels.l2 k3 x3_1 x5_2 x25_2 x7_3 (l0_1.length : Int) x25_2 x3_1 (x3_1.length : Int) (wrap64 (x30_3 + 1)) a0_0 l0_1)) = some r:=H;have A21:=A_ A210;clear A210;by_cases c22 : (Go.bits .andNot .i64 (rd x3_1 x30_3) t1267) = 0
             ·rw [if_pos c22] at H;have c22b0 : ((Go.bits .andNot .i64 (rd x3_1 x30_3) t1267) == 0) = true:=beq_iff_eq.mpr c22;have c22b1 : ((Go.bits .andNot .i64 (rd x3_1 x30_3) t1267) != 0) = false:=bne_eq_false_iff_eq.mpr c22;clear c22;have H':=A_ H;clear H;have p1265 : 0 ≤ (x30_3 : Int):=of_decide_eq_true (by first|(with_reducible assumption)|assumption);have q1265 : x30_3 < (x3_1.length : Int):=of_decide_eq_true (by first|(with_reducible assumption)|assumption);obtain ⟨ad1265,e1265,hx1265_0⟩:=Kd.at_int (Kd.R_reads' HO_28.out).2.2 x30_3 p1265 q1265;cases e1265
              replace p1265:=eq_true p1265;replace q1265:=eq_true q1265;have hcz23_0 : wr.cell? ⟨gb1257,0,none⟩ = some (.int .i64 a0_0):=blk_cell BK1257.out 0;have hcz23_1 : wr.cell? ⟨gb1257,1,none⟩ = some (.slice A0_1 l0_1.length c0_1):=blk_cell BK1257.out 1;have hfz23_0:=blk_frozen BK1257.out 0;have hfz23_1:=blk_frozen BK1257.out 1;go_wp2_with (first|((with_reducible refine gate_callee (f:=111) rfl ?_);refine goesL_ (some 37) rfl rfl Tryd.func111 (by kernel_rfl) rfl #[.agg #[.int .i64 a0_0,.slice A0_1 l0_1.length c0_1],.int .i64 x25_2] rfl au_ ?_;(with_reducible refine (spec_orBelow.calls k3 a0_0 _ _ l0_1 x25_2 t1266 _ ?side1 ?side2 A17.out).mono ?_);(case side1=>exact cl_ (Kd.C_below HR0_1.out HB.out));(case side2=>exact HC0_1.out);rintro e w24 ⟨rfl,hb⟩;refine ⟨_,rfl,?_⟩;replace HO_3:=rb_ HO_3 hb;replace HO_5:=rb_ HO_5 hb;replace HO_28:=rb_ HO_28 hb;replace BK1257:=bz BK1257 hb;replace HB:=A_ (below_step bb_ hb);(try clear hb);(try clear hb2);(try clear hk);(try clear hi);have hcz25_0 : w24.cell? ⟨gb1257,0,none⟩ = some (.int .i64 a0_0):=blk_cell BK1257.out 0;have hcz25_1 : w24.cell? ⟨gb1257,1,none⟩ = some (.slice A0_1 l0_1.length c0_1):=blk_cell BK1257.out 1;have hfz25_0:=blk_frozen BK1257.out 0;have hfz25_1:=blk_frozen BK1257.out 1)|(go_at_call 111;(with_reducible refine (spec_orBelow.calls k3 a0_0 _ _ l0_1 x25_2 t1267 _ ?side1 ?side2 A21.out).mono ?_);(case side1=>exact cl_ (Kd.C_below HR0_1.out HB.out));(case side2=>exact HC0_1.out);rintro e w26 ⟨rfl,hb⟩;replace HO_3:=rb_ HO_3 hb;replace HO_5:=rb_ HO_5 hb;replace HO_28:=rb_ HO_28 hb;replace BK1257:=bz BK1257 hb;replace HB:=A_ (below_step bb_ hb);(try clear hb);(try clear hb2);(try clear hk);(try clear hi)))
              go_roundg k3
              case measure=>have:=HK1.out;have:=HK2.out;have:=HK3.out;omega
              case rel=>exact ⟨(wrap64 (x7_3 + 1)),(wrap64 (x30_3 + 1)),(by first|rfl|(simp;done)|(simp [*];done)),(by first|rfl|(simp;done)|(simp [*];done)),H',⟨by have:=HK1.out;have:=HK2.out;have:=HK3.out;omega⟩,⟨by (with_reducible repeat (first|apply Kd.R_alloc|apply Kd.R_drewN|apply Kd.R_drew));exact HO_3.out⟩,⟨by (with_reducible repeat (first|apply Kd.R_alloc|apply Kd.R_drewN|apply Kd.R_drew));exact HO_5.out⟩,⟨by (with_reducible repeat (first|apply Kd.R_alloc|apply Kd.R_drewN|apply Kd.R_drew));exact HO_28.out⟩,⟨bl_ BK1257⟩,⟨bb_⟩⟩
             ·rw [if_neg c22] at H;have c22b0 : ((Go.bits .andNot .i64 (rd x3_1 x30_3) t1267) == 0) = false:=beq_eq_false_iff_ne.mpr c22;have c22b1 : ((Go.bits .andNot .i64 (rd x3_1 x30_3) t1267) != 0) = true:=bne_iff_ne.mpr c22;have H':=A_ H;clear H;have p1265 : 0 ≤ (x30_3 : Int):=of_decide_eq_true (by first|(with_reducible assumption)|assumption);have q1265 : x30_3 < (x3_1.length : Int):=of_decide_eq_true (by first|(with_reducible assumption)|assumption);obtain ⟨ad1265,e1265,hx1265_0⟩:=Kd.at_int (Kd.R_reads' HO_28.out).2.2 x30_3 p1265 q1265;cases e1265
              replace p1265:=eq_true p1265;replace q1265:=eq_true q1265;have hcz27_0 : wr.cell? ⟨gb1257,0,none⟩ = some (.int .i64 a0_0):=blk_cell BK1257.out 0;have hcz27_1 : wr.cell? ⟨gb1257,1,none⟩ = some (.slice A0_1 l0_1.length c0_1):=blk_cell BK1257.out 1;have hfz27_0:=blk_frozen BK1257.out 0;have hfz27_1:=blk_frozen BK1257.out 1;go_wp2_with (first|((with_reducible refine gate_callee (f:=111) rfl ?_);refine goesL_ (some 37) rfl rfl Tryd.func111 (by kernel_rfl) rfl #[.agg #[.int .i64 a0_0,.slice A0_1 l0_1.length c0_1],.int .i64 x25_2] rfl au_ ?_;(with_reducible refine (spec_orBelow.calls k3 a0_0 _ _ l0_1 x25_2 t1266 _ ?side1 ?side2 A17.out).mono ?_);(case side1=>exact cl_ (Kd.C_below HR0_1.out HB.out));(case side2=>exact HC0_1.out);rintro e w28 ⟨rfl,hb⟩;refine ⟨_,rfl,?_⟩;replace HO_3:=rb_ HO_3 hb;replace HO_5:=rb_ HO_5 hb;replace HO_28:=rb_ HO_28 hb;replace BK1257:=bz BK1257 hb;replace HB:=A_ (below_step bb_ hb);(try clear hb);(try clear hb2);(try clear hk);(try clear hi);have hcz29_0 : w28.cell? ⟨gb1257,0,none⟩ = some (.int .i64 a0_0):=blk_cell BK1257.out 0;have hcz29_1 : w28.cell? ⟨gb1257,1,none⟩ = some (.slice A0_1 l0_1.length c0_1):=blk_cell BK1257.out 1;have hfz29_0:=blk_frozen BK1257.out 0;have hfz29_1:=blk_frozen BK1257.out 1)|(go_at_call 111;(with_reducible refine (spec_orBelow.calls k3 a0_0 _ _ l0_1 x25_2 t1267 _ ?side1 ?side2 A21.out).mono ?_);(case side1=>exact cl_ (Kd.C_below HR0_1.out HB.out));(case side2=>exact HC0_1.out);rintro e w30 ⟨rfl,hb⟩;replace HO_3:=rb_ HO_3 hb;replace HO_5:=rb_ HO_5 hb;replace HO_28:=rb_ HO_28 hb;replace BK1257:=bz BK1257 hb;replace HB:=A_ (below_step bb_ hb);(try clear hb);(try clear hb2);(try clear hk);(try clear hi)))
              go_roundg k3
              case measure=>have:=HK1.out;have:=HK2.out;have:=HK3.out;omega
              case rel=>exact ⟨(x7_3),(wrap64 (x30_3 + 1)),(by first|rfl|(simp;done)|(simp [*];done)),(by first|rfl|(simp;done)|(simp [*];done)),H',⟨by have:=HK1.out;have:=HK2.out;have:=HK3.out;omega⟩,⟨by (with_reducible repeat (first|apply Kd.R_alloc|apply Kd.R_drewN|apply Kd.R_drew));exact HO_3.out⟩,⟨by (with_reducible repeat (first|apply Kd.R_alloc|apply Kd.R_drewN|apply Kd.R_drew));exact HO_5.out⟩,⟨by (with_reducible repeat (first|apply Kd.R_alloc|apply Kd.R_drewN|apply Kd.R_drew));exact HO_28.out⟩,⟨bl_ BK1257⟩,⟨bb_⟩⟩
           ·rw [if_neg c16] at H;exact absurd H (by simp)
          ·rw [if_neg c15] at H;exact absurd H (by simp)
         ·rw [if_neg c14] at H;have c14b0 : decide (x30_3 < (x3_1.length : Int)) = false:=decide_eq_false c14;clear c14;by_cases c31 : x5_2.length < 17592186044416
          ·rw [if_pos c31] at H;have LMc31:=A_ c31;clear c31;obtain ⟨y1262,hy1262⟩ : ∃ y_ : List Int,y_ = (x5_2 ++ [x7_3]):=⟨_,rfl⟩;replace H : (spec_ivLevels.l1 k3 x3_1 y1262 (l0_1.length : Int) (wrap64 (x25_2 + 1)) a0_0 l0_1) = some r:=by first|(rw [hy1262];with_reducible exact H)|(have H2_:=(Option.bind_some _ _).symm.trans H;rw [hy1262];with_reducible exact H2_)|(have H2_:=(Option.bind_some _ _).symm.trans H;with_reducible exact H2_)|with_reducible exact H|(rw [hy1262];exact H)|exact H
           have Ny1262:=A_ hy1262;clear hy1262;have H':=A_ H;clear H;go_wp2_with (first|((with_reducible refine gate_builtin (b:=.append) (xs:=#[.tmp 50,.tmp 52]) rfl ?_);at_builtin;refine Kd.R_append (Kd.int .i64) (w0:=w) w.heap.size rfl (.tmp 50) (.tmp 52) 22 3 (.int .i64 0) 8 rfl Tryd.underlying22 info3 rfl (by decide) (by omega) u5 x5_2 x7_3 [.int .i64 x7_3] (fun k_=>some k_ ≠ (.slice Ao13 x3_1.length co13 : Value).ownBlock ∧ some k_ ≠ (.slice Ao13 x3_1.length co13 : Value).ownBlock) (fun _=>False) rfl rfl ?aP (fun _ hk=>hk.elim) ?aF ?aO ?aB ?aS ?aL ?_;(case aP=>exact rfl);(case aB=>exact bb_);(case aF=>exact (fun k_ hk=>⟨Kd.fresh' (Kd.R_lt (rl_ HO_3)) k_ hk,Kd.fresh' (Kd.R_lt (rl_ HO_28)) k_ hk⟩));(case aO=>exact (rl_ HO_5));(case aS=>exact (below_size bb_));(case aL=>have:=LMc31.out;omega);intro v1263 w32 ho hb hg hat;rw [← Ny1262.out] at ho;replace HO_3:=A_ (Kd.R_after (ok:=(fun _=>True)) (by (with_reducible repeat (first|apply Kd.R_alloc|apply Kd.R_drewN|apply Kd.R_drew));exact Kd.R_mono HO_3.out (fun _ hk=>⟨trivial,hk⟩)) hg hat);replace HO_28:=A_ (Kd.R_after (ok:=(fun _=>True)) (by (with_reducible repeat (first|apply Kd.R_alloc|apply Kd.R_drewN|apply Kd.R_drew));exact Kd.R_mono HO_28.out (fun _ hk=>⟨trivial,hk⟩)) hg hat);replace BK1257:=A_ (blk_grown (g:=gb1257) (o:=.cells #[.int .i64 a0_0,.slice A0_1 l0_1.length c0_1] 28 (0,0)) (bl_ BK1257) hg (Kd.R_ne HO_5.out BK1257.out (by decide)));replace HB:=A_ (hb);have HO1264:=A_ (ho);clear HO_5;clear ho hb hg hat))
           go_roundg k3
           case measure=>have:=HK1.out;have:=HK2.out;have:=HK3.out;omega
           case rel=>exact ⟨(y1262),(wrap64 (x25_2 + 1)),(by first|rfl|(simp;done)|(simp [*];done)),H',⟨by have:=HK1.out;have:=HK2.out;have:=HK3.out;omega⟩,⟨by (with_reducible repeat (first|apply Kd.R_alloc|apply Kd.R_drewN|apply Kd.R_drew));exact Kd.R_mono HO_3.out (fun _ hk=>hk.2)⟩,⟨by (with_reducible repeat (first|apply Kd.R_alloc|apply Kd.R_drewN|apply Kd.R_drew));exact Kd.R_mono HO1264.out (fun _ hk=>hk.1)⟩,⟨bl_ BK1257⟩,⟨bb_⟩⟩
          ·rw [if_neg c31] at H;exact absurd H (by simp)
      ·rw [if_neg c12] at H;have c12b0 : decide (x25_2 < (l0_1.length : Int)) = false:=decide_eq_false c12;clear c12;obtain rfl:=Option.some.inj H;go_wp2
       go_ret
       exact ⟨_,by first|rfl|(simp [errW_none,errW_some] <;> rfl)|(simp [*,errW_none,errW_some] <;> rfl),by (with_reducible repeat (first|apply Kd.R_alloc|apply Kd.R_drewN|apply Kd.R_drew));exact Kd.R_mono HO_5.out (fun _ hk=>trivial),bb_⟩
mutual
def spec_ivEnds.l0 : Nat → List Int → List (S62) → List Int → Int → Int → Int → List Int → Option ((List (S62)))
 | 0,_,_,_,_,_,_,_=>none
 | k + 1,x3,x4,x12,x13,x14,x1269000,x1269001=>if x14 < x13 then (if 0 ≤ x14 then (if x14 < (x12.length : Int) then (spec_ivEnds.l1 k x3 x4 x14 x12 x13 x14 x3 (x3.length : Int) 0 x1269000 x1269001 (rd x12 x14) (rd x12 x14)) else (none)) else (none)) else (some x4)
def spec_ivEnds.l1 : Nat → List Int → List (S62) → Int → List Int → Int → Int → List Int → Int → Int → Int → List Int → Int → Int → Option ((List (S62)))
 | 0,_,_,_,_,_,_,_,_,_,_,_,_,_=>none
 | k + 1,x3,x4,x5,x12,x13,x14,x22,x23,x24,x1269000,x1269001,x1274000,x1274001=>if x24 < x23 then (if 0 ≤ x24 then (if x24 < (x22.length : Int) then (if 0 ≤ x5 then (if x5 < (x1269001.length : Int) then ((spec_orHas.f (rd x1269001 x5) x24).bind fun t1279=>(if t1279 = true then (spec_ivEnds.l1 k x3 x4 x5 x12 x13 x14 x22 x23 (wrap64 (x24 + 1)) x1269000 x1269001 x1274000 x1274001) else ((spec_l1Most.f x1274001 (rd x22 x24)).bind fun t1280=>(spec_ivEnds.l1 k x3 x4 x5 x12 x13 x14 x22 x23 (wrap64 (x24 + 1)) x1269000 x1269001 x1274000 t1280)))) else (none)) else (none)) else (none)) else (none)) else (if x4.length < 8796093022208 then (spec_ivEnds.l0 k x3 (x4 ++ [(⟨x1274000,x1274001⟩ : S62)]) x12 x13 (wrap64 (x14 + 1)) x1269000 x1269001) else (none))
end
def spec_ivEnds.f (k : Nat) (a0_0 : Int) (l0_1 : List Int) : Option ((List (S62))) := (spec_ivLevels.f k a0_0 l0_1).bind fun t1269 => (spec_ivEnds.l0 k t1269 ([] : List (S62)) t1269 (t1269.length : Int) 0 a0_0 l0_1)
set_option maxHeartbeats 8000000 in
set_option maxRecDepth 100000 in
theorem spec_ivEnds.calls (k : Nat) (a0_0 : Int) (A0_1 : Option Addr) (c0_1 : Nat) (l0_1 : List Int) (r : List (S62)) (w : World) (hr0_1 : Kd.C (Kd.int .i64) w A0_1 l0_1.length l0_1) (hc0_1 : l0_1.length ≤ c0_1) (h : spec_ivEnds.f k a0_0 l0_1 = some r) :
 Calls Tryd.prog 137 #[.agg #[.int .i64 a0_0,.slice A0_1 l0_1.length c0_1]] w fun e w'=>∃ v0_ : Value,e = .returned (v0_) ∧ Kd.R k62 62 w' w.heap.size (fun _=>True) v0_ r ∧ Below w.heap.size w w':=by
 have hu28:=Tryd.underlying28;have hu62:=Tryd.underlying62;have HR0_1:=A_ hr0_1;have HC0_1:=A_ hc0_1;clear hr0_1 hc0_1;have HB:=A_ (Below.refl w.heap.size w);have H : ((spec_ivLevels.f k a0_0 l0_1).bind fun t1269=>(spec_ivEnds.l0 k t1269 ([] : List (S62)) t1269 (t1269.length : Int) 0 a0_0 l0_1)) = some r:=h;clear h;replace H:=Option.bind_eq_some_iff.mp H;obtain ⟨t1269,A20,H⟩:=H;replace H : (spec_ivEnds.l0 k t1269 ([] : List (S62)) t1269 (t1269.length : Int) 0 a0_0 l0_1) = some r:=H;have A2:=A_ A20;clear A20;have H':=A_ H;clear H;go_enter Tryd.func137,Tryd.ntmps137
 go_wp2_with (first|((with_reducible refine gate_dst (N:=1) rfl ?_);refine box_event ?hg (N:=1) ?hd (cs:=#[.int .i64 a0_0,.slice A0_1 l0_1.length c0_1]) (t:=28) ?hr ?_;(case hd=>rfl);(case hg=>rfl);(case hr=>first|(go_simp;done)|(go_simp;rfl));intro gb1268 hg w3 hbox hb;have BK1268:=A_ (hbox);have GW1268:=A_ ((by rw [hg];exact (below_size bb_) : w.heap.size ≤ gb1268));have GE1268:=A_ ((by rw [hg];exact (below_size bb_) : w.heap.size ≤ gb1268));replace HB:=A_ (below_step bb_ hb);clear hb hbox hg;have hcz4_0 : w3.cell? ⟨gb1268,0,none⟩ = some (.int .i64 a0_0):=blk_cell BK1268.out 0;have hcz4_1 : w3.cell? ⟨gb1268,1,none⟩ = some (.slice A0_1 l0_1.length c0_1):=blk_cell BK1268.out 1;have hfz4_0:=blk_frozen BK1268.out 0;have hfz4_1:=blk_frozen BK1268.out 1)|((with_reducible refine gate_callee (f:=182) rfl ?_);refine goesL_ (some 11) rfl rfl Tryd.func182 (by kernel_rfl) rfl #[.agg #[.int .i64 a0_0,.slice A0_1 l0_1.length c0_1]] rfl au_ ?_;(with_reducible refine (spec_ivLevels.calls k a0_0 _ _ l0_1 t1269 _ ?side1 ?side2 A2.out).mono ?_);(case side1=>exact cl_ (Kd.C_below HR0_1.out HB.out));(case side2=>exact HC0_1.out);rintro e w5 ⟨v1270,rfl,ho0,hb⟩;refine ⟨_,rfl,?_⟩;have HO1271:=A_ (Kd.R_lower ho0 (below_size bb_));replace BK1268:=bz BK1268 hb;replace HB:=A_ (below_step bb_ hb);(try clear hb);(try clear hb2);(try clear hk);(try clear hi);(try clear ho0);obtain ⟨Ao6,co6,eo6⟩:=Kd.R_slice HO1271.out;subst eo6))
 go_loopg [4,14] k (fun kq v4 v14 w'=>∃ (x4_1 : List (S62)) (x14_1 : Int),v14 = .int .i64 x14_1 ∧ Aside0 (spec_ivEnds.l0 kq t1269 x4_1 t1269 (t1269.length : Int) x14_1 a0_0 l0_1 = some r) ∧ Aside0 (kq ≤ k) ∧ Aside0 (Kd.R (Kd.int .i64) 3 w' w.heap.size (fun _=>True) (.slice Ao6 t1269.length co6) t1269) ∧ Aside0 (Kd.R k62 62 w' w.heap.size (fun _=>True) v4 x4_1) ∧ Aside0 (Kd.R (Kd.int .i64) 3 w' w.heap.size (fun _=>True) (.slice Ao6 t1269.length co6) t1269) ∧ Aside0 (w'.heap[gb1268]? = some (.cells #[.int .i64 a0_0,(.slice A0_1 l0_1.length c0_1)] 28 (0,0))) ∧ Aside0 (Below w.heap.size w w'))
 case atStart=>exact ⟨(([] : List (S62))),(0),(by first|rfl|(simp;done)|(simp [*];done)),H',⟨Nat.le_refl _⟩,⟨by (with_reducible repeat (first|apply Kd.R_alloc|apply Kd.R_drewN|apply Kd.R_drew));exact HO1271.out⟩,⟨by first|exact Kd.R_nil _ _ _ _ _|exact Kd.N_nil _ _ _ _ _|exact Kd.V_nil _ _ _ _ _|exact Kd.Q_nil _ _ _ _ _|exact Kd.S_nil _ _ _ _ _⟩,⟨by (with_reducible repeat (first|apply Kd.R_alloc|apply Kd.R_drewN|apply Kd.R_drew));exact HO1271.out⟩,⟨bl_ BK1268⟩,⟨bb_⟩⟩
 case round =>
  clear H';try clear c1
  try clear p2
  try clear hcz4_0
  try clear hcz4_1
  try clear hfz4_0
  try clear hfz4_1
  obtain ⟨x4_1,x14_1,rfl,HA,HK1,HO_3,HO_4,HO_12,BK1268,HB⟩:=hrel;cases gk with
  | zero => exact absurd HA.out (by simp [spec_ivEnds.l0])
  | succ k1 =>
   have H:=HA.out;clear HA;simp only [spec_ivEnds.l0] at H
   by_cases c7 : x14_1 < (t1269.length : Int)
   ·rw [if_pos c7] at H;have c7b0 : decide (x14_1 < (t1269.length : Int)) = true:=decide_eq_true c7;clear c7;by_cases c8 : 0 ≤ x14_1
    ·rw [if_pos c8] at H;have c8b0 : decide (0 ≤ x14_1) = true:=decide_eq_true c8;clear c8;by_cases c9 : x14_1 < (t1269.length : Int)
     ·rw [if_pos c9] at H;have c9b0 : decide (x14_1 < (t1269.length : Int)) = true:=decide_eq_true c9;clear c9;have H':=A_ H;clear H;have p1272 : 0 ≤ (x14_1 : Int):=of_decide_eq_true (by first|(with_reducible assumption)|assumption);have q1272 : x14_1 < (t1269.length : Int):=of_decide_eq_true (by first|(with_reducible assumption)|assumption);obtain ⟨ad1272,e1272,hx1272_0⟩:=Kd.at_int (Kd.R_reads' HO_12.out).2.2 x14_1 p1272 q1272;cases e1272
      replace p1272:=eq_true p1272;replace q1272:=eq_true q1272;go_wp2_with (first|((with_reducible refine gate_dst (N:=7) rfl ?_);refine box_event ?hg (N:=7) ?hd (cs:=#[.int .i64 0,.int .i64 0]) (t:=62) ?hr ?_;(case hd=>rfl);(case hg=>rfl);(case hr=>first|(go_simp;done)|(go_simp;rfl));intro gb1273 hg w10 hbox hb;replace HO_3:=rb_ HO_3 hb;replace HO_4:=A_ (Kd.R_below (Kd.R_elderB (rl_ HO_4) gb1273 (Nat.le_of_eq hg.symm)) hb);replace HO_12:=rb_ HO_12 hb;have BK1273:=A_ (hbox);have GW1273:=A_ ((by rw [hg];exact (below_size bb_) : w.heap.size ≤ gb1273));have GE1273:=A_ ((by rw [hg];exact (below_size bb_) : w.heap.size ≤ gb1273));replace HB:=A_ (below_step bb_ hb);have NB1268_1273:=A_ ((by rw [hg];exact Nat.ne_of_lt (blk_lt (bl_ BK1268)) : gb1268 ≠ gb1273));have NB1273_1268:=A_ ((by rw [hg];exact Nat.ne_of_gt (blk_lt (bl_ BK1268)) : gb1273 ≠ gb1268));replace BK1268:=bz BK1268 hb;clear hb hbox hg;have hnb11:=NB1273_1268.out;have hnc11:=NB1268_1273.out;have hcz12_0 : w10.cell? ⟨gb1273,0,none⟩ = some (.int .i64 0):=blk_cell BK1273.out 0;have hcz12_1 : w10.cell? ⟨gb1273,1,none⟩ = some (.int .i64 0):=blk_cell BK1273.out 1;have hfz12_0:=blk_frozen BK1273.out 0;have hfz12_1:=blk_frozen BK1273.out 1))
      go_loopg [24] k1 (fun kq v24 w'=>∃ (x24_2 : Int) (x1274001_2 : Int),v24 = .int .i64 x24_2 ∧ Aside0 (spec_ivEnds.l1 kq t1269 x4_1 x14_1 t1269 (t1269.length : Int) x14_1 t1269 (t1269.length : Int) x24_2 a0_0 l0_1 (rd t1269 x14_1) x1274001_2 = some r) ∧ Aside0 (kq ≤ k1) ∧ Aside0 (Kd.R (Kd.int .i64) 3 w' w.heap.size (fun _=>True) (.slice (some ad1272) t1269.length co6) t1269) ∧ Aside0 (Kd.R k62 62 w' w.heap.size (fun k_=>k_ ≠ gb1273) u4 x4_1) ∧ Aside0 (Kd.R (Kd.int .i64) 3 w' w.heap.size (fun _=>True) (.slice (some ad1272) t1269.length co6) t1269) ∧ Aside0 (Kd.R (Kd.int .i64) 3 w' w.heap.size (fun _=>True) (.slice (some ad1272) t1269.length co6) t1269) ∧ Aside0 (w'.heap[gb1268]? = some (.cells #[.int .i64 a0_0,(.slice A0_1 l0_1.length c0_1)] 28 (0,0))) ∧ Aside0 (w'.heap[gb1273]? = some (.cells #[.int .i64 (rd t1269 x14_1),.int .i64 x1274001_2] 62 (0,0))) ∧ Aside0 (Below w.heap.size w w'))
      case atStart=>exact ⟨(0),(rd t1269 x14_1),(by first|rfl|(simp;done)|(simp [*];done)),H',⟨Nat.le_refl _⟩,⟨by (with_reducible repeat (first|apply Kd.R_alloc|apply Kd.R_drewN|apply Kd.R_drew));exact Kd.R_mono (Kd.R_far (p:=⟨gb1273,1,none⟩) (Kd.R_far (p:=⟨gb1273,0,none⟩) (Kd.R_types HO_3.out BK1273.out (by decide)) (fun _ hk=>hk.2) (.int .i64 (rd t1269 x14_1))) (fun _ hk=>hk.2) (.int .i64 (rd t1269 x14_1))) (fun _ hk=>trivial)⟩,⟨by (with_reducible repeat (first|apply Kd.R_alloc|apply Kd.R_drewN|apply Kd.R_drew));exact Kd.R_mono (Kd.R_far (p:=⟨gb1273,1,none⟩) (Kd.R_far (p:=⟨gb1273,0,none⟩) (Kd.R_mono HO_4.out (fun k_ hk=>(⟨hk,hk.2⟩ : _ ∧ k_ ≠ gb1273))) (fun _ hk=>hk.2) (.int .i64 (rd t1269 x14_1))) (fun _ hk=>hk.2) (.int .i64 (rd t1269 x14_1))) (fun _ hk=>hk.1.2)⟩,⟨by (with_reducible repeat (first|apply Kd.R_alloc|apply Kd.R_drewN|apply Kd.R_drew));exact Kd.R_mono (Kd.R_far (p:=⟨gb1273,1,none⟩) (Kd.R_far (p:=⟨gb1273,0,none⟩) (Kd.R_types HO_12.out BK1273.out (by decide)) (fun _ hk=>hk.2) (.int .i64 (rd t1269 x14_1))) (fun _ hk=>hk.2) (.int .i64 (rd t1269 x14_1))) (fun _ hk=>trivial)⟩,⟨by (with_reducible repeat (first|apply Kd.R_alloc|apply Kd.R_drewN|apply Kd.R_drew));exact Kd.R_mono (Kd.R_far (p:=⟨gb1273,1,none⟩) (Kd.R_far (p:=⟨gb1273,0,none⟩) (Kd.R_types HO_3.out BK1273.out (by decide)) (fun _ hk=>hk.2) (.int .i64 (rd t1269 x14_1))) (fun _ hk=>hk.2) (.int .i64 (rd t1269 x14_1))) (fun _ hk=>trivial)⟩,⟨by (with_reducible repeat (first|refine blk_drewN ?_ _|refine blk_drew ?_|refine blk_alloc ?_ _));refine blk_far ?_ NB1268_1273.out _;(with_reducible repeat (first|refine blk_drewN ?_ _|refine blk_drew ?_|refine blk_alloc ?_ _));refine blk_far ?_ NB1268_1273.out _;(with_reducible repeat (first|refine blk_drewN ?_ _|refine blk_drew ?_|refine blk_alloc ?_ _));exact BK1268.out⟩,⟨by (with_reducible repeat (first|refine blk_drewN ?_ _|refine blk_drew ?_|refine blk_alloc ?_ _));refine blk_put (cs:=#[.int .i64 (rd t1269 x14_1),.int .i64 0]) ?_ 1 _ rfl;(with_reducible repeat (first|refine blk_drewN ?_ _|refine blk_drew ?_|refine blk_alloc ?_ _));refine blk_put (cs:=#[.int .i64 0,.int .i64 0]) ?_ 0 _ rfl;(with_reducible repeat (first|refine blk_drewN ?_ _|refine blk_drew ?_|refine blk_alloc ?_ _));exact BK1273.out⟩,⟨bb_⟩⟩
      case round =>
       clear H';try clear c1
       try clear p1
       try clear q1
       try clear hx1
       try clear p2
       try clear c7
       try clear c7b0
       try clear c8
       try clear c8b0
       try clear c9
       try clear c9b0
       try clear c11
       try clear p12
       try clear q12
       try clear hx12
       try clear hcz12_0
       try clear hcz12_1
       try clear hcz4_0
       try clear hcz4_1
       try clear hfz12_0
       try clear hfz12_1
       try clear hfz4_0
       try clear hfz4_1
       try clear hx1272_0
       try clear p1272
       try clear p2
       try clear q1272
       obtain ⟨x24_2,x1274001_2,rfl,HA,HK2,HO_3,HO_4,HO_12,HO_22,BK1268,BK1273,HB⟩:=hrel;cases gk with
       | zero=>exact absurd HA.out (by simp [spec_ivEnds.l1])
       | succ k2 =>
        have H:=HA.out;clear HA;simp only [spec_ivEnds.l1] at H
        by_cases c13 : x24_2 < (t1269.length : Int)
        ·rw [if_pos c13] at H;have c13b0 : decide (x24_2 < (t1269.length : Int)) = true:=decide_eq_true c13;clear c13;by_cases c14 : 0 ≤ x24_2
         ·rw [if_pos c14] at H;have c14b0 : decide (0 ≤ x24_2) = true:=decide_eq_true c14;clear c14;by_cases c15 : x24_2 < (t1269.length : Int)
          ·rw [if_pos c15] at H;have c15b0 : decide (x24_2 < (t1269.length : Int)) = true:=decide_eq_true c15;clear c15;by_cases c16 : 0 ≤ x14_1
           ·rw [if_pos c16] at H;have c16b0 : decide (0 ≤ x14_1) = true:=decide_eq_true c16;clear c16;by_cases c17 : x14_1 < (l0_1.length : Int)
            ·rw [if_pos c17] at H;have c17b0 : decide (x14_1 < (l0_1.length : Int)) = true:=decide_eq_true c17;clear c17;replace H:=Option.bind_eq_some_iff.mp H;obtain ⟨t1279,A180,H⟩:=H;replace H : (if t1279 = true then (spec_ivEnds.l1 k2 t1269 x4_1 x14_1 t1269 (t1269.length : Int) x14_1 t1269 (t1269.length : Int) (wrap64 (x24_2 + 1)) a0_0 l0_1 (rd t1269 x14_1) x1274001_2) else ((spec_l1Most.f x1274001_2 (rd t1269 x24_2)).bind fun t1280=>(spec_ivEnds.l1 k2 t1269 x4_1 x14_1 t1269 (t1269.length : Int) x14_1 t1269 (t1269.length : Int) (wrap64 (x24_2 + 1)) a0_0 l0_1 (rd t1269 x14_1) t1280))) = some r:=H;have A18:=A_ A180;clear A180;by_cases c19 : t1279 = true
             ·subst c19;have H1 : (spec_ivEnds.l1 k2 t1269 x4_1 x14_1 t1269 (t1269.length : Int) x14_1 t1269 (t1269.length : Int) (wrap64 (x24_2 + 1)) a0_0 l0_1 (rd t1269 x14_1) x1274001_2) = some r:=by rw [if_pos rfl] at H;exact H
              clear H;have H:=H1;clear H1;have H':=A_ H;clear H;have p1277 : 0 ≤ (x24_2 : Int):=of_decide_eq_true (by first|(with_reducible assumption)|assumption);have q1277 : x24_2 < (t1269.length : Int):=of_decide_eq_true (by first|(with_reducible assumption)|assumption);obtain ⟨ad1277,e1277,hx1277_0⟩:=Kd.at_int (Kd.R_reads' HO_22.out).2.2 x24_2 p1277 q1277;obtain rfl : ad1272 = ad1277:=(by injection e1277);replace p1277:=eq_true p1277;replace q1277:=eq_true q1277;have hnb20:=NB1268_1273.out;have hnc20:=NB1273_1268.out;have hcz21_0 : wr.cell? ⟨gb1268,0,none⟩ = some (.int .i64 a0_0):=blk_cell BK1268.out 0;have hcz21_1 : wr.cell? ⟨gb1268,1,none⟩ = some (.slice A0_1 l0_1.length c0_1):=blk_cell BK1268.out 1;have hfz21_0:=blk_frozen BK1268.out 0;have hfz21_1:=blk_frozen BK1268.out 1;have p1278 : 0 ≤ (x14_1 : Int):=of_decide_eq_true (by first|(with_reducible assumption)|assumption);have q1278 : x14_1 < (l0_1.length : Int):=of_decide_eq_true (by first|(with_reducible assumption)|assumption);obtain ⟨ad1278,e1278,hx1278_0⟩:=Kd.at_int HR0_1.out x14_1 p1278 q1278;cases e1278
              (try replace hx1278_0:=(HB.out.cell (World.block_lt_of_cell? w _ hx1278_0)).trans hx1278_0);replace p1278:=eq_true p1278;replace q1278:=eq_true q1278;go_wp2_with (first|((with_reducible refine gate_callee (f:=192) rfl ?_);refine goesL_ (some 35) rfl rfl Tryd.func192 (by kernel_rfl) rfl #[.int .i64 (rd l0_1 x14_1),.int .i64 x24_2] rfl au_ ?_;(with_reducible refine (spec_orHas.calls (rd l0_1 x14_1) x24_2 true _ A18.out).mono ?_);rintro e w' ⟨rfl,⟨nd,rfl⟩⟩;refine ⟨_,rfl,?_⟩))
              go_roundg k2
              case measure=>have:=HK1.out;have:=HK2.out;omega
              case rel=>exact ⟨(wrap64 (x24_2 + 1)),(x1274001_2),(by first|rfl|(simp;done)|(simp [*];done)),H',⟨by have:=HK1.out;have:=HK2.out;omega⟩,⟨by (with_reducible repeat (first|apply Kd.R_alloc|apply Kd.R_drewN|apply Kd.R_drew));exact HO_3.out⟩,⟨by (with_reducible repeat (first|apply Kd.R_alloc|apply Kd.R_drewN|apply Kd.R_drew));exact HO_4.out⟩,⟨by (with_reducible repeat (first|apply Kd.R_alloc|apply Kd.R_drewN|apply Kd.R_drew));exact HO_12.out⟩,⟨by (with_reducible repeat (first|apply Kd.R_alloc|apply Kd.R_drewN|apply Kd.R_drew));exact HO_22.out⟩,⟨bl_ BK1268⟩,⟨bl_ BK1273⟩,⟨bb_⟩⟩
             ·replace c19:=Bool.eq_false_iff.mpr c19;subst c19;have H1 : ((spec_l1Most.f x1274001_2 (rd t1269 x24_2)).bind fun t1280=>(spec_ivEnds.l1 k2 t1269 x4_1 x14_1 t1269 (t1269.length : Int) x14_1 t1269 (t1269.length : Int) (wrap64 (x24_2 + 1)) a0_0 l0_1 (rd t1269 x14_1) t1280)) = some r:=by rw [if_neg (show ¬ (false = true) by decide)] at H;exact H
              clear H;have H:=H1;clear H1;replace H:=Option.bind_eq_some_iff.mp H;obtain ⟨t1280,A220,H⟩:=H;replace H : (spec_ivEnds.l1 k2 t1269 x4_1 x14_1 t1269 (t1269.length : Int) x14_1 t1269 (t1269.length : Int) (wrap64 (x24_2 + 1)) a0_0 l0_1 (rd t1269 x14_1) t1280) = some r:=H;have A22:=A_ A220;clear A220;have H':=A_ H;clear H;have p1277 : 0 ≤ (x24_2 : Int):=of_decide_eq_true (by first|(with_reducible assumption)|assumption);have q1277 : x24_2 < (t1269.length : Int):=of_decide_eq_true (by first|(with_reducible assumption)|assumption);obtain ⟨ad1277,e1277,hx1277_0⟩:=Kd.at_int (Kd.R_reads' HO_22.out).2.2 x24_2 p1277 q1277;obtain rfl : ad1272 = ad1277:=(by injection e1277);replace p1277:=eq_true p1277;replace q1277:=eq_true q1277;have hnb23:=NB1268_1273.out;have hnc23:=NB1273_1268.out;have hcz24_0 : wr.cell? ⟨gb1268,0,none⟩ = some (.int .i64 a0_0):=blk_cell BK1268.out 0;have hcz24_1 : wr.cell? ⟨gb1268,1,none⟩ = some (.slice A0_1 l0_1.length c0_1):=blk_cell BK1268.out 1;have hfz24_0:=blk_frozen BK1268.out 0;have hfz24_1:=blk_frozen BK1268.out 1;have p1278 : 0 ≤ (x14_1 : Int):=of_decide_eq_true (by first|(with_reducible assumption)|assumption);have q1278 : x14_1 < (l0_1.length : Int):=of_decide_eq_true (by first|(with_reducible assumption)|assumption);obtain ⟨ad1278,e1278,hx1278_0⟩:=Kd.at_int HR0_1.out x14_1 p1278 q1278;cases e1278
              (try replace hx1278_0:=(HB.out.cell (World.block_lt_of_cell? w _ hx1278_0)).trans hx1278_0);replace p1278:=eq_true p1278;replace q1278:=eq_true q1278;go_wp2_with (first|((with_reducible refine gate_callee (f:=192) rfl ?_);refine goesL_ (some 35) rfl rfl Tryd.func192 (by kernel_rfl) rfl #[.int .i64 (rd l0_1 x14_1),.int .i64 x24_2] rfl au_ ?_;(with_reducible refine (spec_orHas.calls (rd l0_1 x14_1) x24_2 false _ A18.out).mono ?_);rintro e w' ⟨rfl,⟨nd,rfl⟩⟩;refine ⟨_,rfl,?_⟩;(try (rw [drewN_self wr];generalize hq_ : World.drewN wr _ = wr;have n0_ : Aside0 (Kd.R (Kd.int .i64) 3 wr w.heap.size (fun _=>True) (.slice (some ad1272) t1269.length co6) t1269):=⟨by rw [← hq_];exact (rl_ HO_12)⟩;have n1_ : Aside0 (Kd.R (Kd.int .i64) 3 wr w.heap.size (fun _=>True) (.slice (some ad1272) t1269.length co6) t1269):=⟨by rw [← hq_];exact (rl_ HO_22)⟩;have n2_ : Aside0 (Kd.R (Kd.int .i64) 3 wr w.heap.size (fun _=>True) (.slice (some ad1272) t1269.length co6) t1269):=⟨by rw [← hq_];exact (rl_ HO_3)⟩;have n3_ : Aside0 (Kd.R k62 62 wr w.heap.size (fun k_=>k_ ≠ gb1273) u4 x4_1):=⟨by rw [← hq_];exact (rl_ HO_4)⟩;have n4_ : Aside0 (wr.heap[gb1268]? = some (.cells #[.int .i64 a0_0,.slice (some ad1278) l0_1.length c0_1] 28 (0,0))):=⟨by rw [← hq_];exact (bl_ BK1268)⟩;have n5_ : Aside0 (wr.heap[gb1273]? = some (.cells #[.int .i64 (rd t1269 x14_1),.int .i64 x1274001_2] 62 (0,0))):=⟨by rw [← hq_];exact (bl_ BK1273)⟩;have n6_ : Aside0 (Below w.heap.size w wr):=⟨by rw [← hq_];exact bb_⟩;clear HO_12 HO_22 HO_3 HO_4 BK1268 BK1273 HB hq_;have HO_12:=n0_;have HO_22:=n1_;have HO_3:=n2_;have HO_4:=n3_;have BK1268:=n4_;have BK1273:=n5_;have HB:=n6_;clear n0_ n1_ n2_ n3_ n4_ n5_ n6_;have hcu1268_0 : wr.cell? ⟨gb1268,0,none⟩ = some (.int .i64 a0_0):=blk_cell BK1268.out 0;have hfu1268_0:=blk_frozen BK1268.out 0;have hcu1268_1 : wr.cell? ⟨gb1268,1,none⟩ = some (.slice (some ad1278) l0_1.length c0_1):=blk_cell BK1268.out 1;have hfu1268_1:=blk_frozen BK1268.out 1;have hcu1273_0 : wr.cell? ⟨gb1273,0,none⟩ = some (.int .i64 (rd t1269 x14_1)):=blk_cell BK1273.out 0;have hfu1273_0:=blk_frozen BK1273.out 0;have hcu1273_1 : wr.cell? ⟨gb1273,1,none⟩ = some (.int .i64 x1274001_2):=blk_cell BK1273.out 1;have hfu1273_1:=blk_frozen BK1273.out 1));have hcz25_0 : wr.cell? ⟨gb1273,0,none⟩ = some (.int .i64 (rd t1269 x14_1)):=blk_cell BK1273.out 0;have hcz25_1 : wr.cell? ⟨gb1273,1,none⟩ = some (.int .i64 x1274001_2):=blk_cell BK1273.out 1;have hfz25_0:=blk_frozen BK1273.out 0;have hfz25_1:=blk_frozen BK1273.out 1)|((with_reducible refine gate_callee (f:=149) rfl ?_);refine goesL_ (some 40) rfl rfl Tryd.func149 (by kernel_rfl) rfl #[.int .i64 x1274001_2,.int .i64 (rd t1269 x24_2)] rfl au_ ?_;(with_reducible refine (spec_l1Most.calls x1274001_2 (rd t1269 x24_2) t1280 _ A22.out).mono ?_);rintro e w' ⟨rfl,⟨nd,rfl⟩⟩;refine ⟨_,rfl,?_⟩;(try (rw [drewN_self wr];generalize hq_ : World.drewN wr _ = wr;have n0_ : Aside0 (Kd.R (Kd.int .i64) 3 wr w.heap.size (fun _=>True) (.slice (some ad1272) t1269.length co6) t1269):=⟨by rw [← hq_];exact (rl_ HO_12)⟩;have n1_ : Aside0 (Kd.R (Kd.int .i64) 3 wr w.heap.size (fun _=>True) (.slice (some ad1272) t1269.length co6) t1269):=⟨by rw [← hq_];exact (rl_ HO_22)⟩;have n2_ : Aside0 (Kd.R (Kd.int .i64) 3 wr w.heap.size (fun _=>True) (.slice (some ad1272) t1269.length co6) t1269):=⟨by rw [← hq_];exact (rl_ HO_3)⟩;have n3_ : Aside0 (Kd.R k62 62 wr w.heap.size (fun k_=>k_ ≠ gb1273) u4 x4_1):=⟨by rw [← hq_];exact (rl_ HO_4)⟩;have n4_ : Aside0 (wr.heap[gb1268]? = some (.cells #[.int .i64 a0_0,.slice (some ad1278) l0_1.length c0_1] 28 (0,0))):=⟨by rw [← hq_];exact (bl_ BK1268)⟩;have n5_ : Aside0 (wr.heap[gb1273]? = some (.cells #[.int .i64 (rd t1269 x14_1),.int .i64 x1274001_2] 62 (0,0))):=⟨by rw [← hq_];exact (bl_ BK1273)⟩;have n6_ : Aside0 (Below w.heap.size w wr):=⟨by rw [← hq_];exact bb_⟩;clear HO_12 HO_22 HO_3 HO_4 BK1268 BK1273 HB hq_;have HO_12:=n0_;have HO_22:=n1_;have HO_3:=n2_;have HO_4:=n3_;have BK1268:=n4_;have BK1273:=n5_;have HB:=n6_;clear n0_ n1_ n2_ n3_ n4_ n5_ n6_;have hcu1268_0 : wr.cell? ⟨gb1268,0,none⟩ = some (.int .i64 a0_0):=blk_cell BK1268.out 0;have hfu1268_0:=blk_frozen BK1268.out 0;have hcu1268_1 : wr.cell? ⟨gb1268,1,none⟩ = some (.slice (some ad1278) l0_1.length c0_1):=blk_cell BK1268.out 1;have hfu1268_1:=blk_frozen BK1268.out 1;have hcu1273_0 : wr.cell? ⟨gb1273,0,none⟩ = some (.int .i64 (rd t1269 x14_1)):=blk_cell BK1273.out 0;have hfu1273_0:=blk_frozen BK1273.out 0;have hcu1273_1 : wr.cell? ⟨gb1273,1,none⟩ = some (.int .i64 x1274001_2):=blk_cell BK1273.out 1;have hfu1273_1:=blk_frozen BK1273.out 1))))
              go_roundg k2
              case measure=>have:=HK1.out;have:=HK2.out;omega
              case rel=>exact ⟨(wrap64 (x24_2 + 1)),(t1280),(by first|rfl|(simp;done)|(simp [*];done)),H',⟨by have:=HK1.out;have:=HK2.out;omega⟩,⟨by (with_reducible repeat (first|apply Kd.R_alloc|apply Kd.R_drewN|apply Kd.R_drew));exact Kd.R_mono (Kd.R_far (p:=⟨gb1273,1,none⟩) (Kd.R_types HO_3.out BK1273.out (by decide)) (fun _ hk=>hk.2) (.int .i64 t1280)) (fun _ hk=>trivial)⟩,⟨by (with_reducible repeat (first|apply Kd.R_alloc|apply Kd.R_drewN|apply Kd.R_drew));exact Kd.R_mono (Kd.R_far (p:=⟨gb1273,1,none⟩) (Kd.R_mono HO_4.out (fun k_ hk=>(⟨hk,hk⟩ : _ ∧ k_ ≠ gb1273))) (fun _ hk=>hk.2) (.int .i64 t1280)) (fun _ hk=>hk.1)⟩,⟨by (with_reducible repeat (first|apply Kd.R_alloc|apply Kd.R_drewN|apply Kd.R_drew));exact Kd.R_mono (Kd.R_far (p:=⟨gb1273,1,none⟩) (Kd.R_types HO_12.out BK1273.out (by decide)) (fun _ hk=>hk.2) (.int .i64 t1280)) (fun _ hk=>trivial)⟩,⟨by (with_reducible repeat (first|apply Kd.R_alloc|apply Kd.R_drewN|apply Kd.R_drew));exact Kd.R_mono (Kd.R_far (p:=⟨gb1273,1,none⟩) (Kd.R_types HO_22.out BK1273.out (by decide)) (fun _ hk=>hk.2) (.int .i64 t1280)) (fun _ hk=>trivial)⟩,⟨by (with_reducible repeat (first|refine blk_drewN ?_ _|refine blk_drew ?_|refine blk_alloc ?_ _));refine blk_far ?_ NB1268_1273.out _;(with_reducible repeat (first|refine blk_drewN ?_ _|refine blk_drew ?_|refine blk_alloc ?_ _));exact BK1268.out⟩,⟨by (with_reducible repeat (first|refine blk_drewN ?_ _|refine blk_drew ?_|refine blk_alloc ?_ _));refine blk_put (cs:=#[.int .i64 (rd t1269 x14_1),.int .i64 x1274001_2]) ?_ 1 _ rfl;(with_reducible repeat (first|refine blk_drewN ?_ _|refine blk_drew ?_|refine blk_alloc ?_ _));exact BK1273.out⟩,⟨bb_⟩⟩
            ·rw [if_neg c17] at H;exact absurd H (by simp)
           ·rw [if_neg c16] at H;exact absurd H (by simp)
          ·rw [if_neg c15] at H;exact absurd H (by simp)
         ·rw [if_neg c14] at H;exact absurd H (by simp)
        ·rw [if_neg c13] at H;have c13b0 : decide (x24_2 < (t1269.length : Int)) = false:=decide_eq_false c13;clear c13;by_cases c26 : x4_1.length < 8796093022208
         ·rw [if_pos c26] at H;have LMc26:=A_ c26;clear c26;obtain ⟨y1274,hy1274⟩ : ∃ y_ : List (S62),y_ = (x4_1 ++ [(⟨(rd t1269 x14_1),x1274001_2⟩ : S62)]):=⟨_,rfl⟩;replace H : (spec_ivEnds.l0 k2 t1269 y1274 t1269 (t1269.length : Int) (wrap64 (x14_1 + 1)) a0_0 l0_1) = some r:=by first|(rw [hy1274];with_reducible exact H)|(have H2_:=(Option.bind_some _ _).symm.trans H;rw [hy1274];with_reducible exact H2_)|(have H2_:=(Option.bind_some _ _).symm.trans H;with_reducible exact H2_)|with_reducible exact H|(rw [hy1274];exact H)|exact H
          have Ny1274:=A_ hy1274;clear hy1274;have H':=A_ H;clear H;have hnb27:=NB1273_1268.out;have hnc27:=NB1268_1273.out;have hcz28_0 : wr.cell? ⟨gb1273,0,none⟩ = some (.int .i64 (rd t1269 x14_1)):=blk_cell BK1273.out 0;have hcz28_1 : wr.cell? ⟨gb1273,1,none⟩ = some (.int .i64 x1274001_2):=blk_cell BK1273.out 1;have hfz28_0:=blk_frozen BK1273.out 0;have hfz28_1:=blk_frozen BK1273.out 1;go_wp2_with (first|((with_reducible refine gate_builtin (b:=.append) (xs:=#[.tmp 43,.tmp 45]) rfl ?_);at_builtin;refine Kd.R_append k62 (w0:=w) w.heap.size rfl (.tmp 43) (.tmp 45) 52 62 (.agg #[(.int .i64 0),(.int .i64 0)]) 16 rfl Tryd.underlying52 info62 rfl (by decide) (by omega) u4 x4_1 (⟨(rd t1269 x14_1),x1274001_2⟩ : S62) [.int .i64 (rd t1269 x14_1),.int .i64 x1274001_2] (fun k_=>k_ ≠ gb1273) (fun _=>False) rfl rfl ?aP (fun _ hk=>hk.elim) ?aF ?aO ?aB ?aS ?aL ?_;(case aP=>exact k62_mkM _ _ _ (⟨(rd t1269 x14_1),x1274001_2⟩ : S62));(case aB=>exact bb_);(case aF=>exact (fun k_ hk=>Kd.freshB (g:=gb1273) (o:=.cells #[.int .i64 (rd t1269 x14_1),.int .i64 x1274001_2] 62 (0,0)) (bl_ BK1273) k_ hk));(case aO=>exact (rl_ HO_4));(case aS=>exact (below_size bb_));(case aL=>have:=LMc26.out;omega);intro v1275 w29 ho hb hg hat;rw [← Ny1274.out] at ho;replace HO_3:=A_ (Kd.R_over' (rl_ HO_3) (Kd.R_typed (rl_ HO_4)) (by decide) hg);replace HO_12:=A_ (Kd.R_over' (rl_ HO_12) (Kd.R_typed (rl_ HO_4)) (by decide) hg);replace HO_22:=A_ (Kd.R_over' (rl_ HO_22) (Kd.R_typed (rl_ HO_4)) (by decide) hg);replace BK1268:=A_ (blk_grown (g:=gb1268) (o:=.cells #[.int .i64 a0_0,.slice A0_1 l0_1.length c0_1] 28 (0,0)) (bl_ BK1268) hg (Kd.R_ne HO_4.out BK1268.out (by decide)));replace BK1273:=A_ (blk_grown (g:=gb1273) (o:=.cells #[.int .i64 (rd t1269 x14_1),.int .i64 x1274001_2] 62 (0,0)) (bl_ BK1273) hg (Kd.R_away HO_4.out (fun _ hk=>hk)));replace HB:=A_ (hb);have HO1276:=A_ (ho);clear HO_4;clear ho hb hg hat))
          go_roundg k2
          case measure=>have:=HK1.out;have:=HK2.out;omega
          case rel=>exact ⟨(y1274),(wrap64 (x14_1 + 1)),(by first|rfl|(simp;done)|(simp [*];done)),H',⟨by have:=HK1.out;have:=HK2.out;omega⟩,⟨by (with_reducible repeat (first|apply Kd.R_alloc|apply Kd.R_drewN|apply Kd.R_drew));exact HO_3.out⟩,⟨by (with_reducible repeat (first|apply Kd.R_alloc|apply Kd.R_drewN|apply Kd.R_drew));exact Kd.R_mono HO1276.out (fun _ hk=>trivial)⟩,⟨by (with_reducible repeat (first|apply Kd.R_alloc|apply Kd.R_drewN|apply Kd.R_drew));exact HO_12.out⟩,⟨bl_ BK1268⟩,⟨bb_⟩⟩
         ·rw [if_neg c26] at H;exact absurd H (by simp)
     ·rw [if_neg c9] at H;exact absurd H (by simp)
    ·rw [if_neg c8] at H;exact absurd H (by simp)
   ·rw [if_neg c7] at H;have c7b0 : decide (x14_1 < (t1269.length : Int)) = false:=decide_eq_false c7;clear c7;obtain rfl:=Option.some.inj H;go_wp2
    go_ret
    exact ⟨_,by first|rfl|(simp [errW_none,errW_some] <;> rfl)|(simp [*,errW_none,errW_some] <;> rfl),by (with_reducible repeat (first|apply Kd.R_alloc|apply Kd.R_drewN|apply Kd.R_drew));exact HO_4.out,bb_⟩
def spec_EndsOf.f (k : Nat) (a0_0 : Int) (l0_1 : List Int) : Option ((List (S62)) × Bool) := (spec_ivGoodOrder.f k a0_0 l0_1).bind fun t1282 => (if t1282 = true then ((spec_ivEnds.f k a0_0 l0_1).bind fun t1283 => (some (t1283, true))) else (some (([] : List (S62)), false)))
set_option maxHeartbeats 8000000 in
set_option maxRecDepth 100000 in
theorem spec_EndsOf.calls (k : Nat) (a0_0 : Int) (A0_1 : Option Addr) (c0_1 : Nat) (l0_1 : List Int) (r1 : List (S62)) (r2 : Bool) (w : World) (hr0_1 : Kd.C (Kd.int .i64) w A0_1 l0_1.length l0_1) (hc0_1 : l0_1.length ≤ c0_1) (h : spec_EndsOf.f k a0_0 l0_1 = some (r1,r2)) :
 Calls Tryd.prog 49 #[.agg #[.int .i64 a0_0,.slice A0_1 l0_1.length c0_1]] w fun e w'=>∃ v0_ : Value,e = .returned (.tuple #[v0_,.bool r2]) ∧ Kd.R k62 62 w' w.heap.size (fun _=>True) v0_ r1 ∧ Below w.heap.size w w':=by
 have hu28:=Tryd.underlying28;have HR0_1:=A_ hr0_1;have HC0_1:=A_ hc0_1;clear hr0_1 hc0_1;have HB:=A_ (Below.refl w.heap.size w);have H : ((spec_ivGoodOrder.f k a0_0 l0_1).bind fun t1282=>(if t1282 = true then ((spec_ivEnds.f k a0_0 l0_1).bind fun t1283=>(some (t1283,true))) else (some (([] : List (S62)),false)))) = some (r1,r2):=h;clear h;replace H:=Option.bind_eq_some_iff.mp H;obtain ⟨t1282,A20,H⟩:=H;replace H : (if t1282 = true then ((spec_ivEnds.f k a0_0 l0_1).bind fun t1283=>(some (t1283,true))) else (some (([] : List (S62)),false))) = some (r1,r2):=H;have A2:=A_ A20;clear A20;by_cases c3 : t1282 = true
 ·subst c3;have H1 : ((spec_ivEnds.f k a0_0 l0_1).bind fun t1283=>(some (t1283,true))) = some (r1,r2):=by rw [if_pos rfl] at H;exact H
  clear H;have H:=H1;clear H1;replace H:=Option.bind_eq_some_iff.mp H;obtain ⟨t1283,A40,H⟩:=H;replace H : (some (t1283,true)) = some (r1,r2):=H;have A4:=A_ A40;clear A40;simp only [Option.some.injEq,Prod.mk.injEq] at H
  obtain ⟨rfl,rfl⟩:=H;go_enter Tryd.func49,Tryd.ntmps49
  go_wp2_with (first|((with_reducible refine gate_dst (N:=1) rfl ?_);refine box_event ?hg (N:=1) ?hd (cs:=#[.int .i64 a0_0,.slice A0_1 l0_1.length c0_1]) (t:=28) ?hr ?_;(case hd=>rfl);(case hg=>rfl);(case hr=>first|(go_simp;done)|(go_simp;rfl));intro gb1281 hg w5 hbox hb;have BK1281:=A_ (hbox);have GW1281:=A_ ((by rw [hg];exact (below_size bb_) : w.heap.size ≤ gb1281));have GE1281:=A_ ((by rw [hg];exact (below_size bb_) : w.heap.size ≤ gb1281));replace HB:=A_ (below_step bb_ hb);clear hb hbox hg;have hcz6_0 : w5.cell? ⟨gb1281,0,none⟩ = some (.int .i64 a0_0):=blk_cell BK1281.out 0;have hcz6_1 : w5.cell? ⟨gb1281,1,none⟩ = some (.slice A0_1 l0_1.length c0_1):=blk_cell BK1281.out 1;have hfz6_0:=blk_frozen BK1281.out 0;have hfz6_1:=blk_frozen BK1281.out 1)|((with_reducible refine gate_callee (f:=136) rfl ?_);refine goesL_ (some 5) rfl rfl Tryd.func136 (by kernel_rfl) rfl #[.agg #[.int .i64 a0_0,.slice A0_1 l0_1.length c0_1]] rfl au_ ?_;(with_reducible refine (spec_ivGoodOrder.calls k a0_0 _ _ l0_1 true _ ?side1 ?side2 A2.out).mono ?_);(case side1=>exact cl_ (Kd.C_below HR0_1.out HB.out));(case side2=>exact HC0_1.out);rintro e w7 ⟨rfl,hb⟩;refine ⟨_,rfl,?_⟩;replace BK1281:=bz BK1281 hb;replace HB:=A_ (below_step bb_ hb);(try clear hb);(try clear hb2);(try clear hk);(try clear hi);have hcz8_0 : w7.cell? ⟨gb1281,0,none⟩ = some (.int .i64 a0_0):=blk_cell BK1281.out 0;have hcz8_1 : w7.cell? ⟨gb1281,1,none⟩ = some (.slice A0_1 l0_1.length c0_1):=blk_cell BK1281.out 1;have hfz8_0:=blk_frozen BK1281.out 0;have hfz8_1:=blk_frozen BK1281.out 1)|((with_reducible refine gate_callee (f:=137) rfl ?_);refine goesL_ (some 8) rfl rfl Tryd.func137 (by kernel_rfl) rfl #[.agg #[.int .i64 a0_0,.slice A0_1 l0_1.length c0_1]] rfl au_ ?_;(with_reducible refine (spec_ivEnds.calls k a0_0 _ _ l0_1 t1283 _ ?side1 ?side2 A4.out).mono ?_);(case side1=>exact cl_ (Kd.C_below HR0_1.out HB.out));(case side2=>exact HC0_1.out);rintro e w9 ⟨v1284,rfl,ho0,hb⟩;refine ⟨_,rfl,?_⟩;have HO1285:=A_ (Kd.R_lower ho0 (below_size bb_));replace BK1281:=bz BK1281 hb;replace HB:=A_ (below_step bb_ hb);(try clear hb);(try clear hb2);(try clear hk);(try clear hi);(try clear ho0)))
  go_ret2
  exact ⟨_,by first|rfl|(simp [errW_none,errW_some] <;> rfl)|(simp [*,errW_none,errW_some] <;> rfl),by (with_reducible repeat (first|apply Kd.R_alloc|apply Kd.R_drewN|apply Kd.R_drew));exact HO1285.out,bb_⟩
 ·replace c3:=Bool.eq_false_iff.mpr c3;subst c3;have H1 : (some (([] : List (S62)),false)) = some (r1,r2):=by rw [if_neg (show ¬ (false = true) by decide)] at H;exact H
  clear H;have H:=H1;clear H1;simp only [Option.some.injEq,Prod.mk.injEq] at H
  obtain ⟨rfl,rfl⟩:=H;go_enter Tryd.func49,Tryd.ntmps49
  go_wp2_with (first|((with_reducible refine gate_dst (N:=1) rfl ?_);refine box_event ?hg (N:=1) ?hd (cs:=#[.int .i64 a0_0,.slice A0_1 l0_1.length c0_1]) (t:=28) ?hr ?_;(case hd=>rfl);(case hg=>rfl);(case hr=>first|(go_simp;done)|(go_simp;rfl));intro gb1281 hg w10 hbox hb;have BK1281:=A_ (hbox);have GW1281:=A_ ((by rw [hg];exact (below_size bb_) : w.heap.size ≤ gb1281));have GE1281:=A_ ((by rw [hg];exact (below_size bb_) : w.heap.size ≤ gb1281));replace HB:=A_ (below_step bb_ hb);clear hb hbox hg;have hcz11_0 : w10.cell? ⟨gb1281,0,none⟩ = some (.int .i64 a0_0):=blk_cell BK1281.out 0;have hcz11_1 : w10.cell? ⟨gb1281,1,none⟩ = some (.slice A0_1 l0_1.length c0_1):=blk_cell BK1281.out 1;have hfz11_0:=blk_frozen BK1281.out 0;have hfz11_1:=blk_frozen BK1281.out 1)|((with_reducible refine gate_callee (f:=136) rfl ?_);refine goesL_ (some 5) rfl rfl Tryd.func136 (by kernel_rfl) rfl #[.agg #[.int .i64 a0_0,.slice A0_1 l0_1.length c0_1]] rfl au_ ?_;(with_reducible refine (spec_ivGoodOrder.calls k a0_0 _ _ l0_1 false _ ?side1 ?side2 A2.out).mono ?_);(case side1=>exact cl_ (Kd.C_below HR0_1.out HB.out));(case side2=>exact HC0_1.out);rintro e w12 ⟨rfl,hb⟩;refine ⟨_,rfl,?_⟩;replace BK1281:=bz BK1281 hb;replace HB:=A_ (below_step bb_ hb);(try clear hb);(try clear hb2);(try clear hk);(try clear hi)))
  go_ret2
  exact ⟨_,by first|rfl|(simp [errW_none,errW_some] <;> rfl)|(simp [*,errW_none,errW_some] <;> rfl),by first|exact Kd.R_nil _ _ _ _ _|exact Kd.N_nil _ _ _ _ _|exact Kd.V_nil _ _ _ _ _|exact Kd.Q_nil _ _ _ _ _|exact Kd.S_nil _ _ _ _ _,bb_⟩
def slices_Equal_int_int.l0 : Nat → List Int → List Int → Int → Int → Option (Bool)
 | 0,_,_,_,_=>none
 | k + 1,x0,x1,x12,x13=>if x13 < x12 then (if 0 ≤ x13 then (if x13 < (x0.length : Int) then (if x13 < (x1.length : Int) then (if (rd x0 x13) = (rd x1 x13) then (slices_Equal_int_int.l0 k x0 x1 x12 (wrap64 (x13 + 1))) else (some false)) else (none)) else (none)) else (none)) else (some true)
def slices_Equal_int_int.f (k : Nat) (l0 : List Int) (l1 : List Int) : Option (Bool) := if (l0.length : Int) = (l1.length : Int) then (slices_Equal_int_int.l0 k l0 l1 (l0.length : Int) 0) else (some false)
set_option maxHeartbeats 8000000 in
set_option maxRecDepth 100000 in
theorem slices_Equal_int_int.calls (k : Nat) (A0 : Option Addr) (c0 : Nat) (l0 : List Int) (A1 : Option Addr) (c1 : Nat) (l1 : List Int) (r : Bool) (w : World) (hr0 : Kd.C (Kd.int .i64) w A0 l0.length l0) (hc0 : l0.length ≤ c0) (hr1 : Kd.C (Kd.int .i64) w A1 l1.length l1) (hc1 : l1.length ≤ c1) (h : slices_Equal_int_int.f k l0 l1 = some r) :
 Calls Tryd.prog 156 #[.slice A0 l0.length c0,.slice A1 l1.length c1] w fun e w'=>e = .returned (.bool r) ∧ Drawn0 w w':=by
 have HR0:=A_ hr0;have HC0:=A_ hc0;clear hr0 hc0;have HR1:=A_ hr1;have HC1:=A_ hc1;clear hr1 hc1;have H : (if (l0.length : Int) = (l1.length : Int) then (slices_Equal_int_int.l0 k l0 l1 (l0.length : Int) 0) else (some false)) = some r:=h;clear h;by_cases c3 : (l0.length : Int) = (l1.length : Int)
 ·rw [if_pos c3] at H;have c3b0 : ((l0.length : Int) == (l1.length : Int)) = true:=beq_iff_eq.mpr c3;have c3b1 : ((l0.length : Int) != (l1.length : Int)) = false:=bne_eq_false_iff_eq.mpr c3;have c3b2 : (l0.length == l1.length) = true:=by first|simpa using c3|(simp at c3 ⊢;omega)
  clear c3;have H':=A_ H;clear H;go_enter Tryd.func156,Tryd.ntmps156
  go_wp2
  repeat (go_quiet (fail);try go_wp2)
  go_loopg [13] k (fun kq v13 w'=>∃ (x13_1 : Int),v13 = .int .i64 x13_1 ∧ Aside0 (slices_Equal_int_int.l0 kq l0 l1 (l0.length : Int) x13_1 = some r) ∧ Aside0 (kq ≤ k) ∧ Drawn0 w w')
  case atStart=>exact ⟨(0),(by first|rfl|(simp;done)|(simp [*];done)),H',⟨Nat.le_refl _⟩,by repeat (first|exact Drawn0.refl _|apply Drawn0.step)⟩
  case round =>
   clear H';try clear c1
   try clear p2
   try clear c3
   try clear c3b0
   try clear c3b1
   try clear c3b2
   obtain ⟨x13_1,rfl,HA,HK1,⟨m1,rfl⟩⟩:=hrel;cases gk with
   | zero=>exact absurd HA.out (by simp [slices_Equal_int_int.l0])
   | succ k1 =>
    have H:=HA.out;clear HA;simp only [slices_Equal_int_int.l0] at H
    by_cases c4 : x13_1 < (l0.length : Int)
    ·rw [if_pos c4] at H;have c4b0 : decide (x13_1 < (l0.length : Int)) = true:=decide_eq_true c4;clear c4;by_cases c5 : 0 ≤ x13_1
     ·rw [if_pos c5] at H;have c5b0 : decide (0 ≤ x13_1) = true:=decide_eq_true c5;clear c5;by_cases c6 : x13_1 < (l0.length : Int)
      ·rw [if_pos c6] at H;have c6b0 : decide (x13_1 < (l0.length : Int)) = true:=decide_eq_true c6;clear c6;by_cases c7 : x13_1 < (l1.length : Int)
       ·rw [if_pos c7] at H;have c7b0 : decide (x13_1 < (l1.length : Int)) = true:=decide_eq_true c7;clear c7;by_cases c8 : (rd l0 x13_1) = (rd l1 x13_1)
        ·rw [if_pos c8] at H;have c8b0 : ((rd l0 x13_1) == (rd l1 x13_1)) = true:=beq_iff_eq.mpr c8;have c8b1 : ((rd l0 x13_1) != (rd l1 x13_1)) = false:=bne_eq_false_iff_eq.mpr c8;clear c8;have H':=A_ H;clear H;have p1286 : 0 ≤ (x13_1 : Int):=of_decide_eq_true (by first|(with_reducible assumption)|assumption);have q1286 : x13_1 < (l0.length : Int):=of_decide_eq_true (by first|(with_reducible assumption)|assumption);obtain ⟨ad1286,e1286,hx1286_0⟩:=Kd.at_int HR0.out x13_1 p1286 q1286;cases e1286
         replace p1286:=eq_true p1286;replace q1286:=eq_true q1286;have p1287 : 0 ≤ (x13_1 : Int):=of_decide_eq_true (by first|(with_reducible assumption)|assumption);have q1287 : x13_1 < (l1.length : Int):=of_decide_eq_true (by first|(with_reducible assumption)|assumption);obtain ⟨ad1287,e1287,hx1287_0⟩:=Kd.at_int HR1.out x13_1 p1287 q1287;cases e1287
         replace p1287:=eq_true p1287;replace q1287:=eq_true q1287;go_wp2
         repeat (go_quiet (fail);try go_wp2)
         go_roundg k1
         case measure=>have:=HK1.out;omega
         case rel=>exact ⟨(wrap64 (x13_1 + 1)),(by first|rfl|(simp;done)|(simp [*];done)),H',⟨by have:=HK1.out;omega⟩,by repeat (first|exact Drawn0.refl _|apply Drawn0.step)⟩
        ·rw [if_neg c8] at H;have c8b0 : ((rd l0 x13_1) == (rd l1 x13_1)) = false:=beq_eq_false_iff_ne.mpr c8;have c8b1 : ((rd l0 x13_1) != (rd l1 x13_1)) = true:=bne_iff_ne.mpr c8;obtain rfl:=Option.some.inj H;have p1286 : 0 ≤ (x13_1 : Int):=of_decide_eq_true (by first|(with_reducible assumption)|assumption);have q1286 : x13_1 < (l0.length : Int):=of_decide_eq_true (by first|(with_reducible assumption)|assumption);obtain ⟨ad1286,e1286,hx1286_0⟩:=Kd.at_int HR0.out x13_1 p1286 q1286;cases e1286
         replace p1286:=eq_true p1286;replace q1286:=eq_true q1286;have p1287 : 0 ≤ (x13_1 : Int):=of_decide_eq_true (by first|(with_reducible assumption)|assumption);have q1287 : x13_1 < (l1.length : Int):=of_decide_eq_true (by first|(with_reducible assumption)|assumption);obtain ⟨ad1287,e1287,hx1287_0⟩:=Kd.at_int HR1.out x13_1 p1287 q1287;cases e1287
         replace p1287:=eq_true p1287;replace q1287:=eq_true q1287;go_wp2
         repeat (go_quiet (fail);try go_wp2)
         go_ret
         exact ⟨by first|rfl|(simp;done)|(simp [*];done),by repeat (first|exact Drawn0.refl _|apply Drawn0.step)⟩
       ·rw [if_neg c7] at H;exact absurd H (by simp)
      ·rw [if_neg c6] at H;exact absurd H (by simp)
     ·rw [if_neg c5] at H;exact absurd H (by simp)
    ·rw [if_neg c4] at H;have c4b0 : decide (x13_1 < (l0.length : Int)) = false:=decide_eq_false c4;clear c4;obtain rfl:=Option.some.inj H;go_wp2
     repeat (go_quiet (fail);try go_wp2)
     go_ret
     exact ⟨by first|rfl|(simp;done)|(simp [*];done),by repeat (first|exact Drawn0.refl _|apply Drawn0.step)⟩
 ·rw [if_neg c3] at H;have c3b0 : ((l0.length : Int) == (l1.length : Int)) = false:=beq_eq_false_iff_ne.mpr c3;have c3b1 : ((l0.length : Int) != (l1.length : Int)) = true:=bne_iff_ne.mpr c3;have c3b2 : (l0.length == l1.length) = false:=by first|simpa using c3|(simp at c3 ⊢;omega)
  obtain rfl:=Option.some.inj H;go_enter Tryd.func156,Tryd.ntmps156
  go_wp2
  repeat (go_quiet (fail);try go_wp2)
  go_ret
  exact ⟨by first|rfl|(simp;done)|(simp [*];done),by repeat (first|exact Drawn0.refl _|apply Drawn0.step)⟩
def impl_Order_same.f (k : Nat) (a0_0 : Int) (l0_1 : List Int) (a1_0 : Int) (l1_1 : List Int) : Option (Bool) := if a0_0 = a1_0 then ((slices_Equal_int_int.f k l0_1 l1_1).bind fun t1290 => (some t1290)) else (some false)
set_option maxHeartbeats 8000000 in
set_option maxRecDepth 100000 in
theorem impl_Order_same.calls (k : Nat) (a0_0 : Int) (A0_1 : Option Addr) (c0_1 : Nat) (l0_1 : List Int) (a1_0 : Int) (A1_1 : Option Addr) (c1_1 : Nat) (l1_1 : List Int) (r : Bool) (w : World) (hr0_1 : Kd.C (Kd.int .i64) w A0_1 l0_1.length l0_1) (hc0_1 : l0_1.length ≤ c0_1) (hr1_1 : Kd.C (Kd.int .i64) w A1_1 l1_1.length l1_1) (hc1_1 : l1_1.length ≤ c1_1) (h : impl_Order_same.f k a0_0 l0_1 a1_0 l1_1 = some r) :
 Calls Tryd.prog 138 #[.agg #[.int .i64 a0_0,.slice A0_1 l0_1.length c0_1],.agg #[.int .i64 a1_0,.slice A1_1 l1_1.length c1_1]] w fun e w'=>e = .returned (.bool r) ∧ Below w.heap.size w w':=by
 have hu28:=Tryd.underlying28;have HR0_1:=A_ hr0_1;have HC0_1:=A_ hc0_1;clear hr0_1 hc0_1;have HR1_1:=A_ hr1_1;have HC1_1:=A_ hc1_1;clear hr1_1 hc1_1;have HB:=A_ (Below.refl w.heap.size w);have H : (if a0_0 = a1_0 then ((slices_Equal_int_int.f k l0_1 l1_1).bind fun t1290=>(some t1290)) else (some false)) = some r:=h;clear h;by_cases c3 : a0_0 = a1_0
 ·rw [if_pos c3] at H;have c3b0 : (a0_0 == a1_0) = true:=beq_iff_eq.mpr c3;have c3b1 : (a0_0 != a1_0) = false:=bne_eq_false_iff_eq.mpr c3;clear c3;replace H:=Option.bind_eq_some_iff.mp H;obtain ⟨t1290,A40,H⟩:=H;replace H : (some t1290) = some r:=H;have A4:=A_ A40;clear A40;obtain rfl:=Option.some.inj H;go_enter Tryd.func138,Tryd.ntmps138
  go_wp2_with (first|((with_reducible refine gate_dst (N:=2) rfl ?_);refine box_event ?hg (N:=2) ?hd (cs:=#[.int .i64 a0_0,.slice A0_1 l0_1.length c0_1]) (t:=28) ?hr ?_;(case hd=>rfl);(case hg=>rfl);(case hr=>first|(go_simp;done)|(go_simp;rfl));intro gb1288 hg w5 hbox hb;have BK1288:=A_ (hbox);have GW1288:=A_ ((by rw [hg];exact (below_size bb_) : w.heap.size ≤ gb1288));have GE1288:=A_ ((by rw [hg];exact (below_size bb_) : w.heap.size ≤ gb1288));replace HB:=A_ (below_step bb_ hb);clear hb hbox hg)|((with_reducible refine gate_dst (N:=3) rfl ?_);refine box_event ?hg (N:=3) ?hd (cs:=#[.int .i64 a1_0,.slice A1_1 l1_1.length c1_1]) (t:=28) ?hr ?_;(case hd=>rfl);(case hg=>rfl);(case hr=>first|(go_simp;done)|(go_simp;rfl));intro gb1289 hg w6 hbox hb;have BK1289:=A_ (hbox);have GW1289:=A_ ((by rw [hg];exact (below_size bb_) : w.heap.size ≤ gb1289));have GE1289:=A_ ((by rw [hg];exact (below_size bb_) : w.heap.size ≤ gb1289));replace HB:=A_ (below_step bb_ hb);have NB1288_1289:=A_ ((by rw [hg];exact Nat.ne_of_lt (blk_lt (bl_ BK1288)) : gb1288 ≠ gb1289));have NB1289_1288:=A_ ((by rw [hg];exact Nat.ne_of_gt (blk_lt (bl_ BK1288)) : gb1289 ≠ gb1288));replace BK1288:=bz BK1288 hb;clear hb hbox hg;have hnb7:=NB1288_1289.out;have hnc7:=NB1289_1288.out;have hcz8_0 : w6.cell? ⟨gb1288,0,none⟩ = some (.int .i64 a0_0):=blk_cell BK1288.out 0;have hcz8_1 : w6.cell? ⟨gb1288,1,none⟩ = some (.slice A0_1 l0_1.length c0_1):=blk_cell BK1288.out 1;have hfz8_0:=blk_frozen BK1288.out 0;have hfz8_1:=blk_frozen BK1288.out 1;have hcz9_0 : w6.cell? ⟨gb1289,0,none⟩ = some (.int .i64 a1_0):=blk_cell BK1289.out 0;have hcz9_1 : w6.cell? ⟨gb1289,1,none⟩ = some (.slice A1_1 l1_1.length c1_1):=blk_cell BK1289.out 1;have hfz9_0:=blk_frozen BK1289.out 0;have hfz9_1:=blk_frozen BK1289.out 1)|(go_at_call 156;(with_reducible refine (slices_Equal_int_int.calls k _ _ l0_1 _ _ l1_1 t1290 _ ?side1 ?side2 ?side3 ?side4 A4.out).mono ?_);(case side1=>exact cl_ (Kd.C_below HR0_1.out HB.out));(case side2=>exact HC0_1.out);(case side3=>exact cl_ (Kd.C_below HR1_1.out HB.out));(case side4=>exact HC1_1.out);rintro e w' ⟨rfl,⟨nd,rfl⟩⟩))
  go_ret
  exact ⟨by first|rfl|(simp [errW_none,errW_some] <;> rfl)|(simp [*,errW_none,errW_some] <;> rfl),bb_⟩
 ·rw [if_neg c3] at H;have c3b0 : (a0_0 == a1_0) = false:=beq_eq_false_iff_ne.mpr c3;have c3b1 : (a0_0 != a1_0) = true:=bne_iff_ne.mpr c3;obtain rfl:=Option.some.inj H;go_enter Tryd.func138,Tryd.ntmps138
  go_wp2_with (first|((with_reducible refine gate_dst (N:=2) rfl ?_);refine box_event ?hg (N:=2) ?hd (cs:=#[.int .i64 a0_0,.slice A0_1 l0_1.length c0_1]) (t:=28) ?hr ?_;(case hd=>rfl);(case hg=>rfl);(case hr=>first|(go_simp;done)|(go_simp;rfl));intro gb1288 hg w10 hbox hb;have BK1288:=A_ (hbox);have GW1288:=A_ ((by rw [hg];exact (below_size bb_) : w.heap.size ≤ gb1288));have GE1288:=A_ ((by rw [hg];exact (below_size bb_) : w.heap.size ≤ gb1288));replace HB:=A_ (below_step bb_ hb);clear hb hbox hg)|((with_reducible refine gate_dst (N:=3) rfl ?_);refine box_event ?hg (N:=3) ?hd (cs:=#[.int .i64 a1_0,.slice A1_1 l1_1.length c1_1]) (t:=28) ?hr ?_;(case hd=>rfl);(case hg=>rfl);(case hr=>first|(go_simp;done)|(go_simp;rfl));intro gb1289 hg w11 hbox hb;have BK1289:=A_ (hbox);have GW1289:=A_ ((by rw [hg];exact (below_size bb_) : w.heap.size ≤ gb1289));have GE1289:=A_ ((by rw [hg];exact (below_size bb_) : w.heap.size ≤ gb1289));replace HB:=A_ (below_step bb_ hb);have NB1288_1289:=A_ ((by rw [hg];exact Nat.ne_of_lt (blk_lt (bl_ BK1288)) : gb1288 ≠ gb1289));have NB1289_1288:=A_ ((by rw [hg];exact Nat.ne_of_gt (blk_lt (bl_ BK1288)) : gb1289 ≠ gb1288));replace BK1288:=bz BK1288 hb;clear hb hbox hg;have hnb12:=NB1288_1289.out;have hnc12:=NB1289_1288.out;have hcz13_0 : w11.cell? ⟨gb1288,0,none⟩ = some (.int .i64 a0_0):=blk_cell BK1288.out 0;have hcz13_1 : w11.cell? ⟨gb1288,1,none⟩ = some (.slice A0_1 l0_1.length c0_1):=blk_cell BK1288.out 1;have hfz13_0:=blk_frozen BK1288.out 0;have hfz13_1:=blk_frozen BK1288.out 1;have hcz14_0 : w11.cell? ⟨gb1289,0,none⟩ = some (.int .i64 a1_0):=blk_cell BK1289.out 0;have hcz14_1 : w11.cell? ⟨gb1289,1,none⟩ = some (.slice A1_1 l1_1.length c1_1):=blk_cell BK1289.out 1;have hfz14_0:=blk_frozen BK1289.out 0;have hfz14_1:=blk_frozen BK1289.out 1))
  go_ret
  exact ⟨by first|rfl|(simp [errW_none,errW_some] <;> rfl)|(simp [*,errW_none,errW_some] <;> rfl),bb_⟩
def impl_DoRepresent.j0 : Nat → List (S62) → Bool → Int → List Int → Option (Bool × Bool)
 | 0,_,_,_,_=>none
 | k + 1,x0,x13,x1292000,x1292001=>if x13 = true then (some (false,false)) else ((impl_orderOf.f k x0).bind fun bt1294=>((impl_Order_same.f k bt1294.1 bt1294.2 x1292000 x1292001).bind fun t1298=>(some (t1298,true))))
def impl_DoRepresent.f (k : Nat) (l0 : List (S62)) (a1_0 : Int) (l1_1 : List Int) : Option (Bool × Bool) := (impl_AreIntervals.f k l0).bind fun t1292 => (if t1292 = true then ((impl_IsOrder.f k a1_0 l1_1).bind fun t1293 => (impl_DoRepresent.j0 k l0 (!t1293) a1_0 l1_1)) else (impl_DoRepresent.j0 k l0 true a1_0 l1_1))
set_option maxHeartbeats 8000000 in
set_option maxRecDepth 100000 in
theorem impl_DoRepresent.calls (k : Nat) (A0 : Option Addr) (c0 : Nat) (l0 : List (S62)) (a1_0 : Int) (A1_1 : Option Addr) (c1_1 : Nat) (l1_1 : List Int) (r1 : Bool) (r2 : Bool) (w : World) (hr0 : Kd.C k62 w A0 l0.length l0) (hc0 : l0.length ≤ c0) (hr1_1 : Kd.C (Kd.int .i64) w A1_1 l1_1.length l1_1) (hc1_1 : l1_1.length ≤ c1_1) (hT : TabOK w) (h : impl_DoRepresent.f k l0 a1_0 l1_1 = some (r1,r2)) :
 Calls Tryd.prog 50 #[.slice A0 l0.length c0,.agg #[.int .i64 a1_0,.slice A1_1 l1_1.length c1_1]] w fun e w'=>e = .returned (.tuple #[.bool r1,.bool r2]) ∧ Below w.heap.size w w':=by
 have hu28:=Tryd.underlying28;have HT:=A_ hT;clear hT;have HR0:=A_ hr0;have HC0:=A_ hc0;clear hr0 hc0;have HR1_1:=A_ hr1_1;have HC1_1:=A_ hc1_1;clear hr1_1 hc1_1;have HB:=A_ (Below.refl w.heap.size w);have H : ((impl_AreIntervals.f k l0).bind fun t1292=>(if t1292 = true then ((impl_IsOrder.f k a1_0 l1_1).bind fun t1293=>(impl_DoRepresent.j0 k l0 (!t1293) a1_0 l1_1)) else (impl_DoRepresent.j0 k l0 true a1_0 l1_1))) = some (r1,r2):=h;clear h;have HC3:=A_ H;clear H;go_enter Tryd.func50,Tryd.ntmps50
 go_upto_region 1 with (first|((with_reducible refine gate_dst (N:=3) rfl ?_);refine box_event ?hg (N:=3) ?hd (cs:=#[.int .i64 a1_0,.slice A1_1 l1_1.length c1_1]) (t:=28) ?hr ?_;(case hd=>rfl);(case hg=>rfl);(case hr=>first|(go_simp;done)|(go_simp;rfl));intro gb1291 hg w4 hbox hb;have BK1291:=A_ (hbox);have GW1291:=A_ ((by rw [hg];exact (below_size bb_) : w.heap.size ≤ gb1291));have GE1291:=A_ ((by rw [hg];exact (below_size bb_) : w.heap.size ≤ gb1291));replace HB:=A_ (below_step bb_ hb);clear hb hbox hg))
 (try simp only [Act.put,L_,M_,N_]);go_cut [13] (fun v13 wc=>∃ (kq : Nat) (x13_2 : Bool),v13 = .bool x13_2 ∧ Aside0 (impl_DoRepresent.j0 kq l0 x13_2 a1_0 l1_1 = some (r1,r2)) ∧ Aside0 (kq ≤ k) ∧ Aside0 (wc.heap[gb1291]? = some (.cells #[.int .i64 a1_0,(.slice A1_1 l1_1.length c1_1)] 28 (0,0))) ∧ Aside0 (Below w.heap.size w wc))
 case first =>
  have H:=HC3.out;clear HC3;replace H:=Option.bind_eq_some_iff.mp H;obtain ⟨t1292,A50,H⟩:=H;replace H : (if t1292 = true then ((impl_IsOrder.f k a1_0 l1_1).bind fun t1293=>(impl_DoRepresent.j0 k l0 (!t1293) a1_0 l1_1)) else (impl_DoRepresent.j0 k l0 true a1_0 l1_1)) = some (r1,r2):=H;have A5:=A_ A50;clear A50;by_cases c6 : t1292 = true
  ·subst c6;have H1 : ((impl_IsOrder.f k a1_0 l1_1).bind fun t1293=>(impl_DoRepresent.j0 k l0 (!t1293) a1_0 l1_1)) = some (r1,r2):=by rw [if_pos rfl] at H;exact H
   clear H;have H:=H1;clear H1;replace H:=Option.bind_eq_some_iff.mp H;obtain ⟨t1293,A70,H⟩:=H;replace H : (impl_DoRepresent.j0 k l0 (!t1293) a1_0 l1_1) = some (r1,r2):=H;have A7:=A_ A70;clear A70;have H':=A_ H;clear H;go_wp2_with (first|((with_reducible refine gate_callee (f:=47) rfl ?_);refine goesL_ (some 7) rfl rfl Tryd.func47 (by kernel_rfl) rfl #[.slice A0 l0.length c0] rfl au_ ?_;(with_reducible refine (impl_AreIntervals.calls k _ _ l0 true _ ?side1 ?side2 A5.out).mono ?_);(case side1=>exact cl_ (Kd.C_below HR0.out HB.out));(case side2=>exact HC0.out);rintro e w8 ⟨rfl,hb⟩;refine ⟨_,rfl,?_⟩;replace BK1291:=bz BK1291 hb;replace HB:=A_ (below_step bb_ hb);(try clear hb);(try clear hb2);(try clear hk);(try clear hi);have hcz9_0 : w8.cell? ⟨gb1291,0,none⟩ = some (.int .i64 a1_0):=blk_cell BK1291.out 0;have hcz9_1 : w8.cell? ⟨gb1291,1,none⟩ = some (.slice A1_1 l1_1.length c1_1):=blk_cell BK1291.out 1;have hfz9_0:=blk_frozen BK1291.out 0;have hfz9_1:=blk_frozen BK1291.out 1)|(go_at_call 61;(with_reducible refine (impl_IsOrder.calls k a1_0 _ _ l1_1 t1293 _ ?side1 ?side2 ?side3 A7.out).mono ?_);(case side1=>exact cl_ (Kd.C_below HR1_1.out HB.out));(case side2=>exact HC1_1.out);(case side3=>first|exact HT.out|exact HT.out.below bb_|(repeat (first|exact HT.out|apply TabOK.drewN|apply TabOK.drew|apply TabOK.alloc)));rintro e w10 ⟨rfl,hb⟩;replace BK1291:=bz BK1291 hb;replace HB:=A_ (below_step bb_ hb);(try clear hb);(try clear hb2);(try clear hk);(try clear hi)))
   go_meet
   case rel=>exact ⟨_,(!t1293),(by first|rfl|(simp;done)|(simp [*];done)),H',⟨by first|omega|exact Nat.le_refl _⟩,⟨bl_ BK1291⟩,⟨bb_⟩⟩
  ·replace c6:=Bool.eq_false_iff.mpr c6;subst c6;have H1 : (impl_DoRepresent.j0 k l0 true a1_0 l1_1) = some (r1,r2):=by rw [if_neg (show ¬ (false = true) by decide)] at H;exact H
   clear H;have H:=H1;clear H1;have H':=A_ H;clear H;go_wp2_with (first|((with_reducible refine gate_callee (f:=47) rfl ?_);refine goesL_ (some 7) rfl rfl Tryd.func47 (by kernel_rfl) rfl #[.slice A0 l0.length c0] rfl au_ ?_;(with_reducible refine (impl_AreIntervals.calls k _ _ l0 false _ ?side1 ?side2 A5.out).mono ?_);(case side1=>exact cl_ (Kd.C_below HR0.out HB.out));(case side2=>exact HC0.out);rintro e w11 ⟨rfl,hb⟩;refine ⟨_,rfl,?_⟩;replace BK1291:=bz BK1291 hb;replace HB:=A_ (below_step bb_ hb);(try clear hb);(try clear hb2);(try clear hk);(try clear hi)))
   go_meet
   case rel=>exact ⟨_,(true),(by first|rfl|(simp;done)|(simp [*];done)),H',⟨by first|omega|exact Nat.le_refl _⟩,⟨bl_ BK1291⟩,⟨bb_⟩⟩
 case rest =>
  clear HC3;try clear c1
  try clear p2
  try clear c4
  try clear c5
  try clear c6
  try clear hcz9_0
  try clear hcz9_1
  try clear hfz9_0
  try clear hfz9_1
  obtain ⟨kq,x13_2,rfl,HA,HJ2,BK1291,HB⟩:=hcut;cases kq with
  | zero => exact absurd HA.out (by simp [impl_DoRepresent.j0])
  | succ kj2 =>
   have H:=HA.out;clear HA;simp only [impl_DoRepresent.j0] at H
   by_cases c12 : x13_2 = true
   ·subst c12;have H1 : (some (false,false)) = some (r1,r2):=by rw [if_pos rfl] at H;exact H
    clear H;have H:=H1;clear H1;simp only [Option.some.injEq,Prod.mk.injEq] at H
    obtain ⟨rfl,rfl⟩:=H;go_wp2
    go_ret2
    exact ⟨by first|rfl|(simp [errW_none,errW_some] <;> rfl)|(simp [*,errW_none,errW_some] <;> rfl),bb_⟩
   ·replace c12:=Bool.eq_false_iff.mpr c12;subst c12;have H1 : ((impl_orderOf.f kj2 l0).bind fun bt1294=>((impl_Order_same.f kj2 bt1294.1 bt1294.2 a1_0 l1_1).bind fun t1298=>(some (t1298,true)))) = some (r1,r2):=by rw [if_neg (show ¬ (false = true) by decide)] at H;exact H
    clear H;have H:=H1;clear H1;replace H:=Option.bind_eq_some_iff.mp H;obtain ⟨⟨t1294,t1295⟩,A130,H⟩:=H;replace H : ((impl_Order_same.f kj2 t1294 t1295 a1_0 l1_1).bind fun t1298=>(some (t1298,true))) = some (r1,r2):=H;have A13:=A_ A130;clear A130;replace H:=Option.bind_eq_some_iff.mp H;obtain ⟨t1298,A140,H⟩:=H;replace H : (some (t1298,true)) = some (r1,r2):=H;have A14:=A_ A140;clear A140;simp only [Option.some.injEq,Prod.mk.injEq] at H
    obtain ⟨rfl,rfl⟩:=H;try go_wp2
    replace BK1291:=A_ (blk_drew BK1291.out);replace HB:=A_ (below_drew1 HB.out);refine start_ (n:=6) (S:=fun w'=>w'.cell? ⟨gb1291,0,none⟩ = some (.int .i64 a1_0) ∧ w'.cell? ⟨gb1291,1,none⟩ = some (.slice A1_1 l1_1.length c1_1)) (ds:=[]) #[F,F,F,F,F,F] (by kernel_rfl) rfl rfl ⟨blk_cell BK1291.out 0,blk_cell BK1291.out 1⟩ (fun hHeld=>?_)
    generalize wc.drew = w15 at BK1291 HB hHeld ⊢
    refine pure_ (i:=0) (N:=some 14) (v:=?_) (a':=?_) #[T,F,F,F,F,F] rfl rfl (by kernel_rfl) (fun _ _ _ h=>h) (Or.inl ⟨by rfl,?_⟩) ?_ ?_
    rotate_left;·intro w';go_simp;with_reducible rfl
    rotate_left;·simp only [Act.put,L_,M_,N_,i64_w,i32_w];rfl
    refine take_ (i:=2) (N:=some 16) (v:=?_) (a':=?_) #[T,F,T,F,F,F] rfl rfl (by kernel_rfl) (fun _ _ _ h=>h) (Or.inl ⟨by rfl,?_⟩) hHeld ?_ ?_
    rotate_left
    ·rintro w' ⟨s0,s1⟩
     go_simp
     with_reducible rfl
    rotate_left;·simp only [Act.put,L_,M_,N_,i64_w,i32_w];rfl
    refine one_ (i:=1) (N:=some 15) #[T,T,T,F,F,F] rfl rfl (by kernel_rfl) (by decide) (fun K hK=>?_)
    refine goes_ Tryd.func131 (by kernel_rfl) rfl #[.slice A0 l0.length c0] (by rfl) rfl rfl au_ ?_
    with_reducible refine (impl_orderOf.calls kj2 _ _ l0 t1294 t1295 _ ?side1 ?side2 A13.out).mono ?_
    (case side1=>exact cl_ (Kd.C_below HR0.out HB.out))
    (case side2=>exact HC0.out)
    rintro e w16 ⟨v1296,rfl,ho0,hb⟩
    refine ⟨_,rfl,?_⟩
    have HO1297:=A_ (Kd.R_lower ho0 (below_size bb_));replace BK1291:=bz BK1291 hb;replace HB:=A_ (below_step bb_ hb);(try clear hb);(try clear hb2);(try clear hk);(try clear hi);(try clear ho0);obtain ⟨Ao17,co17,eo17⟩:=Kd.R_slice HO1297.out;(first|subst eo17|(injection eo17 with f1_ f2_ f3_;have f4_:=f1_.symm;have f5_:=f3_.symm;clear f1_ f2_ f3_;subst f4_;subst f5_))
    refine hK.out _ _ ⟨blk_cell BK1291.out 0,blk_cell BK1291.out 1⟩ (fun hHeld=>?_)
    clear hK K;refine norm_ (a':=?_) ?_ ?_
    rotate_left
    ·show Act.put _ (some 15) _ = _
     simp only [Act.put,L_,M_,N_,i64_w,i32_w]
     rfl
    refine one_ (i:=3) (N:=some 17) #[T,T,T,T,F,F] rfl rfl (by kernel_rfl) (by decide) (fun K hK=>?_)
    refine goes_ Tryd.func138 (by kernel_rfl) rfl #[.agg #[.int .i64 t1294,.slice Ao17 t1295.length co17],.agg #[.int .i64 a1_0,.slice A1_1 l1_1.length c1_1]] (by rfl) rfl rfl au_ ?_
    with_reducible refine (impl_Order_same.calls kj2 t1294 _ _ t1295 a1_0 _ _ l1_1 t1298 _ ?side1 ?side2 ?side3 ?side4 A14.out).mono ?_
    (case side1=>exact cl_ (Kd.R_reads' HO1297.out).2.2)
    (case side2=>exact (Kd.R_reads' HO1297.out).2.1)
    (case side3=>exact cl_ (Kd.C_below HR1_1.out HB.out))
    (case side4=>exact HC1_1.out)
    rintro e w18 ⟨rfl,hb⟩
    refine ⟨_,rfl,?_⟩
    replace HO1297:=rb_ HO1297 hb;replace BK1291:=bz BK1291 hb;replace HB:=A_ (below_step bb_ hb);(try clear hb);(try clear hb2);(try clear hk);(try clear hi);refine hK.out _ _ ⟨blk_cell BK1291.out 0,blk_cell BK1291.out 1⟩ (fun hHeld=>?_)
    clear hK K;refine norm_ (a':=?_) ?_ ?_
    rotate_left
    ·show Act.put _ (some 17) _ = _
     simp only [Act.put,L_,M_,N_,i64_w,i32_w]
     rfl
    refine pure_ (i:=4) (N:=some 4) (v:=?_) (a':=?_) #[T,T,T,T,T,F] rfl rfl (by kernel_rfl) (fun _ _ _ h=>h) (Or.inl ⟨by rfl,?_⟩) ?_ ?_
    rotate_left;·intro w';go_simp;with_reducible rfl
    rotate_left;·simp only [Act.put,L_,M_,N_,i64_w,i32_w];rfl
    refine pure_ (i:=5) (N:=some 5) (v:=?_) (a':=?_) #[T,T,T,T,T,T] rfl rfl (by kernel_rfl) (fun _ _ _ h=>h) (Or.inl ⟨by rfl,?_⟩) ?_ ?_
    rotate_left;·intro w';go_simp;with_reducible rfl
    rotate_left;·simp only [Act.put,L_,M_,N_,i64_w,i32_w];rfl
    refine done_ (by kernel_rfl) ?_
    try go_wp2
    go_ret2
    exact ⟨by first|rfl|(simp [errW_none,errW_some] <;> rfl)|(simp [*,errW_none,errW_some] <;> rfl),bb_⟩
theorem eqA62 (d : Nat) (w : World) (x0 y0 : Int) (x1 y1 : Int) :
 (Op.equalIn (d + 2) 62 (.agg #[.int .i64 x0,.int .i64 x1]) (.agg #[.int .i64 y0,.int .i64 y1])).run Tryd.prog w = .ok (x0 == y0 && (x1 == y1)) w:=by
 refine eqA_of Tryd.underlying62 (by kernel_rfl) ?_
 refine eqf_cons (by rfl) (by go_simp;rfl) (by go_simp;rfl) (by go_simp) ?_
 exact eqf_last (by rfl) (by go_simp;rfl) (by go_simp;rfl) (by go_simp)
end Go.Proofs.YtimjblnglhmakaaDoor.P
namespace Go.Proofs.YtimjblnglhmakaaDoor.P
open Go.RowKit Go.Proofs.YtimjblnglhmakaaDoorW.PrintWords Go.Proofs.YtimjblnglhmakaaDoorW.PrintLast Go.Proofs.YtimjblnglhmakaaDoorW.PrintMore
open Bool renaming true → T, false → F
open List renaming setIfInBounds_toArray → L_, set_cons_zero → M_, set_cons_succ → N_, map_toArray → P_, map_cons → Q_, map_nil → R_, length_drop → S_, length_take → U_
open Aside0 renaming mk → A_
attribute [local go_sem] max2_int min2_int max_two min_two max_three min_three max_four min_four
set_option linter.unusedVariables false
set_option linter.unusedSimpArgs false
attribute [local go_sem] fldOrder_0 fldOrder_1
attribute [local go_sem high] eqA62
def impl_Interval.l0 : Nat → List (S62) → List (S62) → Int → Int → Option (Bool)
 | 0,_,_,_,_=>none
 | k + 1,x0,x1,x12,x13=>if x13 < x12 then (if 0 ≤ x13 then (if x13 < (x0.length : Int) then (if x13 < (x1.length : Int) then (if (!(((rd_T62 x0 x13).f0) == ((rd_T62 x1 x13).f0)) || (!(((rd_T62 x0 x13).f1) == ((rd_T62 x1 x13).f1)))) = true then (some false) else (impl_Interval.l0 k x0 x1 x12 (wrap64 (x13 + 1)))) else (none)) else (none)) else (none)) else (some true)
def impl_Interval.f (k : Nat) (l0 : List (S62)) (l1 : List (S62)) : Option (Bool) := if (l0.length : Int) = (l1.length : Int) then (impl_Interval.l0 k l0 l1 (l0.length : Int) 0) else (some false)
set_option maxHeartbeats 8000000 in
set_option maxRecDepth 100000 in
theorem impl_Interval.calls (k : Nat) (A0 : Option Addr) (c0 : Nat) (l0 : List (S62)) (A1 : Option Addr) (c1 : Nat) (l1 : List (S62)) (r : Bool) (w : World) (hr0 : Kd.C k62 w A0 l0.length l0) (hc0 : l0.length ≤ c0) (hr1 : Kd.C k62 w A1 l1.length l1) (hc1 : l1.length ≤ c1) (h : impl_Interval.f k l0 l1 = some r) :
 Calls Tryd.prog 139 #[.slice A0 l0.length c0,.slice A1 l1.length c1] w fun e w'=>e = .returned (.bool r) ∧ Drawn0 w w':=by
 have hu62:=Tryd.underlying62;have HR0:=A_ hr0;have HC0:=A_ hc0;clear hr0 hc0;have HR1:=A_ hr1;have HC1:=A_ hc1;clear hr1 hc1;have H : (if (l0.length : Int) = (l1.length : Int) then (impl_Interval.l0 k l0 l1 (l0.length : Int) 0) else (some false)) = some r:=h;clear h;by_cases c3 : (l0.length : Int) = (l1.length : Int)
 ·rw [if_pos c3] at H;have c3b0 : ((l0.length : Int) == (l1.length : Int)) = true:=beq_iff_eq.mpr c3;have c3b1 : ((l0.length : Int) != (l1.length : Int)) = false:=bne_eq_false_iff_eq.mpr c3;have c3b2 : (l0.length == l1.length) = true:=by first|simpa using c3|(simp at c3 ⊢;omega)
  clear c3;have H':=A_ H;clear H;go_enter Tryd.func139,Tryd.ntmps139
  go_wp2
  repeat (go_quiet (fail);try go_wp2)
  go_loopg [13] k (fun kq v13 w'=>∃ (x13_1 : Int),v13 = .int .i64 x13_1 ∧ Aside0 (impl_Interval.l0 kq l0 l1 (l0.length : Int) x13_1 = some r) ∧ Aside0 (kq ≤ k) ∧ Drawn0 w w')
  case atStart=>exact ⟨(0),(by first|rfl|(simp;done)|(simp [*];done)),H',⟨Nat.le_refl _⟩,by repeat (first|exact Drawn0.refl _|apply Drawn0.step)⟩
  case round =>
   clear H';try clear c1
   try clear p2
   try clear c3
   try clear c3b0
   try clear c3b1
   try clear c3b2
   obtain ⟨x13_1,rfl,HA,HK1,⟨m1,rfl⟩⟩:=hrel;cases gk with
   | zero=>exact absurd HA.out (by simp [impl_Interval.l0])
   | succ k1 =>
    have H:=HA.out;clear HA;simp only [impl_Interval.l0] at H
    by_cases c4 : x13_1 < (l0.length : Int)
    ·rw [if_pos c4] at H;have c4b0 : decide (x13_1 < (l0.length : Int)) = true:=decide_eq_true c4;clear c4;by_cases c5 : 0 ≤ x13_1
     ·rw [if_pos c5] at H;have c5b0 : decide (0 ≤ x13_1) = true:=decide_eq_true c5;clear c5;by_cases c6 : x13_1 < (l0.length : Int)
      ·rw [if_pos c6] at H;have c6b0 : decide (x13_1 < (l0.length : Int)) = true:=decide_eq_true c6;clear c6;by_cases c7 : x13_1 < (l1.length : Int)
       ·rw [if_pos c7] at H;have c7b0 : decide (x13_1 < (l1.length : Int)) = true:=decide_eq_true c7;clear c7;by_cases c8 : (!(((rd_T62 l0 x13_1).f0) == ((rd_T62 l1 x13_1).f0)) || (!(((rd_T62 l0 x13_1).f1) == ((rd_T62 l1 x13_1).f1)))) = true
        ·rw [if_pos c8] at H;have c8b0 : (!(((rd_T62 l0 x13_1).f0) == ((rd_T62 l1 x13_1).f0)) || (!(((rd_T62 l0 x13_1).f1) == ((rd_T62 l1 x13_1).f1)))) = true:=c8;clear c8;obtain rfl:=Option.some.inj H;have p1299 : 0 ≤ (x13_1 : Int):=of_decide_eq_true (by first|(with_reducible assumption)|assumption);have q1299 : x13_1 < (l0.length : Int):=of_decide_eq_true (by first|(with_reducible assumption)|assumption);obtain ⟨ad1299,e1299,hx1299_0,hx1299_1⟩:=at_T62 HR0.out x13_1 p1299 q1299;cases e1299
         replace p1299:=eq_true p1299;replace q1299:=eq_true q1299;have p1300 : 0 ≤ (x13_1 : Int):=of_decide_eq_true (by first|(with_reducible assumption)|assumption);have q1300 : x13_1 < (l1.length : Int):=of_decide_eq_true (by first|(with_reducible assumption)|assumption);obtain ⟨ad1300,e1300,hx1300_0,hx1300_1⟩:=at_T62 HR1.out x13_1 p1300 q1300;cases e1300
         replace p1300:=eq_true p1300;replace q1300:=eq_true q1300;go_wp2
         repeat (go_quiet (fail);try go_wp2)
         go_ret
         exact ⟨by first|rfl|(simp;done)|(simp [*];done),by repeat (first|exact Drawn0.refl _|apply Drawn0.step)⟩
        ·rw [if_neg c8] at H;have c8b0 : (!(((rd_T62 l0 x13_1).f0) == ((rd_T62 l1 x13_1).f0)) || (!(((rd_T62 l0 x13_1).f1) == ((rd_T62 l1 x13_1).f1)))) = false:=by simpa using c8
         clear c8;have H':=A_ H;clear H;have p1299 : 0 ≤ (x13_1 : Int):=of_decide_eq_true (by first|(with_reducible assumption)|assumption);have q1299 : x13_1 < (l0.length : Int):=of_decide_eq_true (by first|(with_reducible assumption)|assumption);obtain ⟨ad1299,e1299,hx1299_0,hx1299_1⟩:=at_T62 HR0.out x13_1 p1299 q1299;cases e1299
         replace p1299:=eq_true p1299;replace q1299:=eq_true q1299;have p1300 : 0 ≤ (x13_1 : Int):=of_decide_eq_true (by first|(with_reducible assumption)|assumption);have q1300 : x13_1 < (l1.length : Int):=of_decide_eq_true (by first|(with_reducible assumption)|assumption);obtain ⟨ad1300,e1300,hx1300_0,hx1300_1⟩:=at_T62 HR1.out x13_1 p1300 q1300;cases e1300
         replace p1300:=eq_true p1300;replace q1300:=eq_true q1300;go_wp2
         repeat (go_quiet (fail);try go_wp2)
         go_roundg k1
         case measure=>have:=HK1.out;omega
         case rel=>exact ⟨(wrap64 (x13_1 + 1)),(by first|rfl|(simp;done)|(simp [*];done)),H',⟨by have:=HK1.out;omega⟩,by repeat (first|exact Drawn0.refl _|apply Drawn0.step)⟩
       ·rw [if_neg c7] at H;exact absurd H (by simp)
      ·rw [if_neg c6] at H;exact absurd H (by simp)
     ·rw [if_neg c5] at H;exact absurd H (by simp)
    ·rw [if_neg c4] at H;have c4b0 : decide (x13_1 < (l0.length : Int)) = false:=decide_eq_false c4;clear c4;obtain rfl:=Option.some.inj H;go_wp2
     repeat (go_quiet (fail);try go_wp2)
     go_ret
     exact ⟨by first|rfl|(simp;done)|(simp [*];done),by repeat (first|exact Drawn0.refl _|apply Drawn0.step)⟩
 ·rw [if_neg c3] at H;have c3b0 : ((l0.length : Int) == (l1.length : Int)) = false:=beq_eq_false_iff_ne.mpr c3;have c3b1 : ((l0.length : Int) != (l1.length : Int)) = true:=bne_iff_ne.mpr c3;have c3b2 : (l0.length == l1.length) = false:=by first|simpa using c3|(simp at c3 ⊢;omega)
  obtain rfl:=Option.some.inj H;go_enter Tryd.func139,Tryd.ntmps139
  go_wp2
  repeat (go_quiet (fail);try go_wp2)
  go_ret
  exact ⟨by first|rfl|(simp;done)|(simp [*];done),by repeat (first|exact Drawn0.refl _|apply Drawn0.step)⟩
end Go.Proofs.YtimjblnglhmakaaDoor.P
namespace Go.Proofs.YtimjblnglhmakaaDoor.P
open Go.RowKit Go.Proofs.YtimjblnglhmakaaDoorW.PrintWords Go.Proofs.YtimjblnglhmakaaDoorW.PrintLast Go.Proofs.YtimjblnglhmakaaDoorW.PrintMore
open Bool renaming true → T, false → F
open List renaming setIfInBounds_toArray → L_, set_cons_zero → M_, set_cons_succ → N_, map_toArray → P_, map_cons → Q_, map_nil → R_, length_drop → S_, length_take → U_
open Aside0 renaming mk → A_
attribute [local go_sem] max2_int min2_int max_two min_two max_three min_three max_four min_four
set_option linter.unusedVariables false
set_option linter.unusedSimpArgs false
attribute [local go_sem] fldOrder_0 fldOrder_1
def impl_AreLeastEnds.f (k : Nat) (l0 : List (S62)) : Option (Bool × Bool) := (impl_AreIntervals.f k l0).bind fun t1301 => (if t1301 = true then ((impl_orderOf.f k l0).bind fun bt1302 => ((impl_Order_ends.f k bt1302.1 bt1302.2).bind fun t1306 => ((impl_Interval.f k t1306 l0).bind fun t1309 => (some (t1309, true))))) else (some (false, false)))
set_option maxHeartbeats 8000000 in
set_option maxRecDepth 100000 in
theorem impl_AreLeastEnds.calls (k : Nat) (A0 : Option Addr) (c0 : Nat) (l0 : List (S62)) (r1 : Bool) (r2 : Bool) (w : World) (hr0 : Kd.C k62 w A0 l0.length l0) (hc0 : l0.length ≤ c0) (h : impl_AreLeastEnds.f k l0 = some (r1,r2)) :
 Calls Tryd.prog 51 #[.slice A0 l0.length c0] w fun e w'=>e = .returned (.tuple #[.bool r1,.bool r2]) ∧ Below w.heap.size w w':=by
 have HR0:=A_ hr0;have HC0:=A_ hc0;clear hr0 hc0;have HB:=A_ (Below.refl w.heap.size w);have H : ((impl_AreIntervals.f k l0).bind fun t1301=>(if t1301 = true then ((impl_orderOf.f k l0).bind fun bt1302=>((impl_Order_ends.f k bt1302.1 bt1302.2).bind fun t1306=>((impl_Interval.f k t1306 l0).bind fun t1309=>(some (t1309,true))))) else (some (false,false)))) = some (r1,r2):=h;clear h;replace H:=Option.bind_eq_some_iff.mp H;obtain ⟨t1301,A20,H⟩:=H;replace H : (if t1301 = true then ((impl_orderOf.f k l0).bind fun bt1302=>((impl_Order_ends.f k bt1302.1 bt1302.2).bind fun t1306=>((impl_Interval.f k t1306 l0).bind fun t1309=>(some (t1309,true))))) else (some (false,false))) = some (r1,r2):=H;have A2:=A_ A20;clear A20;by_cases c3 : t1301 = true
 ·subst c3;have H1 : ((impl_orderOf.f k l0).bind fun bt1302=>((impl_Order_ends.f k bt1302.1 bt1302.2).bind fun t1306=>((impl_Interval.f k t1306 l0).bind fun t1309=>(some (t1309,true))))) = some (r1,r2):=by rw [if_pos rfl] at H;exact H
  clear H;have H:=H1;clear H1;replace H:=Option.bind_eq_some_iff.mp H;obtain ⟨⟨t1302,t1303⟩,A40,H⟩:=H;replace H : ((impl_Order_ends.f k t1302 t1303).bind fun t1306=>((impl_Interval.f k t1306 l0).bind fun t1309=>(some (t1309,true)))) = some (r1,r2):=H;have A4:=A_ A40;clear A40;replace H:=Option.bind_eq_some_iff.mp H;obtain ⟨t1306,A50,H⟩:=H;replace H : ((impl_Interval.f k t1306 l0).bind fun t1309=>(some (t1309,true))) = some (r1,r2):=H;have A5:=A_ A50;clear A50;replace H:=Option.bind_eq_some_iff.mp H;obtain ⟨t1309,A60,H⟩:=H;replace H : (some (t1309,true)) = some (r1,r2):=H;have A6:=A_ A60;clear A60;simp only [Option.some.injEq,Prod.mk.injEq] at H
  obtain ⟨rfl,rfl⟩:=H;go_enter Tryd.func51,Tryd.ntmps51
  go_wp2_with (first|((with_reducible refine gate_callee (f:=47) rfl ?_);refine goesL_ (some 5) rfl rfl Tryd.func47 (by kernel_rfl) rfl #[.slice A0 l0.length c0] rfl au_ ?_;(with_reducible refine (impl_AreIntervals.calls k _ _ l0 true _ ?side1 ?side2 A2.out).mono ?_);(case side1=>repeat (first|exact HR0.out|(with_reducible refine Kd.C_alloc ?_ _)|(with_reducible refine Kd.C_drewN ?_ _)|(with_reducible refine Kd.C_drew ?_)));(case side2=>exact HC0.out);rintro e w7 ⟨rfl,hb⟩;refine ⟨_,rfl,?_⟩;replace HB:=A_ (below_step bb_ hb);(try clear hb);(try clear hb2);(try clear hk);(try clear hi))|((with_reducible refine gate_callee (f:=131) rfl ?_);refine goesL_ (some 8) rfl rfl Tryd.func131 (by kernel_rfl) rfl #[.slice A0 l0.length c0] rfl au_ ?_;(with_reducible refine (impl_orderOf.calls k _ _ l0 t1302 t1303 _ ?side1 ?side2 A4.out).mono ?_);(case side1=>exact cl_ (Kd.C_below HR0.out HB.out));(case side2=>exact HC0.out);rintro e w8 ⟨v1304,rfl,ho0,hb⟩;refine ⟨_,rfl,?_⟩;have HO1305:=A_ (Kd.R_lower ho0 (below_size bb_));replace HB:=A_ (below_step bb_ hb);(try clear hb);(try clear hb2);(try clear hk);(try clear hi);(try clear ho0);obtain ⟨Ao9,co9,eo9⟩:=Kd.R_slice HO1305.out;subst eo9)|((with_reducible refine gate_callee (f:=135) rfl ?_);refine goesL_ (some 9) rfl rfl Tryd.func135 (by kernel_rfl) rfl #[.agg #[.int .i64 t1302,.slice Ao9 t1303.length co9]] rfl au_ ?_;(with_reducible refine (impl_Order_ends.calls k t1302 _ _ t1303 t1306 _ ?side1 ?side2 A5.out).mono ?_);(case side1=>exact cl_ (Kd.R_reads' HO1305.out).2.2);(case side2=>exact (Kd.R_reads' HO1305.out).2.1);rintro e w10 ⟨v1307,rfl,ho0,hb⟩;refine ⟨_,rfl,?_⟩;replace HO1305:=rb_ HO1305 hb;have HO1308:=A_ (Kd.R_lower ho0 (below_size bb_));replace HB:=A_ (below_step bb_ hb);(try clear hb);(try clear hb2);(try clear hk);(try clear hi);(try clear ho0);obtain ⟨Ao11,co11,eo11⟩:=Kd.R_slice HO1308.out;subst eo11)|((with_reducible refine gate_callee (f:=139) rfl ?_);refine goesL_ (some 11) rfl rfl Tryd.func139 (by kernel_rfl) rfl #[.slice Ao11 t1306.length co11,.slice A0 l0.length c0] rfl au_ ?_;(with_reducible refine (impl_Interval.calls k _ _ t1306 _ _ l0 t1309 _ ?side1 ?side2 ?side3 ?side4 A6.out).mono ?_);(case side1=>exact cl_ (Kd.R_reads' HO1308.out).2.2);(case side2=>exact (Kd.R_reads' HO1308.out).2.1);(case side3=>exact cl_ (Kd.C_below HR0.out HB.out));(case side4=>exact HC0.out);rintro e w' ⟨rfl,⟨nd,rfl⟩⟩;refine ⟨_,rfl,?_⟩))
  go_ret2
  exact ⟨by first|rfl|(simp [errW_none,errW_some] <;> rfl)|(simp [*,errW_none,errW_some] <;> rfl),bb_⟩
 ·replace c3:=Bool.eq_false_iff.mpr c3;subst c3;have H1 : (some (false,false)) = some (r1,r2):=by rw [if_neg (show ¬ (false = true) by decide)] at H;exact H
  clear H;have H:=H1;clear H1;simp only [Option.some.injEq,Prod.mk.injEq] at H
  obtain ⟨rfl,rfl⟩:=H;go_enter Tryd.func51,Tryd.ntmps51
  go_wp2_with (first|((with_reducible refine gate_callee (f:=47) rfl ?_);refine goesL_ (some 5) rfl rfl Tryd.func47 (by kernel_rfl) rfl #[.slice A0 l0.length c0] rfl au_ ?_;(with_reducible refine (impl_AreIntervals.calls k _ _ l0 false _ ?side1 ?side2 A2.out).mono ?_);(case side1=>repeat (first|exact HR0.out|(with_reducible refine Kd.C_alloc ?_ _)|(with_reducible refine Kd.C_drewN ?_ _)|(with_reducible refine Kd.C_drew ?_)));(case side2=>exact HC0.out);rintro e w12 ⟨rfl,hb⟩;refine ⟨_,rfl,?_⟩;replace HB:=A_ (below_step bb_ hb);(try clear hb);(try clear hb2);(try clear hk);(try clear hi)))
  go_ret2
  exact ⟨by first|rfl|(simp [errW_none,errW_some] <;> rfl)|(simp [*,errW_none,errW_some] <;> rfl),bb_⟩
end Go.Proofs.YtimjblnglhmakaaDoor.P
namespace Go.Proofs.YtimjblnglhmakaaDoor.P
open Go.RowKit Go.Proofs.YtimjblnglhmakaaDoorW.PrintWords Go.Proofs.YtimjblnglhmakaaDoorW.PrintLast Go.Proofs.YtimjblnglhmakaaDoorW.PrintMore
open Bool renaming true → T, false → F
open List renaming setIfInBounds_toArray → L_, set_cons_zero → M_, set_cons_succ → N_, map_toArray → P_, map_cons → Q_, map_nil → R_, length_drop → S_, length_take → U_
open Aside0 renaming mk → A_
attribute [local go_sem] max2_int min2_int max_two min_two max_three min_three max_four min_four
set_option linter.unusedVariables false
set_option linter.unusedSimpArgs false
attribute [local go_sem] fldOrder_0 fldOrder_1
attribute [local go_sem high] eqA62
def laws_pSameIntervals.l0 : Nat → List (S62) → List (S62) → Int → Int → Option (Bool)
 | 0,_,_,_,_=>none
 | k + 1,x0,x1,x12,x13=>if x13 < x12 then (if 0 ≤ x13 then (if x13 < (x0.length : Int) then (if x13 < (x1.length : Int) then (if (!(((rd_T62 x0 x13).f0) == ((rd_T62 x1 x13).f0)) || (!(((rd_T62 x0 x13).f1) == ((rd_T62 x1 x13).f1)))) = true then (some false) else (laws_pSameIntervals.l0 k x0 x1 x12 (wrap64 (x13 + 1)))) else (none)) else (none)) else (none)) else (some true)
def laws_pSameIntervals.f (k : Nat) (l0 : List (S62)) (l1 : List (S62)) : Option (Bool) := if (l0.length : Int) = (l1.length : Int) then (laws_pSameIntervals.l0 k l0 l1 (l0.length : Int) 0) else (some false)
set_option maxHeartbeats 8000000 in
set_option maxRecDepth 100000 in
theorem laws_pSameIntervals.calls (k : Nat) (A0 : Option Addr) (c0 : Nat) (l0 : List (S62)) (A1 : Option Addr) (c1 : Nat) (l1 : List (S62)) (r : Bool) (w : World) (hr0 : Kd.C k62 w A0 l0.length l0) (hc0 : l0.length ≤ c0) (hr1 : Kd.C k62 w A1 l1.length l1) (hc1 : l1.length ≤ c1) (h : laws_pSameIntervals.f k l0 l1 = some r) :
 Calls Tryd.prog 52 #[.slice A0 l0.length c0,.slice A1 l1.length c1] w fun e w'=>e = .returned (.bool r) ∧ Drawn0 w w':=by
 have hu62:=Tryd.underlying62;have HR0:=A_ hr0;have HC0:=A_ hc0;clear hr0 hc0;have HR1:=A_ hr1;have HC1:=A_ hc1;clear hr1 hc1;have H : (if (l0.length : Int) = (l1.length : Int) then (laws_pSameIntervals.l0 k l0 l1 (l0.length : Int) 0) else (some false)) = some r:=h;clear h;by_cases c3 : (l0.length : Int) = (l1.length : Int)
 ·rw [if_pos c3] at H;have c3b0 : ((l0.length : Int) == (l1.length : Int)) = true:=beq_iff_eq.mpr c3;have c3b1 : ((l0.length : Int) != (l1.length : Int)) = false:=bne_eq_false_iff_eq.mpr c3;have c3b2 : (l0.length == l1.length) = true:=by first|simpa using c3|(simp at c3 ⊢;omega)
  clear c3;have H':=A_ H;clear H;go_enter Tryd.func52,Tryd.ntmps52
  go_wp2
  repeat (go_quiet (fail);try go_wp2)
  go_loopg [13] k (fun kq v13 w'=>∃ (x13_1 : Int),v13 = .int .i64 x13_1 ∧ Aside0 (laws_pSameIntervals.l0 kq l0 l1 (l0.length : Int) x13_1 = some r) ∧ Aside0 (kq ≤ k) ∧ Drawn0 w w')
  case atStart=>exact ⟨(0),(by first|rfl|(simp;done)|(simp [*];done)),H',⟨Nat.le_refl _⟩,by repeat (first|exact Drawn0.refl _|apply Drawn0.step)⟩
  case round =>
   clear H';try clear c1
   try clear p2
   try clear c3
   try clear c3b0
   try clear c3b1
   try clear c3b2
   obtain ⟨x13_1,rfl,HA,HK1,⟨m1,rfl⟩⟩:=hrel;cases gk with
   | zero=>exact absurd HA.out (by simp [laws_pSameIntervals.l0])
   | succ k1 =>
    have H:=HA.out;clear HA;simp only [laws_pSameIntervals.l0] at H
    by_cases c4 : x13_1 < (l0.length : Int)
    ·rw [if_pos c4] at H;have c4b0 : decide (x13_1 < (l0.length : Int)) = true:=decide_eq_true c4;clear c4;by_cases c5 : 0 ≤ x13_1
     ·rw [if_pos c5] at H;have c5b0 : decide (0 ≤ x13_1) = true:=decide_eq_true c5;clear c5;by_cases c6 : x13_1 < (l0.length : Int)
      ·rw [if_pos c6] at H;have c6b0 : decide (x13_1 < (l0.length : Int)) = true:=decide_eq_true c6;clear c6;by_cases c7 : x13_1 < (l1.length : Int)
       ·rw [if_pos c7] at H;have c7b0 : decide (x13_1 < (l1.length : Int)) = true:=decide_eq_true c7;clear c7;by_cases c8 : (!(((rd_T62 l0 x13_1).f0) == ((rd_T62 l1 x13_1).f0)) || (!(((rd_T62 l0 x13_1).f1) == ((rd_T62 l1 x13_1).f1)))) = true
        ·rw [if_pos c8] at H;have c8b0 : (!(((rd_T62 l0 x13_1).f0) == ((rd_T62 l1 x13_1).f0)) || (!(((rd_T62 l0 x13_1).f1) == ((rd_T62 l1 x13_1).f1)))) = true:=c8;clear c8;obtain rfl:=Option.some.inj H;have p1310 : 0 ≤ (x13_1 : Int):=of_decide_eq_true (by first|(with_reducible assumption)|assumption);have q1310 : x13_1 < (l0.length : Int):=of_decide_eq_true (by first|(with_reducible assumption)|assumption);obtain ⟨ad1310,e1310,hx1310_0,hx1310_1⟩:=at_T62 HR0.out x13_1 p1310 q1310;cases e1310
         replace p1310:=eq_true p1310;replace q1310:=eq_true q1310;have p1311 : 0 ≤ (x13_1 : Int):=of_decide_eq_true (by first|(with_reducible assumption)|assumption);have q1311 : x13_1 < (l1.length : Int):=of_decide_eq_true (by first|(with_reducible assumption)|assumption);obtain ⟨ad1311,e1311,hx1311_0,hx1311_1⟩:=at_T62 HR1.out x13_1 p1311 q1311;cases e1311
         replace p1311:=eq_true p1311;replace q1311:=eq_true q1311;go_wp2
         repeat (go_quiet (fail);try go_wp2)
         go_ret
         exact ⟨by first|rfl|(simp;done)|(simp [*];done),by repeat (first|exact Drawn0.refl _|apply Drawn0.step)⟩
        ·rw [if_neg c8] at H;have c8b0 : (!(((rd_T62 l0 x13_1).f0) == ((rd_T62 l1 x13_1).f0)) || (!(((rd_T62 l0 x13_1).f1) == ((rd_T62 l1 x13_1).f1)))) = false:=by simpa using c8
         clear c8;have H':=A_ H;clear H;have p1310 : 0 ≤ (x13_1 : Int):=of_decide_eq_true (by first|(with_reducible assumption)|assumption);have q1310 : x13_1 < (l0.length : Int):=of_decide_eq_true (by first|(with_reducible assumption)|assumption);obtain ⟨ad1310,e1310,hx1310_0,hx1310_1⟩:=at_T62 HR0.out x13_1 p1310 q1310;cases e1310
         replace p1310:=eq_true p1310;replace q1310:=eq_true q1310;have p1311 : 0 ≤ (x13_1 : Int):=of_decide_eq_true (by first|(with_reducible assumption)|assumption);have q1311 : x13_1 < (l1.length : Int):=of_decide_eq_true (by first|(with_reducible assumption)|assumption);obtain ⟨ad1311,e1311,hx1311_0,hx1311_1⟩:=at_T62 HR1.out x13_1 p1311 q1311;cases e1311
         replace p1311:=eq_true p1311;replace q1311:=eq_true q1311;go_wp2
         repeat (go_quiet (fail);try go_wp2)
         go_roundg k1
         case measure=>have:=HK1.out;omega
         case rel=>exact ⟨(wrap64 (x13_1 + 1)),(by first|rfl|(simp;done)|(simp [*];done)),H',⟨by have:=HK1.out;omega⟩,by repeat (first|exact Drawn0.refl _|apply Drawn0.step)⟩
       ·rw [if_neg c7] at H;exact absurd H (by simp)
      ·rw [if_neg c6] at H;exact absurd H (by simp)
     ·rw [if_neg c5] at H;exact absurd H (by simp)
    ·rw [if_neg c4] at H;have c4b0 : decide (x13_1 < (l0.length : Int)) = false:=decide_eq_false c4;clear c4;obtain rfl:=Option.some.inj H;go_wp2
     repeat (go_quiet (fail);try go_wp2)
     go_ret
     exact ⟨by first|rfl|(simp;done)|(simp [*];done),by repeat (first|exact Drawn0.refl _|apply Drawn0.step)⟩
 ·rw [if_neg c3] at H;have c3b0 : ((l0.length : Int) == (l1.length : Int)) = false:=beq_eq_false_iff_ne.mpr c3;have c3b1 : ((l0.length : Int) != (l1.length : Int)) = true:=bne_iff_ne.mpr c3;have c3b2 : (l0.length == l1.length) = false:=by first|simpa using c3|(simp at c3 ⊢;omega)
  obtain rfl:=Option.some.inj H;go_enter Tryd.func52,Tryd.ntmps52
  go_wp2
  repeat (go_quiet (fail);try go_wp2)
  go_ret
  exact ⟨by first|rfl|(simp;done)|(simp [*];done),by repeat (first|exact Drawn0.refl _|apply Drawn0.step)⟩
end Go.Proofs.YtimjblnglhmakaaDoor.P
