/- A part of the proof that the law FnExactTraceOf holds at every input. Written by wip/pack.py: the kit's printed words that are used, the functions' walks as wip/gen.py prints them, and hand proofs. -/
import Derived.Test.YtimjblnglhmakaaDoorKFnExactTraceOf0
namespace Go.Proofs.YtimjblnglhmakaaDoor.P
open Go.RowKit Go.Proofs.YtimjblnglhmakaaDoorW.PrintWords Go.Proofs.YtimjblnglhmakaaDoorW.PrintLast Go.Proofs.YtimjblnglhmakaaDoorW.PrintMore
open Bool renaming true → T, false → F
open List renaming setIfInBounds_toArray → L_, set_cons_zero → M_, set_cons_succ → N_, map_toArray → P_, map_cons → Q_, map_nil → R_, length_drop → S_, length_take → U_
open Aside0 renaming mk → A_
attribute [local go_sem] max2_int min2_int max_two min_two max_three min_three max_four min_four
set_option linter.unusedVariables false
set_option linter.unusedSimpArgs false
attribute [local go_sem] fldOrder_0 fldOrder_1
mutual
def spec_ThreeOneOf.l0 : Nat → Int → Int → List Int → Option (List Int × Bool)
 | 0,_,_,_=>none
 | k + 1,x4,x128000,x128001=>if x4 < x128000 then (if 0 ≤ x4 then (if x4 < (x128001.length : Int) then ((spec_orList.f k (rd x128001 x4)).bind fun t130=>(spec_ThreeOneOf.l1 k x4 t130 (t130.length : Int) 0 x128000 x128001)) else (none)) else (none)) else (some (([] : List Int),false))
def spec_ThreeOneOf.l1 : Nat → Int → List Int → Int → Int → Int → List Int → Option (List Int × Bool)
 | 0,_,_,_,_,_,_=>none
 | k + 1,x4,x25,x26,x27,x128000,x128001=>if x27 < x26 then (if 0 ≤ x27 then (if x27 < (x25.length : Int) then (if 0 ≤ (rd x25 x27) then (if (rd x25 x27) < (x128001.length : Int) then ((spec_orList.f k (rd x128001 (rd x25 x27))).bind fun t135=>(spec_ThreeOneOf.l2 k x4 (rd x25 x27) x25 x26 x27 t135 (t135.length : Int) 0 x128000 x128001)) else (none)) else (none)) else (none)) else (none)) else (spec_ThreeOneOf.l0 k (wrap64 (x4 + 1)) x128000 x128001)
def spec_ThreeOneOf.l2 : Nat → Int → Int → List Int → Int → Int → List Int → Int → Int → Int → List Int → Option (List Int × Bool)
 | 0,_,_,_,_,_,_,_,_,_,_=>none
 | k + 1,x4,x6,x25,x26,x27,x36,x37,x38,x128000,x128001=>if x38 < x37 then (if 0 ≤ x38 then (if x38 < (x36.length : Int) then ((spec_orFree.f k x128000 x128001 x4).bind fun t139=>((spec_orFree.f k x128000 x128001 x6).bind fun t140=>((spec_orFree.f k x128000 x128001 (rd x36 x38)).bind fun t141=>((spec_orList.f k (Go.bits .and .i64 (Go.bits .and .i64 t139 t140) t141)).bind fun t142=>(spec_ThreeOneOf.l3 k x4 x6 (rd x36 x38) x25 x26 x27 x36 x37 x38 t142 (t142.length : Int) 0 x128000 x128001))))) else (none)) else (none)) else (spec_ThreeOneOf.l1 k x4 x25 x26 (wrap64 (x27 + 1)) x128000 x128001)
def spec_ThreeOneOf.l3 : Nat → Int → Int → Int → List Int → Int → Int → List Int → Int → Int → List Int → Int → Int → Int → List Int → Option (List Int × Bool)
 | 0,_,_,_,_,_,_,_,_,_,_,_,_,_,_=>none
 | k + 1,x4,x6,x8,x25,x26,x27,x36,x37,x38,x53,x54,x55,x128000,x128001=>if x55 < x54 then (if 0 ≤ x55 then (if x55 < (x53.length : Int) then (some ((([x4,x6,x8,rd x53 x55] : List Int)),true)) else (none)) else (none)) else (spec_ThreeOneOf.l2 k x4 x6 x25 x26 x27 x36 x37 (wrap64 (x38 + 1)) x128000 x128001)
end
def spec_ThreeOneOf.f (k : Nat) (a0_0 : Int) (l0_1 : List Int) : Option (List Int × Bool) := (spec_orGood.f k a0_0 l0_1).bind fun t128 => (if t128 = true then (spec_ThreeOneOf.l0 k 0 a0_0 l0_1) else (some (([] : List Int), false)))
def spec_ThreeOneOf.T12 : Bool × List (List Nat × List Nat) := (true, [([], []), ([], []), ([0, 1], [0, 1]), ([], []), ([], []), ([3, 4, 2], [3, 4]), ([2, 5], [2, 5]), ([], []), ([], []), ([7, 8, 5], [7, 8]), ([6, 9], [6, 9]), ([10, 9], [10]), ([11], [11]), ([], [])])
def spec_ThreeOneOf.B12 : List Nat := [0, 0, 3, 0, 0, 31, 63, 0, 0, 447, 1023, 2047, 4095, 0]
theorem spec_ThreeOneOf.tab12 : rtab .any (opsOf Tryd.f185 12) = spec_ThreeOneOf.T12:=by kernel_rfl
theorem spec_ThreeOneOf.bits12 : waitsOk spec_ThreeOneOf.T12.2 spec_ThreeOneOf.B12 = true:=by kernel_rfl
set_option maxHeartbeats 8000000 in
set_option maxRecDepth 100000 in
theorem spec_ThreeOneOf.calls (k : Nat) (a0_0 : Int) (A0_1 : Option Addr) (c0_1 : Nat) (l0_1 : List Int) (r1 : List Int) (r2 : Bool) (w : World) (hr0_1 : Kd.C (Kd.int .i64) w A0_1 l0_1.length l0_1) (hc0_1 : l0_1.length ≤ c0_1) (h : spec_ThreeOneOf.f k a0_0 l0_1 = some (r1,r2)) :
 Calls Tryd.prog 185 #[.agg #[.int .i64 a0_0,.slice A0_1 l0_1.length c0_1]] w fun e w'=>∃ v0_ : Value,e = .returned (.tuple #[v0_,.bool r2]) ∧ Kd.R (Kd.int .i64) 3 w' w.heap.size (fun _=>True) v0_ r1 ∧ Below w.heap.size w w':=by
 have hu28:=Tryd.underlying28;have HR0_1:=A_ hr0_1;have HC0_1:=A_ hc0_1;clear hr0_1 hc0_1;have HB:=A_ (Below.refl w.heap.size w);have H : ((spec_orGood.f k a0_0 l0_1).bind fun t128=>(if t128 = true then (spec_ThreeOneOf.l0 k 0 a0_0 l0_1) else (some (([] : List Int),false)))) = some (r1,r2):=h;clear h;replace H:=Option.bind_eq_some_iff.mp H;obtain ⟨t128,A20,H⟩:=H;replace H : (if t128 = true then (spec_ThreeOneOf.l0 k 0 a0_0 l0_1) else (some (([] : List Int),false))) = some (r1,r2):=H;have A2:=A_ A20;clear A20;by_cases c3 : t128 = true
 ·subst c3;have H1 : (spec_ThreeOneOf.l0 k 0 a0_0 l0_1) = some (r1,r2):=by rw [if_pos rfl] at H;exact H
  clear H;have H:=H1;clear H1;have H':=A_ H;clear H;go_enter Tryd.func185,Tryd.ntmps185
  go_wp2_with (first|((with_reducible refine gate_dst (N:=1) rfl ?_);refine box_event ?hg (N:=1) ?hd (cs:=#[.int .i64 a0_0,.slice A0_1 l0_1.length c0_1]) (t:=28) ?hr ?_;(case hd=>rfl);(case hg=>rfl);(case hr=>first|(go_simp;done)|(go_simp;rfl));intro gb127 hg w4 hbox hb;have BK127:=A_ (hbox);have GW127:=A_ ((by rw [hg];exact (below_size bb_) : w.heap.size ≤ gb127));have GE127:=A_ ((by rw [hg];exact (below_size bb_) : w.heap.size ≤ gb127));replace HB:=A_ (below_step bb_ hb);clear hb hbox hg;have hcz5_0 : w4.cell? ⟨gb127,0,none⟩ = some (.int .i64 a0_0):=blk_cell BK127.out 0;have hcz5_1 : w4.cell? ⟨gb127,1,none⟩ = some (.slice A0_1 l0_1.length c0_1):=blk_cell BK127.out 1;have hfz5_0:=blk_frozen BK127.out 0;have hfz5_1:=blk_frozen BK127.out 1)|((with_reducible refine gate_callee (f:=142) rfl ?_);refine goesL_ (some 12) rfl rfl Tryd.func142 (by kernel_rfl) rfl #[.agg #[.int .i64 a0_0,.slice A0_1 l0_1.length c0_1]] rfl au_ ?_;(with_reducible refine (spec_orGood.calls k a0_0 _ _ l0_1 true _ ?side1 ?side2 A2.out).mono ?_);(case side1=>exact cl_ (Kd.C_below HR0_1.out HB.out));(case side2=>exact HC0_1.out);rintro e w6 ⟨rfl,hb⟩;refine ⟨_,rfl,?_⟩;replace BK127:=bz BK127 hb;replace HB:=A_ (below_step bb_ hb);(try clear hb);(try clear hb2);(try clear hk);(try clear hi)))
  go_loopg [4] k (fun kq v4 w'=>∃ (x4_1 : Int),v4 = .int .i64 x4_1 ∧ Aside0 (spec_ThreeOneOf.l0 kq x4_1 a0_0 l0_1 = some (r1,r2)) ∧ Aside0 (kq ≤ k) ∧ Aside0 (w'.heap[gb127]? = some (.cells #[.int .i64 a0_0,(.slice A0_1 l0_1.length c0_1)] 28 (0,0))) ∧ Aside0 (Below w.heap.size w w'))
  case atStart=>exact ⟨(0),(by first|rfl|(simp;done)|(simp [*];done)),H',⟨Nat.le_refl _⟩,⟨bl_ BK127⟩,⟨bb_⟩⟩
  case round =>
   clear H';try clear c1
   try clear p2
   try clear c3
   try clear hcz5_0
   try clear hcz5_1
   try clear hfz5_0
   try clear hfz5_1
   obtain ⟨x4_1,rfl,HA,HK1,BK127,HB⟩:=hrel;cases gk with
   | zero=>exact absurd HA.out (by simp [spec_ThreeOneOf.l0])
   | succ k1 =>
    have H:=HA.out;clear HA;simp only [spec_ThreeOneOf.l0] at H
    by_cases c7 : x4_1 < a0_0
    ·rw [if_pos c7] at H;have c7b0 : decide (x4_1 < a0_0) = true:=decide_eq_true c7;clear c7;by_cases c8 : 0 ≤ x4_1
     ·rw [if_pos c8] at H;have c8b0 : decide (0 ≤ x4_1) = true:=decide_eq_true c8;clear c8;by_cases c9 : x4_1 < (l0_1.length : Int)
      ·rw [if_pos c9] at H;have c9b0 : decide (x4_1 < (l0_1.length : Int)) = true:=decide_eq_true c9;clear c9;replace H:=Option.bind_eq_some_iff.mp H;obtain ⟨t130,A100,H⟩:=H;replace H : (spec_ThreeOneOf.l1 k1 x4_1 t130 (t130.length : Int) 0 a0_0 l0_1) = some (r1,r2):=H;have A10:=A_ A100;clear A100;have H':=A_ H;clear H;have hcz11_0 : wr.cell? ⟨gb127,0,none⟩ = some (.int .i64 a0_0):=blk_cell BK127.out 0;have hcz11_1 : wr.cell? ⟨gb127,1,none⟩ = some (.slice A0_1 l0_1.length c0_1):=blk_cell BK127.out 1;have hfz11_0:=blk_frozen BK127.out 0;have hfz11_1:=blk_frozen BK127.out 1;have p129 : 0 ≤ (x4_1 : Int):=of_decide_eq_true (by first|(with_reducible assumption)|assumption);have q129 : x4_1 < (l0_1.length : Int):=of_decide_eq_true (by first|(with_reducible assumption)|assumption);obtain ⟨ad129,e129,hx129_0⟩:=Kd.at_int HR0_1.out x4_1 p129 q129;cases e129
       (try replace hx129_0:=(HB.out.cell (World.block_lt_of_cell? w _ hx129_0)).trans hx129_0);replace p129:=eq_true p129;replace q129:=eq_true q129;go_wp2_with (first|((with_reducible refine gate_callee (f:=191) rfl ?_);refine goesL_ (some 25) rfl rfl Tryd.func191 (by kernel_rfl) rfl #[.int .i64 (rd l0_1 x4_1)] rfl au_ ?_;(with_reducible refine (spec_orList.calls k1 (rd l0_1 x4_1) t130 _ A10.out).mono ?_);rintro e w12 ⟨v131,rfl,ho0,hb⟩;refine ⟨_,rfl,?_⟩;have HO132:=A_ (Kd.R_lower ho0 (below_size bb_));replace BK127:=bz BK127 hb;replace HB:=A_ (below_step bb_ hb);(try clear hb);(try clear hb2);(try clear hk);(try clear hi);(try clear ho0);obtain ⟨Ao13,co13,eo13⟩:=Kd.R_slice HO132.out;subst eo13))
       go_loopg [27] k1 (fun kq v27 w'=>∃ (x27_2 : Int),v27 = .int .i64 x27_2 ∧ Aside0 (spec_ThreeOneOf.l1 kq x4_1 t130 (t130.length : Int) x27_2 a0_0 l0_1 = some (r1,r2)) ∧ Aside0 (kq ≤ k1) ∧ Aside0 (Kd.R (Kd.int .i64) 3 w' w.heap.size (fun _=>True) (.slice Ao13 t130.length co13) t130) ∧ Aside0 (w'.heap[gb127]? = some (.cells #[.int .i64 a0_0,(.slice (some ad129) l0_1.length c0_1)] 28 (0,0))) ∧ Aside0 (Below w.heap.size w w'))
       case atStart=>exact ⟨(0),(by first|rfl|(simp;done)|(simp [*];done)),H',⟨Nat.le_refl _⟩,⟨by (with_reducible repeat (first|apply Kd.R_alloc|apply Kd.R_drewN|apply Kd.R_drew));exact HO132.out⟩,⟨bl_ BK127⟩,⟨bb_⟩⟩
       case round =>
        clear H';try clear c1
        try clear p1
        try clear q1
        try clear hx1
        try clear p2
        try clear c3
        try clear c7
        try clear c7b0
        try clear c8
        try clear c8b0
        try clear c9
        try clear c9b0
        try clear p12
        try clear q12
        try clear hx12
        try clear hcz11_0
        try clear hcz11_1
        try clear hcz5_0
        try clear hcz5_1
        try clear hfz11_0
        try clear hfz11_1
        try clear hfz5_0
        try clear hfz5_1
        try clear hx129_0
        try clear p129
        try clear p2
        try clear q129
        obtain ⟨x27_2,rfl,HA,HK2,HO_25,BK127,HB⟩:=hrel;cases gk with
        | zero=>exact absurd HA.out (by simp [spec_ThreeOneOf.l1])
        | succ k2 =>
         have H:=HA.out;clear HA;simp only [spec_ThreeOneOf.l1] at H
         by_cases c14 : x27_2 < (t130.length : Int)
         ·rw [if_pos c14] at H;have c14b0 : decide (x27_2 < (t130.length : Int)) = true:=decide_eq_true c14;clear c14;by_cases c15 : 0 ≤ x27_2
          ·rw [if_pos c15] at H;have c15b0 : decide (0 ≤ x27_2) = true:=decide_eq_true c15;clear c15;by_cases c16 : x27_2 < (t130.length : Int)
           ·rw [if_pos c16] at H;have c16b0 : decide (x27_2 < (t130.length : Int)) = true:=decide_eq_true c16;clear c16;by_cases c17 : 0 ≤ (rd t130 x27_2)
            ·rw [if_pos c17] at H;have c17b0 : decide (0 ≤ (rd t130 x27_2)) = true:=decide_eq_true c17;clear c17;by_cases c18 : (rd t130 x27_2) < (l0_1.length : Int)
             ·rw [if_pos c18] at H;have c18b0 : decide ((rd t130 x27_2) < (l0_1.length : Int)) = true:=decide_eq_true c18;clear c18;replace H:=Option.bind_eq_some_iff.mp H;obtain ⟨t135,A190,H⟩:=H;replace H : (spec_ThreeOneOf.l2 k2 x4_1 (rd t130 x27_2) t130 (t130.length : Int) x27_2 t135 (t135.length : Int) 0 a0_0 l0_1) = some (r1,r2):=H;have A19:=A_ A190;clear A190;have H':=A_ H;clear H;have p133 : 0 ≤ (x27_2 : Int):=of_decide_eq_true (by first|(with_reducible assumption)|assumption);have q133 : x27_2 < (t130.length : Int):=of_decide_eq_true (by first|(with_reducible assumption)|assumption);obtain ⟨ad133,e133,hx133_0⟩:=Kd.at_int (Kd.R_reads' HO_25.out).2.2 x27_2 p133 q133;cases e133
              replace p133:=eq_true p133;replace q133:=eq_true q133;have hcz20_0 : wr.cell? ⟨gb127,0,none⟩ = some (.int .i64 a0_0):=blk_cell BK127.out 0;have hcz20_1 : wr.cell? ⟨gb127,1,none⟩ = some (.slice (some ad129) l0_1.length c0_1):=blk_cell BK127.out 1;have hfz20_0:=blk_frozen BK127.out 0;have hfz20_1:=blk_frozen BK127.out 1;have p134 : 0 ≤ ((rd t130 x27_2) : Int):=of_decide_eq_true (by first|(with_reducible assumption)|assumption);have q134 : (rd t130 x27_2) < (l0_1.length : Int):=of_decide_eq_true (by first|(with_reducible assumption)|assumption);obtain ⟨ad134,e134,hx134_0⟩:=Kd.at_int HR0_1.out (rd t130 x27_2) p134 q134;obtain rfl : ad129 = ad134:=(by injection e134);(try replace hx134_0:=(HB.out.cell (World.block_lt_of_cell? w _ hx134_0)).trans hx134_0);replace p134:=eq_true p134;replace q134:=eq_true q134;go_wp2_with (first|((with_reducible refine gate_callee (f:=191) rfl ?_);refine goesL_ (some 36) rfl rfl Tryd.func191 (by kernel_rfl) rfl #[.int .i64 (rd l0_1 (rd t130 x27_2))] rfl au_ ?_;(with_reducible refine (spec_orList.calls k2 (rd l0_1 (rd t130 x27_2)) t135 _ A19.out).mono ?_);rintro e w21 ⟨v136,rfl,ho0,hb⟩;refine ⟨_,rfl,?_⟩;have HO137:=A_ (Kd.R_lower (Kd.R_new' ho0 (Kd.R_lt (rl_ HO_25))) (below_size bb_));replace HO_25:=A_ (Kd.R_elder' (rl_ HO_25) (Kd.R_base ho0) hb);replace BK127:=bz BK127 hb;replace HB:=A_ (below_step bb_ hb);(try clear hb);(try clear hb2);(try clear hk);(try clear hi);(try clear ho0);obtain ⟨Ao22,co22,eo22⟩:=Kd.R_slice HO137.out;subst eo22))
              go_loopg [38] k2 (fun kq v38 w'=>∃ (x38_3 : Int),v38 = .int .i64 x38_3 ∧ Aside0 (spec_ThreeOneOf.l2 kq x4_1 (rd t130 x27_2) t130 (t130.length : Int) x27_2 t135 (t135.length : Int) x38_3 a0_0 l0_1 = some (r1,r2)) ∧ Aside0 (kq ≤ k2) ∧ Aside0 (Kd.R (Kd.int .i64) 3 w' w.heap.size (fun k_=>some k_ ≠ ((.slice Ao22 t135.length co22) : Value).ownBlock) (.slice (some ad133) t130.length co13) t130) ∧ Aside0 (Kd.R (Kd.int .i64) 3 w' w.heap.size (fun k_=>some k_ ≠ ((.slice (some ad133) t130.length co13) : Value).ownBlock) (.slice Ao22 t135.length co22) t135) ∧ Aside0 (w'.heap[gb127]? = some (.cells #[.int .i64 a0_0,(.slice (some ad129) l0_1.length c0_1)] 28 (0,0))) ∧ Aside0 (Below w.heap.size w w'))
              case atStart=>exact ⟨(0),(by first|rfl|(simp;done)|(simp [*];done)),H',⟨Nat.le_refl _⟩,⟨by (with_reducible repeat (first|apply Kd.R_alloc|apply Kd.R_drewN|apply Kd.R_drew));exact Kd.R_mono HO_25.out (fun _ hk=>hk.2)⟩,⟨by (with_reducible repeat (first|apply Kd.R_alloc|apply Kd.R_drewN|apply Kd.R_drew));exact Kd.R_mono HO137.out (fun _ hk=>hk.2)⟩,⟨bl_ BK127⟩,⟨bb_⟩⟩
              case round =>
               clear H';try clear c1
               try clear p1
               try clear q1
               try clear hx1
               try clear p2
               try clear c3
               try clear c7
               try clear c7b0
               try clear c8
               try clear c8b0
               try clear c9
               try clear c9b0
               try clear p12
               try clear q12
               try clear hx12
               try clear p13
               try clear q13
               try clear hx13
               try clear c14
               try clear c14b0
               try clear c15
               try clear c15b0
               try clear c16
               try clear c16b0
               try clear c17
               try clear c17b0
               try clear c18
               try clear c18b0
               try clear c19
               try clear hcz11_0
               try clear hcz11_1
               try clear hcz20_0
               try clear hcz20_1
               try clear hcz5_0
               try clear hcz5_1
               try clear hfz11_0
               try clear hfz11_1
               try clear hfz20_0
               try clear hfz20_1
               try clear hfz5_0
               try clear hfz5_1
               try clear hx129_0
               try clear hx133_0
               try clear hx134_0
               try clear p1
               try clear p12
               try clear p129
               try clear p133
               try clear p134
               try clear p2
               try clear q1
               try clear q12
               try clear q129
               try clear q133
               try clear q134
               obtain ⟨x38_3,rfl,HA,HK3,HO_25,HO_36,BK127,HB⟩:=hrel;cases gk with
               | zero=>exact absurd HA.out (by simp [spec_ThreeOneOf.l2])
               | succ k3 =>
                have H:=HA.out;clear HA;simp only [spec_ThreeOneOf.l2] at H
                by_cases c23 : x38_3 < (t135.length : Int)
                ·rw [if_pos c23] at H;have c23b0 : decide (x38_3 < (t135.length : Int)) = true:=decide_eq_true c23;clear c23;by_cases c24 : 0 ≤ x38_3
                 ·rw [if_pos c24] at H;have c24b0 : decide (0 ≤ x38_3) = true:=decide_eq_true c24;clear c24;by_cases c25 : x38_3 < (t135.length : Int)
                  ·rw [if_pos c25] at H;have c25b0 : decide (x38_3 < (t135.length : Int)) = true:=decide_eq_true c25;clear c25;replace H:=Option.bind_eq_some_iff.mp H;obtain ⟨t139,A260,H⟩:=H;replace H : ((spec_orFree.f k3 a0_0 l0_1 (rd t130 x27_2)).bind fun t140=>((spec_orFree.f k3 a0_0 l0_1 (rd t135 x38_3)).bind fun t141=>((spec_orList.f k3 (Go.bits .and .i64 (Go.bits .and .i64 t139 t140) t141)).bind fun t142=>(spec_ThreeOneOf.l3 k3 x4_1 (rd t130 x27_2) (rd t135 x38_3) t130 (t130.length : Int) x27_2 t135 (t135.length : Int) x38_3 t142 (t142.length : Int) 0 a0_0 l0_1)))) = some (r1,r2):=H;have A26:=A_ A260;clear A260;replace H:=Option.bind_eq_some_iff.mp H;obtain ⟨t140,A270,H⟩:=H;replace H : ((spec_orFree.f k3 a0_0 l0_1 (rd t135 x38_3)).bind fun t141=>((spec_orList.f k3 (Go.bits .and .i64 (Go.bits .and .i64 t139 t140) t141)).bind fun t142=>(spec_ThreeOneOf.l3 k3 x4_1 (rd t130 x27_2) (rd t135 x38_3) t130 (t130.length : Int) x27_2 t135 (t135.length : Int) x38_3 t142 (t142.length : Int) 0 a0_0 l0_1))) = some (r1,r2):=H;have A27:=A_ A270;clear A270;replace H:=Option.bind_eq_some_iff.mp H;obtain ⟨t141,A280,H⟩:=H;replace H : ((spec_orList.f k3 (Go.bits .and .i64 (Go.bits .and .i64 t139 t140) t141)).bind fun t142=>(spec_ThreeOneOf.l3 k3 x4_1 (rd t130 x27_2) (rd t135 x38_3) t130 (t130.length : Int) x27_2 t135 (t135.length : Int) x38_3 t142 (t142.length : Int) 0 a0_0 l0_1)) = some (r1,r2):=H;have A28:=A_ A280;clear A280;replace H:=Option.bind_eq_some_iff.mp H;obtain ⟨t142,A290,H⟩:=H;replace H : (spec_ThreeOneOf.l3 k3 x4_1 (rd t130 x27_2) (rd t135 x38_3) t130 (t130.length : Int) x27_2 t135 (t135.length : Int) x38_3 t142 (t142.length : Int) 0 a0_0 l0_1) = some (r1,r2):=H;have A29:=A_ A290;clear A290;have H':=A_ H;clear H;have p138 : 0 ≤ (x38_3 : Int):=of_decide_eq_true (by first|(with_reducible assumption)|assumption);have q138 : x38_3 < (t135.length : Int):=of_decide_eq_true (by first|(with_reducible assumption)|assumption);obtain ⟨ad138,e138,hx138_0⟩:=Kd.at_int (Kd.R_reads' HO_36.out).2.2 x38_3 p138 q138;cases e138
                   replace p138:=eq_true p138;replace q138:=eq_true q138;try go_wp2
                   replace HO_25:=A_ (Kd.R_drew HO_25.out);replace HO_36:=A_ (Kd.R_drew HO_36.out);replace BK127:=A_ (blk_drew BK127.out);replace HB:=A_ (below_drew1 HB.out);refine start_ (n:=14) (S:=fun w'=>w'.cell? ⟨gb127,0,none⟩ = some (.int .i64 a0_0) ∧ w'.cell? ⟨gb127,1,none⟩ = some (.slice (some ad129) l0_1.length c0_1)) (ds:=[]) #[F,F,F,F,F,F,F,F,F,F,F,F,F,F] (by kernel_rfl) rfl rfl ⟨blk_cell BK127.out 0,blk_cell BK127.out 1⟩ (fun hHeld=>?_);refine with_tabW spec_ThreeOneOf.tab12 spec_ThreeOneOf.bits12 (fun HT_ HW_=>?_)
                   generalize wr.drew = w30 at HO_25 HO_36 BK127 HB hHeld ⊢
                   refine pure_ (i:=1) (N:=some 43) (v:=?_) (a':=?_) #[F,T,F,F,F,F,F,F,F,F,F,F,F,F] rfl rfl (any_of HT_.out (by kernel_rfl)) (fun _ _ _ h=>h) (Or.inl ⟨by rfl,?_⟩) ?_ ?_
                   rotate_left;·intro w';go_simp;with_reducible rfl
                   rotate_left;·simp only [Act.put,L_,M_,N_,i64_w,i32_w];rfl
                   refine pure_ (i:=4) (N:=some 46) (v:=?_) (a':=?_) #[F,T,F,F,T,F,F,F,F,F,F,F,F,F] rfl rfl (any_of HT_.out (by kernel_rfl)) (fun _ _ _ h=>h) (Or.inl ⟨by rfl,?_⟩) ?_ ?_
                   rotate_left;·intro w';go_simp;with_reducible rfl
                   rotate_left;·simp only [Act.put,L_,M_,N_,i64_w,i32_w];rfl
                   refine pure_ (i:=8) (N:=some 50) (v:=?_) (a':=?_) #[F,T,F,F,T,F,F,F,T,F,F,F,F,F] rfl rfl (any_of HT_.out (by kernel_rfl)) (fun _ _ _ h=>h) (Or.inl ⟨by rfl,?_⟩) ?_ ?_
                   rotate_left;·intro w';go_simp;with_reducible rfl
                   rotate_left;·simp only [Act.put,L_,M_,N_,i64_w,i32_w];rfl
                   refine pure_ (i:=13) (N:=some 55) (v:=?_) (a':=?_) #[F,T,F,F,T,F,F,F,T,F,F,F,F,T] rfl rfl (any_of HT_.out (by kernel_rfl)) (fun _ _ _ h=>h) (Or.inl ⟨by rfl,?_⟩) ?_ ?_
                   rotate_left;·intro w';go_simp;with_reducible rfl
                   rotate_left;·simp only [Act.put,L_,M_,N_,i64_w,i32_w];rfl
                   refine take_ (i:=0) (N:=some 42) (v:=?_) (a':=?_) #[T,T,F,F,T,F,F,F,T,F,F,F,F,T] rfl rfl (take_ofW HT_.out HW_.out (by kernel_rfl)) (fun _ _ _ h=>h) (Or.inl ⟨by rfl,?_⟩) hHeld ?_ ?_
                   rotate_left
                   ·rintro w' ⟨s0,s1⟩
                    go_simp
                    with_reducible rfl
                   rotate_left;·simp only [Act.put,L_,M_,N_,i64_w,i32_w];rfl
                   refine take_ (i:=3) (N:=some 45) (v:=?_) (a':=?_) #[T,T,F,T,T,F,F,F,T,F,F,F,F,T] rfl rfl (take_ofW HT_.out HW_.out (by kernel_rfl)) (fun _ _ _ h=>h) (Or.inl ⟨by rfl,?_⟩) hHeld ?_ ?_
                   rotate_left
                   ·rintro w' ⟨s0,s1⟩
                    go_simp
                    with_reducible rfl
                   rotate_left;·simp only [Act.put,L_,M_,N_,i64_w,i32_w];rfl
                   refine take_ (i:=7) (N:=some 49) (v:=?_) (a':=?_) #[T,T,F,T,T,F,F,T,T,F,F,F,F,T] rfl rfl (take_ofW HT_.out HW_.out (by kernel_rfl)) (fun _ _ _ h=>h) (Or.inl ⟨by rfl,?_⟩) hHeld ?_ ?_
                   rotate_left
                   ·rintro w' ⟨s0,s1⟩
                    go_simp
                    with_reducible rfl
                   rotate_left;·simp only [Act.put,L_,M_,N_,i64_w,i32_w];rfl
                   refine one_ (i:=2) (N:=some 44) #[T,T,T,T,T,F,F,T,T,F,F,F,F,T] rfl rfl (one_of HT_.out (by kernel_rfl)) (by decide) (fun K hK=>?_)
                   refine goes_ Tryd.func227 (by kernel_rfl) rfl #[.agg #[.int .i64 a0_0,.slice (some ad129) l0_1.length c0_1],.int .i64 x4_1] (by rfl) rfl rfl au_ ?_
                   with_reducible refine (spec_orFree.calls k3 a0_0 _ _ l0_1 x4_1 t139 _ ?side1 ?side2 A26.out).mono ?_
                   (case side1=>exact cl_ (Kd.C_below HR0_1.out HB.out))
                   (case side2=>exact HC0_1.out)
                   rintro e w31 ⟨rfl,hb⟩
                   refine ⟨_,rfl,?_⟩
                   replace HO_25:=rb_ HO_25 hb;replace HO_36:=rb_ HO_36 hb;replace BK127:=bz BK127 hb;replace HB:=A_ (below_step bb_ hb);(try clear hb);(try clear hb2);(try clear hk);(try clear hi);refine hK.out _ _ ⟨blk_cell BK127.out 0,blk_cell BK127.out 1⟩ (fun hHeld=>?_)
                   clear hK K;refine norm_ (a':=?_) ?_ ?_
                   rotate_left
                   ·show Act.put _ (some 44) _ = _
                    simp only [Act.put,L_,M_,N_,i64_w,i32_w]
                    rfl
                   refine one_ (i:=5) (N:=some 47) #[T,T,T,T,T,T,F,T,T,F,F,F,F,T] rfl rfl (one_of HT_.out (by kernel_rfl)) (by decide) (fun K hK=>?_)
                   refine goes_ Tryd.func227 (by kernel_rfl) rfl #[.agg #[.int .i64 a0_0,.slice (some ad129) l0_1.length c0_1],.int .i64 (rd t130 x27_2)] (by rfl) rfl rfl au_ ?_
                   with_reducible refine (spec_orFree.calls k3 a0_0 _ _ l0_1 (rd t130 x27_2) t140 _ ?side1 ?side2 A27.out).mono ?_
                   (case side1=>exact cl_ (Kd.C_below HR0_1.out HB.out))
                   (case side2=>exact HC0_1.out)
                   rintro e w32 ⟨rfl,hb⟩
                   refine ⟨_,rfl,?_⟩
                   replace HO_25:=rb_ HO_25 hb;replace HO_36:=rb_ HO_36 hb;replace BK127:=bz BK127 hb;replace HB:=A_ (below_step bb_ hb);(try clear hb);(try clear hb2);(try clear hk);(try clear hi);refine hK.out _ _ ⟨blk_cell BK127.out 0,blk_cell BK127.out 1⟩ (fun hHeld=>?_)
                   clear hK K;refine norm_ (a':=?_) ?_ ?_
                   rotate_left
                   ·show Act.put _ (some 47) _ = _
                    simp only [Act.put,L_,M_,N_,i64_w,i32_w]
                    rfl
                   refine pure_ (i:=6) (N:=some 48) (v:=?_) (a':=?_) #[T,T,T,T,T,T,T,T,T,F,F,F,F,T] rfl rfl (any_of HT_.out (by kernel_rfl)) (fun _ _ _ h=>h) (Or.inl ⟨by rfl,?_⟩) ?_ ?_
                   rotate_left;·intro w';go_simp;with_reducible rfl
                   rotate_left;·simp only [Act.put,L_,M_,N_,i64_w,i32_w];rfl
                   refine one_ (i:=9) (N:=some 51) #[T,T,T,T,T,T,T,T,T,T,F,F,F,T] rfl rfl (one_of HT_.out (by kernel_rfl)) (by decide) (fun K hK=>?_)
                   refine goes_ Tryd.func227 (by kernel_rfl) rfl #[.agg #[.int .i64 a0_0,.slice (some ad129) l0_1.length c0_1],.int .i64 (rd t135 x38_3)] (by rfl) rfl rfl au_ ?_
                   with_reducible refine (spec_orFree.calls k3 a0_0 _ _ l0_1 (rd t135 x38_3) t141 _ ?side1 ?side2 A28.out).mono ?_
                   (case side1=>exact cl_ (Kd.C_below HR0_1.out HB.out))
                   (case side2=>exact HC0_1.out)
                   rintro e w33 ⟨rfl,hb⟩
                   refine ⟨_,rfl,?_⟩
                   replace HO_25:=rb_ HO_25 hb;replace HO_36:=rb_ HO_36 hb;replace BK127:=bz BK127 hb;replace HB:=A_ (below_step bb_ hb);(try clear hb);(try clear hb2);(try clear hk);(try clear hi);refine hK.out _ _ ⟨blk_cell BK127.out 0,blk_cell BK127.out 1⟩ (fun hHeld=>?_)
                   clear hK K;refine norm_ (a':=?_) ?_ ?_
                   rotate_left
                   ·show Act.put _ (some 51) _ = _
                    simp only [Act.put,L_,M_,N_,i64_w,i32_w]
                    rfl
                   refine pure_ (i:=10) (N:=some 52) (v:=?_) (a':=?_) #[T,T,T,T,T,T,T,T,T,T,T,F,F,T] rfl rfl (any_of HT_.out (by kernel_rfl)) (fun _ _ _ h=>h) (Or.inl ⟨by rfl,?_⟩) ?_ ?_
                   rotate_left;·intro w';go_simp;with_reducible rfl
                   rotate_left;·simp only [Act.put,L_,M_,N_,i64_w,i32_w];rfl
                   refine one_ (i:=11) (N:=some 53) #[T,T,T,T,T,T,T,T,T,T,T,T,F,T] rfl rfl (one_of HT_.out (by kernel_rfl)) (by decide) (fun K hK=>?_)
                   refine goes_ Tryd.func191 (by kernel_rfl) rfl #[.int .i64 (Go.bits .and .i64 (Go.bits .and .i64 t139 t140) t141)] (by rfl) rfl rfl au_ ?_
                   with_reducible refine (spec_orList.calls k3 (Go.bits .and .i64 (Go.bits .and .i64 t139 t140) t141) t142 _ A29.out).mono ?_
                   rintro e w34 ⟨v143,rfl,ho0,hb⟩
                   refine ⟨_,rfl,?_⟩
                   have HO144:=A_ (Kd.R_lower (Kd.R_new' (Kd.R_new' ho0 (Kd.R_lt (rl_ HO_25))) (Kd.R_lt (rl_ HO_36))) (below_size bb_));replace HO_25:=A_ (Kd.R_elder' (rl_ HO_25) (Kd.R_base ho0) hb);replace HO_36:=A_ (Kd.R_elder' (rl_ HO_36) (Kd.R_base ho0) hb);replace BK127:=bz BK127 hb;replace HB:=A_ (below_step bb_ hb);(try clear hb);(try clear hb2);(try clear hk);(try clear hi);(try clear ho0);obtain ⟨Ao35,co35,eo35⟩:=Kd.R_slice HO144.out;(first|subst eo35|(injection eo35 with f1_ f2_ f3_;have f4_:=f1_.symm;have f5_:=f3_.symm;clear f1_ f2_ f3_;subst f4_;subst f5_))
                   refine hK.out _ _ ⟨blk_cell BK127.out 0,blk_cell BK127.out 1⟩ (fun hHeld=>?_)
                   clear hK K;refine norm_ (a':=?_) ?_ ?_
                   rotate_left
                   ·show Act.put _ (some 53) _ = _
                    simp only [Act.put,L_,M_,N_,i64_w,i32_w]
                    rfl
                   refine pure_ (i:=12) (N:=some 54) (v:=?_) (a':=?_) #[T,T,T,T,T,T,T,T,T,T,T,T,T,T] rfl rfl (any_of HT_.out (by kernel_rfl)) (fun _ _ _ h=>h) (Or.inl ⟨by rfl,?_⟩) ?_ ?_
                   rotate_left;·intro w';go_simp;with_reducible rfl
                   rotate_left;·simp only [Act.put,L_,M_,N_,i64_w,i32_w];rfl
                   refine done_ (done_of HT_.out (by kernel_rfl)) ?_
                   try go_wp2
                   go_loopg [55] k3 (fun kq v55 w'=>∃ (x55_4 : Int),v55 = .int .i64 x55_4 ∧ Aside0 (spec_ThreeOneOf.l3 kq x4_1 (rd t130 x27_2) (rd t135 x38_3) t130 (t130.length : Int) x27_2 t135 (t135.length : Int) x38_3 t142 (t142.length : Int) x55_4 a0_0 l0_1 = some (r1,r2)) ∧ Aside0 (kq ≤ k3) ∧ Aside0 (Kd.R (Kd.int .i64) 3 w' w.heap.size (fun k_=>some k_ ≠ ((.slice (some ad138) t135.length co22) : Value).ownBlock ∧ some k_ ≠ ((.slice Ao35 t142.length co35) : Value).ownBlock) (.slice (some ad133) t130.length co13) t130) ∧ Aside0 (Kd.R (Kd.int .i64) 3 w' w.heap.size (fun k_=>some k_ ≠ ((.slice (some ad133) t130.length co13) : Value).ownBlock ∧ some k_ ≠ ((.slice Ao35 t142.length co35) : Value).ownBlock) (.slice (some ad138) t135.length co22) t135) ∧ Aside0 (Kd.R (Kd.int .i64) 3 w' w.heap.size (fun k_=>some k_ ≠ ((.slice (some ad133) t130.length co13) : Value).ownBlock ∧ some k_ ≠ ((.slice (some ad138) t135.length co22) : Value).ownBlock) (.slice Ao35 t142.length co35) t142) ∧ Aside0 (w'.heap[gb127]? = some (.cells #[.int .i64 a0_0,(.slice (some ad129) l0_1.length c0_1)] 28 (0,0))) ∧ Aside0 (Below w.heap.size w w'))
                   case atStart=>exact ⟨(0),(by first|rfl|(simp;done)|(simp [*];done)),H',⟨Nat.le_refl _⟩,⟨by (with_reducible repeat (first|apply Kd.R_alloc|apply Kd.R_drewN|apply Kd.R_drew));exact HO_25.out⟩,⟨by (with_reducible repeat (first|apply Kd.R_alloc|apply Kd.R_drewN|apply Kd.R_drew));exact HO_36.out⟩,⟨by (with_reducible repeat (first|apply Kd.R_alloc|apply Kd.R_drewN|apply Kd.R_drew));exact Kd.R_mono HO144.out (fun _ hk=>⟨hk.1.2,hk.2⟩)⟩,⟨bl_ BK127⟩,⟨bb_⟩⟩
                   case round =>
                    clear H';try clear c1
                    try clear p1
                    try clear q1
                    try clear hx1
                    try clear c2
                    try clear p2
                    try clear c3
                    try clear c7
                    try clear c7b0
                    try clear c8
                    try clear c8b0
                    try clear c9
                    try clear c9b0
                    try clear p12
                    try clear q12
                    try clear hx12
                    try clear p13
                    try clear q13
                    try clear hx13
                    try clear c14
                    try clear c14b0
                    try clear c15
                    try clear c15b0
                    try clear c16
                    try clear c16b0
                    try clear c17
                    try clear c17b0
                    try clear c18
                    try clear c18b0
                    try clear c19
                    try clear c22
                    try clear c23
                    try clear c23b0
                    try clear c24
                    try clear c24b0
                    try clear c25
                    try clear c25b0
                    try clear hcz11_0
                    try clear hcz11_1
                    try clear hcz20_0
                    try clear hcz20_1
                    try clear hcz5_0
                    try clear hcz5_1
                    try clear hfz11_0
                    try clear hfz11_1
                    try clear hfz20_0
                    try clear hfz20_1
                    try clear hfz5_0
                    try clear hfz5_1
                    try clear hx129_0
                    try clear hx133_0
                    try clear hx134_0
                    try clear hx138_0
                    try clear p1
                    try clear p12
                    try clear p129
                    try clear p13
                    try clear p133
                    try clear p134
                    try clear p138
                    try clear p2
                    try clear q1
                    try clear q12
                    try clear q129
                    try clear q13
                    try clear q133
                    try clear q134
                    try clear q138
                    obtain ⟨x55_4,rfl,HA,HK4,HO_25,HO_36,HO_53,BK127,HB⟩:=hrel;cases gk with
                    | zero=>exact absurd HA.out (by simp [spec_ThreeOneOf.l3])
                    | succ k4 =>
                     have H:=HA.out;clear HA;simp only [spec_ThreeOneOf.l3] at H
                     by_cases c36 : x55_4 < (t142.length : Int)
                     ·rw [if_pos c36] at H;have c36b0 : decide (x55_4 < (t142.length : Int)) = true:=decide_eq_true c36;clear c36;by_cases c37 : 0 ≤ x55_4
                      ·rw [if_pos c37] at H;have c37b0 : decide (0 ≤ x55_4) = true:=decide_eq_true c37;clear c37;by_cases c38 : x55_4 < (t142.length : Int)
                       ·rw [if_pos c38] at H;have c38b0 : decide (x55_4 < (t142.length : Int)) = true:=decide_eq_true c38;clear c38;obtain ⟨y146,hy146⟩ : ∃ y_ : List Int,y_ = (([x4_1,(rd t130 x27_2),(rd t135 x38_3),rd t142 x55_4] : List Int)):=⟨_,rfl⟩;replace H : (some (y146,true)) = some (r1,r2):=by first|(rw [hy146];with_reducible exact H)|(have H2_:=(Option.bind_some _ _).symm.trans H;rw [hy146];with_reducible exact H2_)|(have H2_:=(Option.bind_some _ _).symm.trans H;with_reducible exact H2_)|with_reducible exact H|(rw [hy146];exact H)|exact H
                        have Ny146:=A_ hy146;clear hy146;simp only [Option.some.injEq,Prod.mk.injEq] at H
                        obtain ⟨rfl,rfl⟩:=H;have p145 : 0 ≤ (x55_4 : Int):=of_decide_eq_true (by first|(with_reducible assumption)|assumption);have q145 : x55_4 < (t142.length : Int):=of_decide_eq_true (by first|(with_reducible assumption)|assumption);obtain ⟨ad145,e145,hx145_0⟩:=Kd.at_int (Kd.R_reads' HO_53.out).2.2 x55_4 p145 q145;cases e145
                        replace p145:=eq_true p145;replace q145:=eq_true q145;go_wp2_with (first|((with_reducible refine gate_dst (N:=63) rfl ?_);refine Kd.R_lit (Kd.int .i64) _ 3 ?hg (N:=63) ?hd (xs:=([x4_1,(rd t130 x27_2),(rd t135 x38_3),rd t142 x55_4] : List Int)) (inner:=[.int .i64 x4_1,.int .i64 (rd t130 x27_2),.int .i64 (rd t135 x38_3),.int .i64 (rd t142 x55_4)]) (ok:=fun _=>True) (okp:=fun _=>True) ?hr ?hp (fun _ hk=>hk) trivial (Below.refl _ _) (Nat.le_refl _) (by simp) ?_;(case hd=>rfl);(case hg=>rfl);(case hr=>first|(go_simp;done)|(go_simp;rfl));(case hp=>exact (Reps.one (show Kd.M (Kd.int .i64) _ _ _ x4_1 [.int .i64 x4_1] from rfl) (Reps.one (show Kd.M (Kd.int .i64) _ _ _ (rd t130 x27_2) [.int .i64 (rd t130 x27_2)] from rfl) (Reps.one (show Kd.M (Kd.int .i64) _ _ _ (rd t135 x38_3) [.int .i64 (rd t135 x38_3)] from rfl) (Reps.one (show Kd.M (Kd.int .i64) _ _ _ (rd t142 x55_4) [.int .i64 (rd t142 x55_4)] from rfl) (Reps.none _ _))))));intro v147 w39 ho40 hb hg_ hnew_;clear hg_ hnew_;(first|rw [← Ny146.out] at ho40|(simp only [Int.reduceToNat] at ho40;rw [← Ny146.out] at ho40));have HO148:=A_ (Kd.R_lower (Kd.R_new' (Kd.R_new' (Kd.R_new' ho40 (Kd.R_lt (rl_ HO_25))) (Kd.R_lt (rl_ HO_36))) (Kd.R_lt (rl_ HO_53))) (below_size bb_));replace HO_25:=A_ (Kd.R_elder' (rl_ HO_25) (Kd.R_base ho40) hb);replace HO_36:=A_ (Kd.R_elder' (rl_ HO_36) (Kd.R_base ho40) hb);replace HO_53:=A_ (Kd.R_elder' (rl_ HO_53) (Kd.R_base ho40) hb);replace BK127:=bz BK127 hb;replace HB:=A_ (below_step bb_ hb);clear hb ho40))
                        go_ret2
                        exact ⟨_,by first|rfl|(simp [errW_none,errW_some] <;> rfl)|(simp [*,errW_none,errW_some] <;> rfl),by (with_reducible repeat (first|apply Kd.R_alloc|apply Kd.R_drewN|apply Kd.R_drew));exact Kd.R_mono HO148.out (fun _ hk=>trivial),bb_⟩
                       ·rw [if_neg c38] at H;exact absurd H (by simp)
                      ·rw [if_neg c37] at H;exact absurd H (by simp)
                     ·rw [if_neg c36] at H;have c36b0 : decide (x55_4 < (t142.length : Int)) = false:=decide_eq_false c36;clear c36;have H':=A_ H;clear H;go_wp2
                      go_roundg k4
                      case measure=>have:=HK1.out;have:=HK2.out;have:=HK3.out;have:=HK4.out;omega
                      case rel=>exact ⟨(wrap64 (x38_3 + 1)),(by first|rfl|(simp;done)|(simp [*];done)),H',⟨by have:=HK1.out;have:=HK2.out;have:=HK3.out;have:=HK4.out;omega⟩,⟨by (with_reducible repeat (first|apply Kd.R_alloc|apply Kd.R_drewN|apply Kd.R_drew));exact Kd.R_mono HO_25.out (fun _ hk=>hk.1)⟩,⟨by (with_reducible repeat (first|apply Kd.R_alloc|apply Kd.R_drewN|apply Kd.R_drew));exact Kd.R_mono HO_36.out (fun _ hk=>hk.1)⟩,⟨bl_ BK127⟩,⟨bb_⟩⟩
                  ·rw [if_neg c25] at H;exact absurd H (by simp)
                 ·rw [if_neg c24] at H;exact absurd H (by simp)
                ·rw [if_neg c23] at H;have c23b0 : decide (x38_3 < (t135.length : Int)) = false:=decide_eq_false c23;clear c23;have H':=A_ H;clear H;go_wp2
                 go_roundg k3
                 case measure=>have:=HK1.out;have:=HK2.out;have:=HK3.out;omega
                 case rel=>exact ⟨(wrap64 (x27_2 + 1)),(by first|rfl|(simp;done)|(simp [*];done)),H',⟨by have:=HK1.out;have:=HK2.out;have:=HK3.out;omega⟩,⟨by (with_reducible repeat (first|apply Kd.R_alloc|apply Kd.R_drewN|apply Kd.R_drew));exact Kd.R_mono HO_25.out (fun _ hk=>trivial)⟩,⟨bl_ BK127⟩,⟨bb_⟩⟩
             ·rw [if_neg c18] at H;exact absurd H (by simp)
            ·rw [if_neg c17] at H;exact absurd H (by simp)
           ·rw [if_neg c16] at H;exact absurd H (by simp)
          ·rw [if_neg c15] at H;exact absurd H (by simp)
         ·rw [if_neg c14] at H;have c14b0 : decide (x27_2 < (t130.length : Int)) = false:=decide_eq_false c14;clear c14;have H':=A_ H;clear H;go_wp2
          go_roundg k2
          case measure=>have:=HK1.out;have:=HK2.out;omega
          case rel=>exact ⟨(wrap64 (x4_1 + 1)),(by first|rfl|(simp;done)|(simp [*];done)),H',⟨by have:=HK1.out;have:=HK2.out;omega⟩,⟨bl_ BK127⟩,⟨bb_⟩⟩
      ·rw [if_neg c9] at H;exact absurd H (by simp)
     ·rw [if_neg c8] at H;exact absurd H (by simp)
    ·rw [if_neg c7] at H;have c7b0 : decide (x4_1 < a0_0) = false:=decide_eq_false c7;clear c7;simp only [Option.some.injEq,Prod.mk.injEq] at H
     obtain ⟨rfl,rfl⟩:=H;have hcz41_0 : wr.cell? ⟨gb127,0,none⟩ = some (.int .i64 a0_0):=blk_cell BK127.out 0;have hcz41_1 : wr.cell? ⟨gb127,1,none⟩ = some (.slice A0_1 l0_1.length c0_1):=blk_cell BK127.out 1;have hfz41_0:=blk_frozen BK127.out 0;have hfz41_1:=blk_frozen BK127.out 1;go_wp2
     go_ret2
     exact ⟨_,by first|rfl|(simp [errW_none,errW_some] <;> rfl)|(simp [*,errW_none,errW_some] <;> rfl),by first|exact Kd.R_nil _ _ _ _ _|exact Kd.N_nil _ _ _ _ _|exact Kd.V_nil _ _ _ _ _|exact Kd.Q_nil _ _ _ _ _|exact Kd.S_nil _ _ _ _ _,bb_⟩
 ·replace c3:=Bool.eq_false_iff.mpr c3;subst c3;have H1 : (some (([] : List Int),false)) = some (r1,r2):=by rw [if_neg (show ¬ (false = true) by decide)] at H;exact H
  clear H;have H:=H1;clear H1;simp only [Option.some.injEq,Prod.mk.injEq] at H
  obtain ⟨rfl,rfl⟩:=H;go_enter Tryd.func185,Tryd.ntmps185
  go_wp2_with (first|((with_reducible refine gate_dst (N:=1) rfl ?_);refine box_event ?hg (N:=1) ?hd (cs:=#[.int .i64 a0_0,.slice A0_1 l0_1.length c0_1]) (t:=28) ?hr ?_;(case hd=>rfl);(case hg=>rfl);(case hr=>first|(go_simp;done)|(go_simp;rfl));intro gb127 hg w42 hbox hb;have BK127:=A_ (hbox);have GW127:=A_ ((by rw [hg];exact (below_size bb_) : w.heap.size ≤ gb127));have GE127:=A_ ((by rw [hg];exact (below_size bb_) : w.heap.size ≤ gb127));replace HB:=A_ (below_step bb_ hb);clear hb hbox hg;have hcz43_0 : w42.cell? ⟨gb127,0,none⟩ = some (.int .i64 a0_0):=blk_cell BK127.out 0;have hcz43_1 : w42.cell? ⟨gb127,1,none⟩ = some (.slice A0_1 l0_1.length c0_1):=blk_cell BK127.out 1;have hfz43_0:=blk_frozen BK127.out 0;have hfz43_1:=blk_frozen BK127.out 1)|((with_reducible refine gate_callee (f:=142) rfl ?_);refine goesL_ (some 12) rfl rfl Tryd.func142 (by kernel_rfl) rfl #[.agg #[.int .i64 a0_0,.slice A0_1 l0_1.length c0_1]] rfl au_ ?_;(with_reducible refine (spec_orGood.calls k a0_0 _ _ l0_1 false _ ?side1 ?side2 A2.out).mono ?_);(case side1=>exact cl_ (Kd.C_below HR0_1.out HB.out));(case side2=>exact HC0_1.out);rintro e w44 ⟨rfl,hb⟩;refine ⟨_,rfl,?_⟩;replace BK127:=bz BK127 hb;replace HB:=A_ (below_step bb_ hb);(try clear hb);(try clear hb2);(try clear hk);(try clear hi)))
  go_ret2
  exact ⟨_,by first|rfl|(simp [errW_none,errW_some] <;> rfl)|(simp [*,errW_none,errW_some] <;> rfl),by first|exact Kd.R_nil _ _ _ _ _|exact Kd.N_nil _ _ _ _ _|exact Kd.V_nil _ _ _ _ _|exact Kd.Q_nil _ _ _ _ _|exact Kd.S_nil _ _ _ _ _,bb_⟩
def spec_seIndifferent.f (k : Nat) (a0_0 : Int) (l0_1 : List Int) (a1 : Int) (a2 : Int) : Option (Bool) := (spec_orFree.f k a0_0 l0_1 a1).bind fun t150 => ((spec_orHas.f t150 a2).bind fun t151 => (some t151))
set_option maxHeartbeats 8000000 in
set_option maxRecDepth 100000 in
theorem spec_seIndifferent.calls (k : Nat) (a0_0 : Int) (A0_1 : Option Addr) (c0_1 : Nat) (l0_1 : List Int) (a1 : Int) (a2 : Int) (r : Bool) (w : World) (hr0_1 : Kd.C (Kd.int .i64) w A0_1 l0_1.length l0_1) (hc0_1 : l0_1.length ≤ c0_1) (h : spec_seIndifferent.f k a0_0 l0_1 a1 a2 = some r) :
 Calls Tryd.prog 228 #[.agg #[.int .i64 a0_0,.slice A0_1 l0_1.length c0_1],.int .i64 a1,.int .i64 a2] w fun e w'=>e = .returned (.bool r) ∧ Below w.heap.size w w':=by
 have hu28:=Tryd.underlying28;have HR0_1:=A_ hr0_1;have HC0_1:=A_ hc0_1;clear hr0_1 hc0_1;have HB:=A_ (Below.refl w.heap.size w);have H : ((spec_orFree.f k a0_0 l0_1 a1).bind fun t150=>((spec_orHas.f t150 a2).bind fun t151=>(some t151))) = some r:=h;clear h;replace H:=Option.bind_eq_some_iff.mp H;obtain ⟨t150,A40,H⟩:=H;replace H : ((spec_orHas.f t150 a2).bind fun t151=>(some t151)) = some r:=H;have A4:=A_ A40;clear A40;replace H:=Option.bind_eq_some_iff.mp H;obtain ⟨t151,A50,H⟩:=H;replace H : (some t151) = some r:=H;have A5:=A_ A50;clear A50;obtain rfl:=Option.some.inj H;go_enter Tryd.func228,Tryd.ntmps228
 go_wp2_with (first|((with_reducible refine gate_dst (N:=3) rfl ?_);refine box_event ?hg (N:=3) ?hd (cs:=#[.int .i64 a0_0,.slice A0_1 l0_1.length c0_1]) (t:=28) ?hr ?_;(case hd=>rfl);(case hg=>rfl);(case hr=>first|(go_simp;done)|(go_simp;rfl));intro gb149 hg w6 hbox hb;have BK149:=A_ (hbox);have GW149:=A_ ((by rw [hg];exact (below_size bb_) : w.heap.size ≤ gb149));have GE149:=A_ ((by rw [hg];exact (below_size bb_) : w.heap.size ≤ gb149));replace HB:=A_ (below_step bb_ hb);clear hb hbox hg;have hcz7_0 : w6.cell? ⟨gb149,0,none⟩ = some (.int .i64 a0_0):=blk_cell BK149.out 0;have hcz7_1 : w6.cell? ⟨gb149,1,none⟩ = some (.slice A0_1 l0_1.length c0_1):=blk_cell BK149.out 1;have hfz7_0:=blk_frozen BK149.out 0;have hfz7_1:=blk_frozen BK149.out 1)|((with_reducible refine gate_callee (f:=227) rfl ?_);refine goesL_ (some 9) rfl rfl Tryd.func227 (by kernel_rfl) rfl #[.agg #[.int .i64 a0_0,.slice A0_1 l0_1.length c0_1],.int .i64 a1] rfl au_ ?_;(with_reducible refine (spec_orFree.calls k a0_0 _ _ l0_1 a1 t150 _ ?side1 ?side2 A4.out).mono ?_);(case side1=>exact cl_ (Kd.C_below HR0_1.out HB.out));(case side2=>exact HC0_1.out);rintro e w8 ⟨rfl,hb⟩;refine ⟨_,rfl,?_⟩;replace BK149:=bz BK149 hb;replace HB:=A_ (below_step bb_ hb);(try clear hb);(try clear hb2);(try clear hk);(try clear hi))|((with_reducible refine gate_callee (f:=192) rfl ?_);refine goesL_ (some 11) rfl rfl Tryd.func192 (by kernel_rfl) rfl #[.int .i64 t150,.int .i64 a2] rfl au_ ?_;(with_reducible refine (spec_orHas.calls t150 a2 t151 _ A5.out).mono ?_);rintro e w' ⟨rfl,⟨nd,rfl⟩⟩;refine ⟨_,rfl,?_⟩))
 go_ret
 exact ⟨by first|rfl|(simp [errW_none,errW_some] <;> rfl)|(simp [*,errW_none,errW_some] <;> rfl),bb_⟩
mutual
def spec_seTwoTwo.l0 : Nat → Int → Int → List Int → Option (Bool)
 | 0,_,_,_=>none
 | k + 1,x3,x153000,x153001=>if x3 < x153000 then (if 0 ≤ x3 then (if x3 < (x153001.length : Int) then ((spec_orList.f k (rd x153001 x3)).bind fun t154=>(spec_seTwoTwo.l1 k x3 t154 (t154.length : Int) 0 x153000 x153001)) else (none)) else (none)) else (some false)
def spec_seTwoTwo.l1 : Nat → Int → List Int → Int → Int → Int → List Int → Option (Bool)
 | 0,_,_,_,_,_,_=>none
 | k + 1,x3,x20,x21,x22,x153000,x153001=>if x22 < x21 then (if 0 ≤ x22 then (if x22 < (x20.length : Int) then (spec_seTwoTwo.l2 k x3 (rd x20 x22) 0 x20 x21 x22 x153000 x153001) else (none)) else (none)) else (spec_seTwoTwo.l0 k (wrap64 (x3 + 1)) x153000 x153001)
def spec_seTwoTwo.l2 : Nat → Int → Int → Int → List Int → Int → Int → Int → List Int → Option (Bool)
 | 0,_,_,_,_,_,_,_,_=>none
 | k + 1,x3,x5,x6,x20,x21,x22,x153000,x153001=>if x6 < x153000 then (if 0 ≤ x6 then (if x6 < (x153001.length : Int) then ((spec_orList.f k (rd x153001 x6)).bind fun t159=>(spec_seTwoTwo.l3 k x3 x5 x6 x20 x21 x22 t159 (t159.length : Int) 0 x153000 x153001)) else (none)) else (none)) else (spec_seTwoTwo.l1 k x3 x20 x21 (wrap64 (x22 + 1)) x153000 x153001)
def spec_seTwoTwo.l3 : Nat → Int → Int → Int → List Int → Int → Int → List Int → Int → Int → Int → List Int → Option (Bool)
 | 0,_,_,_,_,_,_,_,_,_,_,_=>none
 | k + 1,x3,x5,x6,x20,x21,x22,x37,x38,x39,x153000,x153001=>if x39 < x38 then (if 0 ≤ x39 then (if x39 < (x37.length : Int) then ((spec_seIndifferent.f k x153000 x153001 x3 (rd x37 x39)).bind fun t163=>(if t163 = true then ((spec_seIndifferent.f k x153000 x153001 x6 x5).bind fun t164=>(if t164 = true then (some true) else (spec_seTwoTwo.l3 k x3 x5 x6 x20 x21 x22 x37 x38 (wrap64 (x39 + 1)) x153000 x153001))) else (spec_seTwoTwo.l3 k x3 x5 x6 x20 x21 x22 x37 x38 (wrap64 (x39 + 1)) x153000 x153001))) else (none)) else (none)) else (spec_seTwoTwo.l2 k x3 x5 (wrap64 (x6 + 1)) x20 x21 x22 x153000 x153001)
end
def spec_seTwoTwo.f (k : Nat) (a0_0 : Int) (l0_1 : List Int) : Option (Bool) := spec_seTwoTwo.l0 k 0 a0_0 l0_1
set_option maxHeartbeats 8000000 in
set_option maxRecDepth 100000 in
theorem spec_seTwoTwo.calls (k : Nat) (a0_0 : Int) (A0_1 : Option Addr) (c0_1 : Nat) (l0_1 : List Int) (r : Bool) (w : World) (hr0_1 : Kd.C (Kd.int .i64) w A0_1 l0_1.length l0_1) (hc0_1 : l0_1.length ≤ c0_1) (h : spec_seTwoTwo.f k a0_0 l0_1 = some r) :
 Calls Tryd.prog 186 #[.agg #[.int .i64 a0_0,.slice A0_1 l0_1.length c0_1]] w fun e w'=>e = .returned (.bool r) ∧ Below w.heap.size w w':=by
 have hu28:=Tryd.underlying28;have HR0_1:=A_ hr0_1;have HC0_1:=A_ hc0_1;clear hr0_1 hc0_1;have HB:=A_ (Below.refl w.heap.size w);have H : (spec_seTwoTwo.l0 k 0 a0_0 l0_1) = some r:=h;clear h;have H':=A_ H;clear H;go_enter Tryd.func186,Tryd.ntmps186
 go_wp2_with (first|((with_reducible refine gate_dst (N:=1) rfl ?_);refine box_event ?hg (N:=1) ?hd (cs:=#[.int .i64 a0_0,.slice A0_1 l0_1.length c0_1]) (t:=28) ?hr ?_;(case hd=>rfl);(case hg=>rfl);(case hr=>first|(go_simp;done)|(go_simp;rfl));intro gb152 hg w2 hbox hb;have BK152:=A_ (hbox);have GW152:=A_ ((by rw [hg];exact (below_size bb_) : w.heap.size ≤ gb152));have GE152:=A_ ((by rw [hg];exact (below_size bb_) : w.heap.size ≤ gb152));replace HB:=A_ (below_step bb_ hb);clear hb hbox hg))
 go_loopg [3] k (fun kq v3 w'=>∃ (x3_1 : Int),v3 = .int .i64 x3_1 ∧ Aside0 (spec_seTwoTwo.l0 kq x3_1 a0_0 l0_1 = some r) ∧ Aside0 (kq ≤ k) ∧ Aside0 (w'.heap[gb152]? = some (.cells #[.int .i64 a0_0,(.slice A0_1 l0_1.length c0_1)] 28 (0,0))) ∧ Aside0 (Below w.heap.size w w'))
 case atStart=>exact ⟨(0),(by first|rfl|(simp;done)|(simp [*];done)),H',⟨Nat.le_refl _⟩,⟨bl_ BK152⟩,⟨bb_⟩⟩
 case round =>
  clear H';try clear c1
  try clear p2
  obtain ⟨x3_1,rfl,HA,HK1,BK152,HB⟩:=hrel;cases gk with
  | zero => exact absurd HA.out (by simp [spec_seTwoTwo.l0])
  | succ k1 =>
   have H:=HA.out;clear HA;simp only [spec_seTwoTwo.l0] at H
   by_cases c3 : x3_1 < a0_0
   ·rw [if_pos c3] at H;have c3b0 : decide (x3_1 < a0_0) = true:=decide_eq_true c3;clear c3;by_cases c4 : 0 ≤ x3_1
    ·rw [if_pos c4] at H;have c4b0 : decide (0 ≤ x3_1) = true:=decide_eq_true c4;clear c4;by_cases c5 : x3_1 < (l0_1.length : Int)
     ·rw [if_pos c5] at H;have c5b0 : decide (x3_1 < (l0_1.length : Int)) = true:=decide_eq_true c5;clear c5;replace H:=Option.bind_eq_some_iff.mp H;obtain ⟨t154,A60,H⟩:=H;replace H : (spec_seTwoTwo.l1 k1 x3_1 t154 (t154.length : Int) 0 a0_0 l0_1) = some r:=H;have A6:=A_ A60;clear A60;have H':=A_ H;clear H;have hcz7_0 : wr.cell? ⟨gb152,0,none⟩ = some (.int .i64 a0_0):=blk_cell BK152.out 0;have hcz7_1 : wr.cell? ⟨gb152,1,none⟩ = some (.slice A0_1 l0_1.length c0_1):=blk_cell BK152.out 1;have hfz7_0:=blk_frozen BK152.out 0;have hfz7_1:=blk_frozen BK152.out 1;have p153 : 0 ≤ (x3_1 : Int):=of_decide_eq_true (by first|(with_reducible assumption)|assumption);have q153 : x3_1 < (l0_1.length : Int):=of_decide_eq_true (by first|(with_reducible assumption)|assumption);obtain ⟨ad153,e153,hx153_0⟩:=Kd.at_int HR0_1.out x3_1 p153 q153;cases e153
      (try replace hx153_0:=(HB.out.cell (World.block_lt_of_cell? w _ hx153_0)).trans hx153_0);replace p153:=eq_true p153;replace q153:=eq_true q153;go_wp2_with (first|((with_reducible refine gate_callee (f:=191) rfl ?_);refine goesL_ (some 20) rfl rfl Tryd.func191 (by kernel_rfl) rfl #[.int .i64 (rd l0_1 x3_1)] rfl au_ ?_;(with_reducible refine (spec_orList.calls k1 (rd l0_1 x3_1) t154 _ A6.out).mono ?_);rintro e w8 ⟨v155,rfl,ho0,hb⟩;refine ⟨_,rfl,?_⟩;have HO156:=A_ (Kd.R_lower ho0 (below_size bb_));replace BK152:=bz BK152 hb;replace HB:=A_ (below_step bb_ hb);(try clear hb);(try clear hb2);(try clear hk);(try clear hi);(try clear ho0);obtain ⟨Ao9,co9,eo9⟩:=Kd.R_slice HO156.out;subst eo9))
      go_loopg [22] k1 (fun kq v22 w'=>∃ (x22_2 : Int),v22 = .int .i64 x22_2 ∧ Aside0 (spec_seTwoTwo.l1 kq x3_1 t154 (t154.length : Int) x22_2 a0_0 l0_1 = some r) ∧ Aside0 (kq ≤ k1) ∧ Aside0 (Kd.R (Kd.int .i64) 3 w' w.heap.size (fun _=>True) (.slice Ao9 t154.length co9) t154) ∧ Aside0 (w'.heap[gb152]? = some (.cells #[.int .i64 a0_0,(.slice (some ad153) l0_1.length c0_1)] 28 (0,0))) ∧ Aside0 (Below w.heap.size w w'))
      case atStart=>exact ⟨(0),(by first|rfl|(simp;done)|(simp [*];done)),H',⟨Nat.le_refl _⟩,⟨by (with_reducible repeat (first|apply Kd.R_alloc|apply Kd.R_drewN|apply Kd.R_drew));exact HO156.out⟩,⟨bl_ BK152⟩,⟨bb_⟩⟩
      case round =>
       clear H';try clear c1
       try clear p1
       try clear q1
       try clear hx1
       try clear p2
       try clear c3
       try clear c3b0
       try clear c4
       try clear c4b0
       try clear c5
       try clear c5b0
       try clear hcz7_0
       try clear hcz7_1
       try clear hfz7_0
       try clear hfz7_1
       try clear hx153_0
       try clear p153
       try clear p2
       try clear q153
       obtain ⟨x22_2,rfl,HA,HK2,HO_20,BK152,HB⟩:=hrel;cases gk with
       | zero=>exact absurd HA.out (by simp [spec_seTwoTwo.l1])
       | succ k2 =>
        have H:=HA.out;clear HA;simp only [spec_seTwoTwo.l1] at H
        by_cases c10 : x22_2 < (t154.length : Int)
        ·rw [if_pos c10] at H;have c10b0 : decide (x22_2 < (t154.length : Int)) = true:=decide_eq_true c10;clear c10;by_cases c11 : 0 ≤ x22_2
         ·rw [if_pos c11] at H;have c11b0 : decide (0 ≤ x22_2) = true:=decide_eq_true c11;clear c11;by_cases c12 : x22_2 < (t154.length : Int)
          ·rw [if_pos c12] at H;have c12b0 : decide (x22_2 < (t154.length : Int)) = true:=decide_eq_true c12;clear c12;have H':=A_ H;clear H;have p157 : 0 ≤ (x22_2 : Int):=of_decide_eq_true (by first|(with_reducible assumption)|assumption);have q157 : x22_2 < (t154.length : Int):=of_decide_eq_true (by first|(with_reducible assumption)|assumption);obtain ⟨ad157,e157,hx157_0⟩:=Kd.at_int (Kd.R_reads' HO_20.out).2.2 x22_2 p157 q157;cases e157
           replace p157:=eq_true p157;replace q157:=eq_true q157;go_wp2
           go_loopg [6] k2 (fun kq v6 w'=>∃ (x6_3 : Int),v6 = .int .i64 x6_3 ∧ Aside0 (spec_seTwoTwo.l2 kq x3_1 (rd t154 x22_2) x6_3 t154 (t154.length : Int) x22_2 a0_0 l0_1 = some r) ∧ Aside0 (kq ≤ k2) ∧ Aside0 (Kd.R (Kd.int .i64) 3 w' w.heap.size (fun _=>True) (.slice (some ad157) t154.length co9) t154) ∧ Aside0 (w'.heap[gb152]? = some (.cells #[.int .i64 a0_0,(.slice (some ad153) l0_1.length c0_1)] 28 (0,0))) ∧ Aside0 (Below w.heap.size w w'))
           case atStart=>exact ⟨(0),(by first|rfl|(simp;done)|(simp [*];done)),H',⟨Nat.le_refl _⟩,⟨by (with_reducible repeat (first|apply Kd.R_alloc|apply Kd.R_drewN|apply Kd.R_drew));exact HO_20.out⟩,⟨bl_ BK152⟩,⟨bb_⟩⟩
           case round =>
            clear H';try clear c1
            try clear p1
            try clear q1
            try clear hx1
            try clear p2
            try clear c3
            try clear c3b0
            try clear c4
            try clear c4b0
            try clear c5
            try clear c5b0
            try clear c10
            try clear c10b0
            try clear c11
            try clear c11b0
            try clear c12
            try clear c12b0
            try clear hcz7_0
            try clear hcz7_1
            try clear hfz7_0
            try clear hfz7_1
            try clear hx153_0
            try clear hx157_0
            try clear p1
            try clear p153
            try clear p157
            try clear p2
            try clear q1
            try clear q153
            try clear q157
            obtain ⟨x6_3,rfl,HA,HK3,HO_20,BK152,HB⟩:=hrel;cases gk with
            | zero=>exact absurd HA.out (by simp [spec_seTwoTwo.l2])
            | succ k3 =>
             have H:=HA.out;clear HA;simp only [spec_seTwoTwo.l2] at H
             by_cases c13 : x6_3 < a0_0
             ·rw [if_pos c13] at H;have c13b0 : decide (x6_3 < a0_0) = true:=decide_eq_true c13;clear c13;by_cases c14 : 0 ≤ x6_3
              ·rw [if_pos c14] at H;have c14b0 : decide (0 ≤ x6_3) = true:=decide_eq_true c14;clear c14;by_cases c15 : x6_3 < (l0_1.length : Int)
               ·rw [if_pos c15] at H;have c15b0 : decide (x6_3 < (l0_1.length : Int)) = true:=decide_eq_true c15;clear c15;replace H:=Option.bind_eq_some_iff.mp H;obtain ⟨t159,A160,H⟩:=H;replace H : (spec_seTwoTwo.l3 k3 x3_1 (rd t154 x22_2) x6_3 t154 (t154.length : Int) x22_2 t159 (t159.length : Int) 0 a0_0 l0_1) = some r:=H;have A16:=A_ A160;clear A160;have H':=A_ H;clear H;have hcz17_0 : wr.cell? ⟨gb152,0,none⟩ = some (.int .i64 a0_0):=blk_cell BK152.out 0;have hcz17_1 : wr.cell? ⟨gb152,1,none⟩ = some (.slice (some ad153) l0_1.length c0_1):=blk_cell BK152.out 1;have hfz17_0:=blk_frozen BK152.out 0;have hfz17_1:=blk_frozen BK152.out 1;have p158 : 0 ≤ (x6_3 : Int):=of_decide_eq_true (by first|(with_reducible assumption)|assumption);have q158 : x6_3 < (l0_1.length : Int):=of_decide_eq_true (by first|(with_reducible assumption)|assumption);obtain ⟨ad158,e158,hx158_0⟩:=Kd.at_int HR0_1.out x6_3 p158 q158;obtain rfl : ad153 = ad158:=(by injection e158);(try replace hx158_0:=(HB.out.cell (World.block_lt_of_cell? w _ hx158_0)).trans hx158_0);replace p158:=eq_true p158;replace q158:=eq_true q158;go_wp2_with (first|((with_reducible refine gate_callee (f:=191) rfl ?_);refine goesL_ (some 37) rfl rfl Tryd.func191 (by kernel_rfl) rfl #[.int .i64 (rd l0_1 x6_3)] rfl au_ ?_;(with_reducible refine (spec_orList.calls k3 (rd l0_1 x6_3) t159 _ A16.out).mono ?_);rintro e w18 ⟨v160,rfl,ho0,hb⟩;refine ⟨_,rfl,?_⟩;have HO161:=A_ (Kd.R_lower (Kd.R_new' ho0 (Kd.R_lt (rl_ HO_20))) (below_size bb_));replace HO_20:=A_ (Kd.R_elder' (rl_ HO_20) (Kd.R_base ho0) hb);replace BK152:=bz BK152 hb;replace HB:=A_ (below_step bb_ hb);(try clear hb);(try clear hb2);(try clear hk);(try clear hi);(try clear ho0);obtain ⟨Ao19,co19,eo19⟩:=Kd.R_slice HO161.out;subst eo19))
                go_loopg [39] k3 (fun kq v39 w'=>∃ (x39_4 : Int),v39 = .int .i64 x39_4 ∧ Aside0 (spec_seTwoTwo.l3 kq x3_1 (rd t154 x22_2) x6_3 t154 (t154.length : Int) x22_2 t159 (t159.length : Int) x39_4 a0_0 l0_1 = some r) ∧ Aside0 (kq ≤ k3) ∧ Aside0 (Kd.R (Kd.int .i64) 3 w' w.heap.size (fun k_=>some k_ ≠ ((.slice Ao19 t159.length co19) : Value).ownBlock) (.slice (some ad157) t154.length co9) t154) ∧ Aside0 (Kd.R (Kd.int .i64) 3 w' w.heap.size (fun k_=>some k_ ≠ ((.slice (some ad157) t154.length co9) : Value).ownBlock) (.slice Ao19 t159.length co19) t159) ∧ Aside0 (w'.heap[gb152]? = some (.cells #[.int .i64 a0_0,(.slice (some ad153) l0_1.length c0_1)] 28 (0,0))) ∧ Aside0 (Below w.heap.size w w'))
                case atStart=>exact ⟨(0),(by first|rfl|(simp;done)|(simp [*];done)),H',⟨Nat.le_refl _⟩,⟨by (with_reducible repeat (first|apply Kd.R_alloc|apply Kd.R_drewN|apply Kd.R_drew));exact Kd.R_mono HO_20.out (fun _ hk=>hk.2)⟩,⟨by (with_reducible repeat (first|apply Kd.R_alloc|apply Kd.R_drewN|apply Kd.R_drew));exact Kd.R_mono HO161.out (fun _ hk=>hk.2)⟩,⟨bl_ BK152⟩,⟨bb_⟩⟩
                case round =>
                 clear H';try clear c1
                 try clear p1
                 try clear q1
                 try clear hx1
                 try clear p2
                 try clear c3
                 try clear c3b0
                 try clear c4
                 try clear c4b0
                 try clear c5
                 try clear c5b0
                 try clear c10
                 try clear c10b0
                 try clear c11
                 try clear c11b0
                 try clear c12
                 try clear c12b0
                 try clear c13
                 try clear c13b0
                 try clear c14
                 try clear c14b0
                 try clear c15
                 try clear c15b0
                 try clear p15
                 try clear q15
                 try clear hx15
                 try clear c18
                 try clear c19
                 try clear hcz17_0
                 try clear hcz17_1
                 try clear hcz7_0
                 try clear hcz7_1
                 try clear hfz17_0
                 try clear hfz17_1
                 try clear hfz7_0
                 try clear hfz7_1
                 try clear hx153_0
                 try clear hx157_0
                 try clear hx158_0
                 try clear p1
                 try clear p153
                 try clear p157
                 try clear p158
                 try clear p2
                 try clear q1
                 try clear q153
                 try clear q157
                 try clear q158
                 obtain ⟨x39_4,rfl,HA,HK4,HO_20,HO_37,BK152,HB⟩:=hrel;cases gk with
                 | zero=>exact absurd HA.out (by simp [spec_seTwoTwo.l3])
                 | succ k4 =>
                  have H:=HA.out;clear HA;simp only [spec_seTwoTwo.l3] at H
                  by_cases c20 : x39_4 < (t159.length : Int)
                  ·rw [if_pos c20] at H;have c20b0 : decide (x39_4 < (t159.length : Int)) = true:=decide_eq_true c20;clear c20;by_cases c21 : 0 ≤ x39_4
                   ·rw [if_pos c21] at H;have c21b0 : decide (0 ≤ x39_4) = true:=decide_eq_true c21;clear c21;by_cases c22 : x39_4 < (t159.length : Int)
                    ·rw [if_pos c22] at H;have c22b0 : decide (x39_4 < (t159.length : Int)) = true:=decide_eq_true c22;clear c22;replace H:=Option.bind_eq_some_iff.mp H;obtain ⟨t163,A230,H⟩:=H;replace H : (if t163 = true then ((spec_seIndifferent.f k4 a0_0 l0_1 x6_3 (rd t154 x22_2)).bind fun t164=>(if t164 = true then (some true) else (spec_seTwoTwo.l3 k4 x3_1 (rd t154 x22_2) x6_3 t154 (t154.length : Int) x22_2 t159 (t159.length : Int) (wrap64 (x39_4 + 1)) a0_0 l0_1))) else (spec_seTwoTwo.l3 k4 x3_1 (rd t154 x22_2) x6_3 t154 (t154.length : Int) x22_2 t159 (t159.length : Int) (wrap64 (x39_4 + 1)) a0_0 l0_1)) = some r:=H;have A23:=A_ A230;clear A230;by_cases c24 : t163 = true
                     ·subst c24;have H1 : ((spec_seIndifferent.f k4 a0_0 l0_1 x6_3 (rd t154 x22_2)).bind fun t164=>(if t164 = true then (some true) else (spec_seTwoTwo.l3 k4 x3_1 (rd t154 x22_2) x6_3 t154 (t154.length : Int) x22_2 t159 (t159.length : Int) (wrap64 (x39_4 + 1)) a0_0 l0_1))) = some r:=by rw [if_pos rfl] at H;exact H
                      clear H;have H:=H1;clear H1;replace H:=Option.bind_eq_some_iff.mp H;obtain ⟨t164,A250,H⟩:=H;replace H : (if t164 = true then (some true) else (spec_seTwoTwo.l3 k4 x3_1 (rd t154 x22_2) x6_3 t154 (t154.length : Int) x22_2 t159 (t159.length : Int) (wrap64 (x39_4 + 1)) a0_0 l0_1)) = some r:=H;have A25:=A_ A250;clear A250;by_cases c26 : t164 = true
                      ·subst c26;have H1 : (some true) = some r:=by rw [if_pos rfl] at H;exact H
                       clear H;have H:=H1;clear H1;obtain rfl:=Option.some.inj H;have p162 : 0 ≤ (x39_4 : Int):=of_decide_eq_true (by first|(with_reducible assumption)|assumption);have q162 : x39_4 < (t159.length : Int):=of_decide_eq_true (by first|(with_reducible assumption)|assumption);obtain ⟨ad162,e162,hx162_0⟩:=Kd.at_int (Kd.R_reads' HO_37.out).2.2 x39_4 p162 q162;cases e162
                       replace p162:=eq_true p162;replace q162:=eq_true q162;have hcz27_0 : wr.cell? ⟨gb152,0,none⟩ = some (.int .i64 a0_0):=blk_cell BK152.out 0;have hcz27_1 : wr.cell? ⟨gb152,1,none⟩ = some (.slice (some ad153) l0_1.length c0_1):=blk_cell BK152.out 1;have hfz27_0:=blk_frozen BK152.out 0;have hfz27_1:=blk_frozen BK152.out 1;go_wp2_with (first|((with_reducible refine gate_callee (f:=228) rfl ?_);refine goesL_ (some 46) rfl rfl Tryd.func228 (by kernel_rfl) rfl #[.agg #[.int .i64 a0_0,.slice (some ad153) l0_1.length c0_1],.int .i64 x3_1,.int .i64 (rd t159 x39_4)] rfl au_ ?_;(with_reducible refine (spec_seIndifferent.calls k4 a0_0 _ _ l0_1 x3_1 (rd t159 x39_4) true _ ?side1 ?side2 A23.out).mono ?_);(case side1=>exact cl_ (Kd.C_below HR0_1.out HB.out));(case side2=>exact HC0_1.out);rintro e w28 ⟨rfl,hb⟩;refine ⟨_,rfl,?_⟩;replace HO_20:=rb_ HO_20 hb;replace HO_37:=rb_ HO_37 hb;replace BK152:=bz BK152 hb;replace HB:=A_ (below_step bb_ hb);(try clear hb);(try clear hb2);(try clear hk);(try clear hi);have hcz29_0 : w28.cell? ⟨gb152,0,none⟩ = some (.int .i64 a0_0):=blk_cell BK152.out 0;have hcz29_1 : w28.cell? ⟨gb152,1,none⟩ = some (.slice (some ad153) l0_1.length c0_1):=blk_cell BK152.out 1;have hfz29_0:=blk_frozen BK152.out 0;have hfz29_1:=blk_frozen BK152.out 1)|(go_at_call 228;(with_reducible refine (spec_seIndifferent.calls k4 a0_0 _ _ l0_1 x6_3 (rd t154 x22_2) true _ ?side1 ?side2 A25.out).mono ?_);(case side1=>exact cl_ (Kd.C_below HR0_1.out HB.out));(case side2=>exact HC0_1.out);rintro e w30 ⟨rfl,hb⟩;replace HO_20:=rb_ HO_20 hb;replace HO_37:=rb_ HO_37 hb;replace BK152:=bz BK152 hb;replace HB:=A_ (below_step bb_ hb);(try clear hb);(try clear hb2);(try clear hk);(try clear hi)))
                       go_ret
                       exact ⟨by first|rfl|(simp [errW_none,errW_some] <;> rfl)|(simp [*,errW_none,errW_some] <;> rfl),bb_⟩
                      ·replace c26:=Bool.eq_false_iff.mpr c26;subst c26;have H1 : (spec_seTwoTwo.l3 k4 x3_1 (rd t154 x22_2) x6_3 t154 (t154.length : Int) x22_2 t159 (t159.length : Int) (wrap64 (x39_4 + 1)) a0_0 l0_1) = some r:=by rw [if_neg (show ¬ (false = true) by decide)] at H;exact H
                       clear H;have H:=H1;clear H1;have H':=A_ H;clear H;have p162 : 0 ≤ (x39_4 : Int):=of_decide_eq_true (by first|(with_reducible assumption)|assumption);have q162 : x39_4 < (t159.length : Int):=of_decide_eq_true (by first|(with_reducible assumption)|assumption);obtain ⟨ad162,e162,hx162_0⟩:=Kd.at_int (Kd.R_reads' HO_37.out).2.2 x39_4 p162 q162;cases e162
                       replace p162:=eq_true p162;replace q162:=eq_true q162;have hcz31_0 : wr.cell? ⟨gb152,0,none⟩ = some (.int .i64 a0_0):=blk_cell BK152.out 0;have hcz31_1 : wr.cell? ⟨gb152,1,none⟩ = some (.slice (some ad153) l0_1.length c0_1):=blk_cell BK152.out 1;have hfz31_0:=blk_frozen BK152.out 0;have hfz31_1:=blk_frozen BK152.out 1;go_wp2_with (first|((with_reducible refine gate_callee (f:=228) rfl ?_);refine goesL_ (some 46) rfl rfl Tryd.func228 (by kernel_rfl) rfl #[.agg #[.int .i64 a0_0,.slice (some ad153) l0_1.length c0_1],.int .i64 x3_1,.int .i64 (rd t159 x39_4)] rfl au_ ?_;(with_reducible refine (spec_seIndifferent.calls k4 a0_0 _ _ l0_1 x3_1 (rd t159 x39_4) true _ ?side1 ?side2 A23.out).mono ?_);(case side1=>exact cl_ (Kd.C_below HR0_1.out HB.out));(case side2=>exact HC0_1.out);rintro e w32 ⟨rfl,hb⟩;refine ⟨_,rfl,?_⟩;replace HO_20:=rb_ HO_20 hb;replace HO_37:=rb_ HO_37 hb;replace BK152:=bz BK152 hb;replace HB:=A_ (below_step bb_ hb);(try clear hb);(try clear hb2);(try clear hk);(try clear hi);have hcz33_0 : w32.cell? ⟨gb152,0,none⟩ = some (.int .i64 a0_0):=blk_cell BK152.out 0;have hcz33_1 : w32.cell? ⟨gb152,1,none⟩ = some (.slice (some ad153) l0_1.length c0_1):=blk_cell BK152.out 1;have hfz33_0:=blk_frozen BK152.out 0;have hfz33_1:=blk_frozen BK152.out 1)|(go_at_call 228;(with_reducible refine (spec_seIndifferent.calls k4 a0_0 _ _ l0_1 x6_3 (rd t154 x22_2) false _ ?side1 ?side2 A25.out).mono ?_);(case side1=>exact cl_ (Kd.C_below HR0_1.out HB.out));(case side2=>exact HC0_1.out);rintro e w34 ⟨rfl,hb⟩;replace HO_20:=rb_ HO_20 hb;replace HO_37:=rb_ HO_37 hb;replace BK152:=bz BK152 hb;replace HB:=A_ (below_step bb_ hb);(try clear hb);(try clear hb2);(try clear hk);(try clear hi)))
                       go_roundg k4
                       case measure=>have:=HK1.out;have:=HK2.out;have:=HK3.out;have:=HK4.out;omega
                       case rel=>exact ⟨(wrap64 (x39_4 + 1)),(by first|rfl|(simp;done)|(simp [*];done)),H',⟨by have:=HK1.out;have:=HK2.out;have:=HK3.out;have:=HK4.out;omega⟩,⟨by (with_reducible repeat (first|apply Kd.R_alloc|apply Kd.R_drewN|apply Kd.R_drew));exact HO_20.out⟩,⟨by (with_reducible repeat (first|apply Kd.R_alloc|apply Kd.R_drewN|apply Kd.R_drew));exact HO_37.out⟩,⟨bl_ BK152⟩,⟨bb_⟩⟩
                     ·replace c24:=Bool.eq_false_iff.mpr c24;subst c24;have H1 : (spec_seTwoTwo.l3 k4 x3_1 (rd t154 x22_2) x6_3 t154 (t154.length : Int) x22_2 t159 (t159.length : Int) (wrap64 (x39_4 + 1)) a0_0 l0_1) = some r:=by rw [if_neg (show ¬ (false = true) by decide)] at H;exact H
                      clear H;have H:=H1;clear H1;have H':=A_ H;clear H;have p162 : 0 ≤ (x39_4 : Int):=of_decide_eq_true (by first|(with_reducible assumption)|assumption);have q162 : x39_4 < (t159.length : Int):=of_decide_eq_true (by first|(with_reducible assumption)|assumption);obtain ⟨ad162,e162,hx162_0⟩:=Kd.at_int (Kd.R_reads' HO_37.out).2.2 x39_4 p162 q162;cases e162
                      replace p162:=eq_true p162;replace q162:=eq_true q162;have hcz35_0 : wr.cell? ⟨gb152,0,none⟩ = some (.int .i64 a0_0):=blk_cell BK152.out 0;have hcz35_1 : wr.cell? ⟨gb152,1,none⟩ = some (.slice (some ad153) l0_1.length c0_1):=blk_cell BK152.out 1;have hfz35_0:=blk_frozen BK152.out 0;have hfz35_1:=blk_frozen BK152.out 1;go_wp2_with (first|((with_reducible refine gate_callee (f:=228) rfl ?_);refine goesL_ (some 46) rfl rfl Tryd.func228 (by kernel_rfl) rfl #[.agg #[.int .i64 a0_0,.slice (some ad153) l0_1.length c0_1],.int .i64 x3_1,.int .i64 (rd t159 x39_4)] rfl au_ ?_;(with_reducible refine (spec_seIndifferent.calls k4 a0_0 _ _ l0_1 x3_1 (rd t159 x39_4) false _ ?side1 ?side2 A23.out).mono ?_);(case side1=>exact cl_ (Kd.C_below HR0_1.out HB.out));(case side2=>exact HC0_1.out);rintro e w36 ⟨rfl,hb⟩;refine ⟨_,rfl,?_⟩;replace HO_20:=rb_ HO_20 hb;replace HO_37:=rb_ HO_37 hb;replace BK152:=bz BK152 hb;replace HB:=A_ (below_step bb_ hb);(try clear hb);(try clear hb2);(try clear hk);(try clear hi)))
                      go_roundg k4
                      case measure=>have:=HK1.out;have:=HK2.out;have:=HK3.out;have:=HK4.out;omega
                      case rel=>exact ⟨(wrap64 (x39_4 + 1)),(by first|rfl|(simp;done)|(simp [*];done)),H',⟨by have:=HK1.out;have:=HK2.out;have:=HK3.out;have:=HK4.out;omega⟩,⟨by (with_reducible repeat (first|apply Kd.R_alloc|apply Kd.R_drewN|apply Kd.R_drew));exact HO_20.out⟩,⟨by (with_reducible repeat (first|apply Kd.R_alloc|apply Kd.R_drewN|apply Kd.R_drew));exact HO_37.out⟩,⟨bl_ BK152⟩,⟨bb_⟩⟩
                    ·rw [if_neg c22] at H;exact absurd H (by simp)
                   ·rw [if_neg c21] at H;exact absurd H (by simp)
                  ·rw [if_neg c20] at H;have c20b0 : decide (x39_4 < (t159.length : Int)) = false:=decide_eq_false c20;clear c20;have H':=A_ H;clear H;go_wp2
                   go_roundg k4
                   case measure=>have:=HK1.out;have:=HK2.out;have:=HK3.out;have:=HK4.out;omega
                   case rel=>exact ⟨(wrap64 (x6_3 + 1)),(by first|rfl|(simp;done)|(simp [*];done)),H',⟨by have:=HK1.out;have:=HK2.out;have:=HK3.out;have:=HK4.out;omega⟩,⟨by (with_reducible repeat (first|apply Kd.R_alloc|apply Kd.R_drewN|apply Kd.R_drew));exact Kd.R_mono HO_20.out (fun _ hk=>trivial)⟩,⟨bl_ BK152⟩,⟨bb_⟩⟩
               ·rw [if_neg c15] at H;exact absurd H (by simp)
              ·rw [if_neg c14] at H;exact absurd H (by simp)
             ·rw [if_neg c13] at H;have c13b0 : decide (x6_3 < a0_0) = false:=decide_eq_false c13;clear c13;have H':=A_ H;clear H;have hcz37_0 : wr.cell? ⟨gb152,0,none⟩ = some (.int .i64 a0_0):=blk_cell BK152.out 0;have hcz37_1 : wr.cell? ⟨gb152,1,none⟩ = some (.slice (some ad153) l0_1.length c0_1):=blk_cell BK152.out 1;have hfz37_0:=blk_frozen BK152.out 0;have hfz37_1:=blk_frozen BK152.out 1;go_wp2
              go_roundg k3
              case measure=>have:=HK1.out;have:=HK2.out;have:=HK3.out;omega
              case rel=>exact ⟨(wrap64 (x22_2 + 1)),(by first|rfl|(simp;done)|(simp [*];done)),H',⟨by have:=HK1.out;have:=HK2.out;have:=HK3.out;omega⟩,⟨by (with_reducible repeat (first|apply Kd.R_alloc|apply Kd.R_drewN|apply Kd.R_drew));exact HO_20.out⟩,⟨bl_ BK152⟩,⟨bb_⟩⟩
          ·rw [if_neg c12] at H;exact absurd H (by simp)
         ·rw [if_neg c11] at H;exact absurd H (by simp)
        ·rw [if_neg c10] at H;have c10b0 : decide (x22_2 < (t154.length : Int)) = false:=decide_eq_false c10;clear c10;have H':=A_ H;clear H;go_wp2
         go_roundg k2
         case measure=>have:=HK1.out;have:=HK2.out;omega
         case rel=>exact ⟨(wrap64 (x3_1 + 1)),(by first|rfl|(simp;done)|(simp [*];done)),H',⟨by have:=HK1.out;have:=HK2.out;omega⟩,⟨bl_ BK152⟩,⟨bb_⟩⟩
     ·rw [if_neg c5] at H;exact absurd H (by simp)
    ·rw [if_neg c4] at H;exact absurd H (by simp)
   ·rw [if_neg c3] at H;have c3b0 : decide (x3_1 < a0_0) = false:=decide_eq_false c3;clear c3;obtain rfl:=Option.some.inj H;have hcz38_0 : wr.cell? ⟨gb152,0,none⟩ = some (.int .i64 a0_0):=blk_cell BK152.out 0;have hcz38_1 : wr.cell? ⟨gb152,1,none⟩ = some (.slice A0_1 l0_1.length c0_1):=blk_cell BK152.out 1;have hfz38_0:=blk_frozen BK152.out 0;have hfz38_1:=blk_frozen BK152.out 1;go_wp2
    go_ret
    exact ⟨by first|rfl|(simp [errW_none,errW_some] <;> rfl)|(simp [*,errW_none,errW_some] <;> rfl),bb_⟩
def spec_seGood.f (k : Nat) (a0_0 : Int) (l0_1 : List Int) : Option (Bool) := (spec_ThreeOneOf.f k a0_0 l0_1).bind fun bt166 => ((spec_orGood.f k a0_0 l0_1).bind fun t170 => (if t170 = true then (if bt166.2 = true then (some false) else ((spec_seTwoTwo.f k a0_0 l0_1).bind fun t171 => (some (!t171)))) else (some false)))
set_option maxHeartbeats 8000000 in
set_option maxRecDepth 100000 in
theorem spec_seGood.calls (k : Nat) (a0_0 : Int) (A0_1 : Option Addr) (c0_1 : Nat) (l0_1 : List Int) (r : Bool) (w : World) (hr0_1 : Kd.C (Kd.int .i64) w A0_1 l0_1.length l0_1) (hc0_1 : l0_1.length ≤ c0_1) (h : spec_seGood.f k a0_0 l0_1 = some r) :
 Calls Tryd.prog 105 #[.agg #[.int .i64 a0_0,.slice A0_1 l0_1.length c0_1]] w fun e w'=>e = .returned (.bool r) ∧ Below w.heap.size w w':=by
 have hu28:=Tryd.underlying28;have HR0_1:=A_ hr0_1;have HC0_1:=A_ hc0_1;clear hr0_1 hc0_1;have HB:=A_ (Below.refl w.heap.size w);have H : ((spec_ThreeOneOf.f k a0_0 l0_1).bind fun bt166=>((spec_orGood.f k a0_0 l0_1).bind fun t170=>(if t170 = true then (if bt166.2 = true then (some false) else ((spec_seTwoTwo.f k a0_0 l0_1).bind fun t171=>(some (!t171)))) else (some false)))) = some r:=h;clear h;replace H:=Option.bind_eq_some_iff.mp H;obtain ⟨⟨t166,t169⟩,A20,H⟩:=H;replace H : ((spec_orGood.f k a0_0 l0_1).bind fun t170=>(if t170 = true then (if t169 = true then (some false) else ((spec_seTwoTwo.f k a0_0 l0_1).bind fun t171=>(some (!t171)))) else (some false))) = some r:=H;have A2:=A_ A20;clear A20;replace H:=Option.bind_eq_some_iff.mp H;obtain ⟨t170,A30,H⟩:=H;replace H : (if t170 = true then (if t169 = true then (some false) else ((spec_seTwoTwo.f k a0_0 l0_1).bind fun t171=>(some (!t171)))) else (some false)) = some r:=H;have A3:=A_ A30;clear A30;by_cases c4 : t170 = true
 ·subst c4;have H1 : (if t169 = true then (some false) else ((spec_seTwoTwo.f k a0_0 l0_1).bind fun t171=>(some (!t171)))) = some r:=by rw [if_pos rfl] at H;exact H
  clear H;have H:=H1;clear H1;by_cases c5 : t169 = true
  ·subst c5;have H1 : (some false) = some r:=by rw [if_pos rfl] at H;exact H
   clear H;have H:=H1;clear H1;obtain rfl:=Option.some.inj H;go_enter Tryd.func105,Tryd.ntmps105
   go_wp2_with (first|((with_reducible refine gate_dst (N:=1) rfl ?_);refine box_event ?hg (N:=1) ?hd (cs:=#[.int .i64 a0_0,.slice A0_1 l0_1.length c0_1]) (t:=28) ?hr ?_;(case hd=>rfl);(case hg=>rfl);(case hr=>first|(go_simp;done)|(go_simp;rfl));intro gb165 hg w6 hbox hb;have BK165:=A_ (hbox);have GW165:=A_ ((by rw [hg];exact (below_size bb_) : w.heap.size ≤ gb165));have GE165:=A_ ((by rw [hg];exact (below_size bb_) : w.heap.size ≤ gb165));replace HB:=A_ (below_step bb_ hb);clear hb hbox hg;have hcz7_0 : w6.cell? ⟨gb165,0,none⟩ = some (.int .i64 a0_0):=blk_cell BK165.out 0;have hcz7_1 : w6.cell? ⟨gb165,1,none⟩ = some (.slice A0_1 l0_1.length c0_1):=blk_cell BK165.out 1;have hfz7_0:=blk_frozen BK165.out 0;have hfz7_1:=blk_frozen BK165.out 1)|((with_reducible refine gate_callee (f:=185) rfl ?_);refine goesL_ (some 7) rfl rfl Tryd.func185 (by kernel_rfl) rfl #[.agg #[.int .i64 a0_0,.slice A0_1 l0_1.length c0_1]] rfl au_ ?_;(with_reducible refine (spec_ThreeOneOf.calls k a0_0 _ _ l0_1 t166 true _ ?side1 ?side2 A2.out).mono ?_);(case side1=>exact cl_ (Kd.C_below HR0_1.out HB.out));(case side2=>exact HC0_1.out);rintro e w8 ⟨v167,rfl,ho0,hb⟩;refine ⟨_,rfl,?_⟩;have HO168:=A_ (Kd.R_lower ho0 (below_size bb_));replace BK165:=bz BK165 hb;replace HB:=A_ (below_step bb_ hb);(try clear hb);(try clear hb2);(try clear hk);(try clear hi);(try clear ho0);have hcz9_0 : w8.cell? ⟨gb165,0,none⟩ = some (.int .i64 a0_0):=blk_cell BK165.out 0;have hcz9_1 : w8.cell? ⟨gb165,1,none⟩ = some (.slice A0_1 l0_1.length c0_1):=blk_cell BK165.out 1;have hfz9_0:=blk_frozen BK165.out 0;have hfz9_1:=blk_frozen BK165.out 1)|((with_reducible refine gate_callee (f:=142) rfl ?_);refine goesL_ (some 11) rfl rfl Tryd.func142 (by kernel_rfl) rfl #[.agg #[.int .i64 a0_0,.slice A0_1 l0_1.length c0_1]] rfl au_ ?_;(with_reducible refine (spec_orGood.calls k a0_0 _ _ l0_1 true _ ?side1 ?side2 A3.out).mono ?_);(case side1=>exact cl_ (Kd.C_below HR0_1.out HB.out));(case side2=>exact HC0_1.out);rintro e w10 ⟨rfl,hb⟩;refine ⟨_,rfl,?_⟩;replace HO168:=rb_ HO168 hb;replace BK165:=bz BK165 hb;replace HB:=A_ (below_step bb_ hb);(try clear hb);(try clear hb2);(try clear hk);(try clear hi)))
   go_ret
   exact ⟨by first|rfl|(simp [errW_none,errW_some] <;> rfl)|(simp [*,errW_none,errW_some] <;> rfl),bb_⟩
  ·replace c5:=Bool.eq_false_iff.mpr c5;subst c5;have H1 : ((spec_seTwoTwo.f k a0_0 l0_1).bind fun t171=>(some (!t171))) = some r:=by rw [if_neg (show ¬ (false = true) by decide)] at H;exact H
   clear H;have H:=H1;clear H1;replace H:=Option.bind_eq_some_iff.mp H;obtain ⟨t171,A110,H⟩:=H;replace H : (some (!t171)) = some r:=H;have A11:=A_ A110;clear A110;obtain rfl:=Option.some.inj H;go_enter Tryd.func105,Tryd.ntmps105
   go_wp2_with (first|((with_reducible refine gate_dst (N:=1) rfl ?_);refine box_event ?hg (N:=1) ?hd (cs:=#[.int .i64 a0_0,.slice A0_1 l0_1.length c0_1]) (t:=28) ?hr ?_;(case hd=>rfl);(case hg=>rfl);(case hr=>first|(go_simp;done)|(go_simp;rfl));intro gb165 hg w12 hbox hb;have BK165:=A_ (hbox);have GW165:=A_ ((by rw [hg];exact (below_size bb_) : w.heap.size ≤ gb165));have GE165:=A_ ((by rw [hg];exact (below_size bb_) : w.heap.size ≤ gb165));replace HB:=A_ (below_step bb_ hb);clear hb hbox hg;have hcz13_0 : w12.cell? ⟨gb165,0,none⟩ = some (.int .i64 a0_0):=blk_cell BK165.out 0;have hcz13_1 : w12.cell? ⟨gb165,1,none⟩ = some (.slice A0_1 l0_1.length c0_1):=blk_cell BK165.out 1;have hfz13_0:=blk_frozen BK165.out 0;have hfz13_1:=blk_frozen BK165.out 1)|((with_reducible refine gate_callee (f:=185) rfl ?_);refine goesL_ (some 7) rfl rfl Tryd.func185 (by kernel_rfl) rfl #[.agg #[.int .i64 a0_0,.slice A0_1 l0_1.length c0_1]] rfl au_ ?_;(with_reducible refine (spec_ThreeOneOf.calls k a0_0 _ _ l0_1 t166 false _ ?side1 ?side2 A2.out).mono ?_);(case side1=>exact cl_ (Kd.C_below HR0_1.out HB.out));(case side2=>exact HC0_1.out);rintro e w14 ⟨v167,rfl,ho0,hb⟩;refine ⟨_,rfl,?_⟩;have HO168:=A_ (Kd.R_lower ho0 (below_size bb_));replace BK165:=bz BK165 hb;replace HB:=A_ (below_step bb_ hb);(try clear hb);(try clear hb2);(try clear hk);(try clear hi);(try clear ho0);have hcz15_0 : w14.cell? ⟨gb165,0,none⟩ = some (.int .i64 a0_0):=blk_cell BK165.out 0;have hcz15_1 : w14.cell? ⟨gb165,1,none⟩ = some (.slice A0_1 l0_1.length c0_1):=blk_cell BK165.out 1;have hfz15_0:=blk_frozen BK165.out 0;have hfz15_1:=blk_frozen BK165.out 1)|((with_reducible refine gate_callee (f:=142) rfl ?_);refine goesL_ (some 11) rfl rfl Tryd.func142 (by kernel_rfl) rfl #[.agg #[.int .i64 a0_0,.slice A0_1 l0_1.length c0_1]] rfl au_ ?_;(with_reducible refine (spec_orGood.calls k a0_0 _ _ l0_1 true _ ?side1 ?side2 A3.out).mono ?_);(case side1=>exact cl_ (Kd.C_below HR0_1.out HB.out));(case side2=>exact HC0_1.out);rintro e w16 ⟨rfl,hb⟩;refine ⟨_,rfl,?_⟩;replace HO168:=rb_ HO168 hb;replace BK165:=bz BK165 hb;replace HB:=A_ (below_step bb_ hb);(try clear hb);(try clear hb2);(try clear hk);(try clear hi);have hcz17_0 : w16.cell? ⟨gb165,0,none⟩ = some (.int .i64 a0_0):=blk_cell BK165.out 0;have hcz17_1 : w16.cell? ⟨gb165,1,none⟩ = some (.slice A0_1 l0_1.length c0_1):=blk_cell BK165.out 1;have hfz17_0:=blk_frozen BK165.out 0;have hfz17_1:=blk_frozen BK165.out 1)|(go_at_call 186;(with_reducible refine (spec_seTwoTwo.calls k a0_0 _ _ l0_1 t171 _ ?side1 ?side2 A11.out).mono ?_);(case side1=>exact cl_ (Kd.C_below HR0_1.out HB.out));(case side2=>exact HC0_1.out);rintro e w18 ⟨rfl,hb⟩;replace HO168:=rb_ HO168 hb;replace BK165:=bz BK165 hb;replace HB:=A_ (below_step bb_ hb);(try clear hb);(try clear hb2);(try clear hk);(try clear hi)))
   go_ret
   exact ⟨by first|rfl|(simp [errW_none,errW_some] <;> rfl)|(simp [*,errW_none,errW_some] <;> rfl),bb_⟩
 ·replace c4:=Bool.eq_false_iff.mpr c4;subst c4;have H1 : (some false) = some r:=by rw [if_neg (show ¬ (false = true) by decide)] at H;exact H
  clear H;have H:=H1;clear H1;obtain rfl:=Option.some.inj H;go_enter Tryd.func105,Tryd.ntmps105
  go_wp2_with (first|((with_reducible refine gate_dst (N:=1) rfl ?_);refine box_event ?hg (N:=1) ?hd (cs:=#[.int .i64 a0_0,.slice A0_1 l0_1.length c0_1]) (t:=28) ?hr ?_;(case hd=>rfl);(case hg=>rfl);(case hr=>first|(go_simp;done)|(go_simp;rfl));intro gb165 hg w19 hbox hb;have BK165:=A_ (hbox);have GW165:=A_ ((by rw [hg];exact (below_size bb_) : w.heap.size ≤ gb165));have GE165:=A_ ((by rw [hg];exact (below_size bb_) : w.heap.size ≤ gb165));replace HB:=A_ (below_step bb_ hb);clear hb hbox hg;have hcz20_0 : w19.cell? ⟨gb165,0,none⟩ = some (.int .i64 a0_0):=blk_cell BK165.out 0;have hcz20_1 : w19.cell? ⟨gb165,1,none⟩ = some (.slice A0_1 l0_1.length c0_1):=blk_cell BK165.out 1;have hfz20_0:=blk_frozen BK165.out 0;have hfz20_1:=blk_frozen BK165.out 1)|((with_reducible refine gate_callee (f:=185) rfl ?_);refine goesL_ (some 7) rfl rfl Tryd.func185 (by kernel_rfl) rfl #[.agg #[.int .i64 a0_0,.slice A0_1 l0_1.length c0_1]] rfl au_ ?_;(with_reducible refine (spec_ThreeOneOf.calls k a0_0 _ _ l0_1 t166 t169 _ ?side1 ?side2 A2.out).mono ?_);(case side1=>exact cl_ (Kd.C_below HR0_1.out HB.out));(case side2=>exact HC0_1.out);rintro e w21 ⟨v167,rfl,ho0,hb⟩;refine ⟨_,rfl,?_⟩;have HO168:=A_ (Kd.R_lower ho0 (below_size bb_));replace BK165:=bz BK165 hb;replace HB:=A_ (below_step bb_ hb);(try clear hb);(try clear hb2);(try clear hk);(try clear hi);(try clear ho0);have hcz22_0 : w21.cell? ⟨gb165,0,none⟩ = some (.int .i64 a0_0):=blk_cell BK165.out 0;have hcz22_1 : w21.cell? ⟨gb165,1,none⟩ = some (.slice A0_1 l0_1.length c0_1):=blk_cell BK165.out 1;have hfz22_0:=blk_frozen BK165.out 0;have hfz22_1:=blk_frozen BK165.out 1)|((with_reducible refine gate_callee (f:=142) rfl ?_);refine goesL_ (some 11) rfl rfl Tryd.func142 (by kernel_rfl) rfl #[.agg #[.int .i64 a0_0,.slice A0_1 l0_1.length c0_1]] rfl au_ ?_;(with_reducible refine (spec_orGood.calls k a0_0 _ _ l0_1 false _ ?side1 ?side2 A3.out).mono ?_);(case side1=>exact cl_ (Kd.C_below HR0_1.out HB.out));(case side2=>exact HC0_1.out);rintro e w23 ⟨rfl,hb⟩;refine ⟨_,rfl,?_⟩;replace HO168:=rb_ HO168 hb;replace BK165:=bz BK165 hb;replace HB:=A_ (below_step bb_ hb);(try clear hb);(try clear hb2);(try clear hk);(try clear hi)))
  go_ret
  exact ⟨by first|rfl|(simp [errW_none,errW_some] <;> rfl)|(simp [*,errW_none,errW_some] <;> rfl),bb_⟩
def spec_seMany.f (k : Nat) (a0 : Int) : Option (Int) := (spec_orList.f k a0).bind fun t172 => (some (t172.length : Int))
set_option maxHeartbeats 8000000 in
set_option maxRecDepth 100000 in
theorem spec_seMany.calls (k : Nat) (a0 : Int) (r : Int) (w : World) (h : spec_seMany.f k a0 = some r) :
 Calls Tryd.prog 110 #[.int .i64 a0] w fun e w'=>e = .returned (.int .i64 r) ∧ Below w.heap.size w w':=by
 have HB:=A_ (Below.refl w.heap.size w);have H : ((spec_orList.f k a0).bind fun t172=>(some (t172.length : Int))) = some r:=h;clear h;replace H:=Option.bind_eq_some_iff.mp H;obtain ⟨t172,A20,H⟩:=H;replace H : (some (t172.length : Int)) = some r:=H;have A2:=A_ A20;clear A20;obtain rfl:=Option.some.inj H;go_enter Tryd.func110,Tryd.ntmps110
 go_wp2_with (first|((with_reducible refine gate_callee (f:=191) rfl ?_);refine goesL_ (some 4) rfl rfl Tryd.func191 (by kernel_rfl) rfl #[.int .i64 a0] rfl au_ ?_;(with_reducible refine (spec_orList.calls k a0 t172 _ A2.out).mono ?_);rintro e w3 ⟨v173,rfl,ho0,hb⟩;refine ⟨_,rfl,?_⟩;have HO174:=A_ (Kd.R_lower ho0 (below_size bb_));replace HB:=A_ (below_step bb_ hb);(try clear hb);(try clear hb2);(try clear hk);(try clear hi);(try clear ho0);obtain ⟨Ao4,co4,eo4⟩:=Kd.R_slice HO174.out;subst eo4))
 go_ret
 exact ⟨by first|rfl|(simp [errW_none,errW_some] <;> rfl)|(simp [*,errW_none,errW_some] <;> rfl),bb_⟩
def spec_l1Put.l0 : Nat → List Int → Int → Int → Option (List Int)
 | 0,_,_,_=>none
 | k + 1,x0,x1,x5=>if x5 < (x0.length : Int) then (if 0 ≤ x5 then (if (rd x0 x5) < x1 then (spec_l1Put.l0 k x0 x1 (wrap64 (x5 + 1))) else (if (rd x0 x5) = x1 then (some x0) else ((some (([] : List Int) : List Int)).bind fun y539=>(if x5 ≤ (x0.length : Int) then ((some (x0.take (x5 : Int).toNat : List Int)).bind fun y542=>(if y539.length + y542.length < 17592186044416 then ((some (y539 ++ y542 : List Int)).bind fun y546=>(if y546.length < 17592186044416 then ((some (y546 ++ [x1] : List Int)).bind fun y549=>((some (x0.drop (x5 : Int).toNat : List Int)).bind fun y552=>(if y549.length + y552.length < 17592186044416 then (some (y549 ++ y552)) else (none)))) else (none))) else (none))) else (none))))) else (none)) else ((some (([] : List Int) : List Int)).bind fun y559=>(if 0 ≤ x5 then (if x5 ≤ (x0.length : Int) then ((some (x0.take (x5 : Int).toNat : List Int)).bind fun y562=>(if y559.length + y562.length < 17592186044416 then ((some (y559 ++ y562 : List Int)).bind fun y566=>(if y566.length < 17592186044416 then ((some (y566 ++ [x1] : List Int)).bind fun y569=>((some (x0.drop (x5 : Int).toNat : List Int)).bind fun y572=>(if y569.length + y572.length < 17592186044416 then (some (y569 ++ y572)) else (none)))) else (none))) else (none))) else (none)) else (none)))
def spec_l1Put.f (k : Nat) (l0 : List Int) (a1 : Int) : Option (List Int) := spec_l1Put.l0 k l0 a1 0
set_option maxHeartbeats 8000000 in
set_option maxRecDepth 100000 in
theorem spec_l1Put.calls (k : Nat) (P0_ : Nat → Prop) (u9000_ : Value) (l0 : List Int) (a1 : Int) (r : List Int) (w0 w : World) (hB : Below w0.heap.size w0 w) (ho0 : Kd.R (Kd.int .i64) 3 w w0.heap.size P0_ u9000_ l0) (h : spec_l1Put.f k l0 a1 = some r) :
 Calls Tryd.prog 193 #[u9000_,.int .i64 a1] w fun e w'=>∃ v0_ : Value,e = .returned (v0_) ∧ Kd.R (Kd.int .i64) 3 w' w0.heap.size (fun k_=>(P0_ k_ ∨ w.heap.size ≤ k_)) v0_ r ∧ Below w0.heap.size w0 w' ∧ Kept w w' (fun k_=>P0_ k_):=by
 have HO0:=A_ (show Kd.R (Kd.int .i64) 3 w w0.heap.size (fun k_=>(P0_ k_ ∨ w.heap.size ≤ k_)) u9000_ l0 from Kd.R_mono ho0 (fun k_ hk=>(.inl hk)));have HK:=A_ (Kept.refl w (fun k_=>P0_ k_));have HW0:=A_ hB.size;have HB:=A_ hB;clear hB;have H : (spec_l1Put.l0 k l0 a1 0) = some r:=h;clear h;have H':=A_ H;clear H;go_enter Tryd.func193,Tryd.ntmps193
 go_wp2
 go_loopg [5] k (fun kq v5 w'=>∃ (x5_1 : Int),v5 = .int .i64 x5_1 ∧ Aside0 (spec_l1Put.l0 kq l0 a1 x5_1 = some r) ∧ Aside0 (kq ≤ k) ∧ Aside0 (Kd.R (Kd.int .i64) 3 w' w0.heap.size (fun k_=>(P0_ k_ ∨ w.heap.size ≤ k_)) u9000_ l0) ∧ Aside0 (Kept w w' (fun k_=>P0_ k_)) ∧ Aside0 (Below w0.heap.size w0 w'))
 case atStart=>exact ⟨(0),(by first|rfl|(simp;done)|(simp [*];done)),H',⟨Nat.le_refl _⟩,⟨by (with_reducible repeat (first|apply Kd.R_alloc|apply Kd.R_drewN|apply Kd.R_drew));exact HO0.out⟩,⟨by repeat (first|(with_reducible first|exact HK.out|apply Kept.alloc|apply Kept.drewN|apply Kept.drew)|exact HK.out)⟩,⟨bb_⟩⟩
 case round =>
  clear H';try clear c1
  try clear p2
  obtain ⟨x5_1,rfl,HA,HK1,HO_0,HK,HB⟩:=hrel;cases gk with
  | zero => exact absurd HA.out (by simp [spec_l1Put.l0])
  | succ k1 =>
   have H:=HA.out;clear HA;simp only [spec_l1Put.l0] at H
   by_cases c3 : x5_1 < (l0.length : Int)
   ·rw [if_pos c3] at H;have c3b0 : decide (x5_1 < (l0.length : Int)) = true:=decide_eq_true c3;clear c3;by_cases c4 : 0 ≤ x5_1
    ·rw [if_pos c4] at H;have c4b0 : decide (0 ≤ x5_1) = true:=decide_eq_true c4;clear c4;by_cases c5 : (rd l0 x5_1) < a1
     ·rw [if_pos c5] at H;have c5b0 : decide ((rd l0 x5_1) < a1) = true:=decide_eq_true c5;clear c5;have H':=A_ H;clear H;obtain ⟨Ao6,co6,eo6⟩:=Kd.R_slice HO_0.out;subst eo6;have p537 : 0 ≤ (x5_1 : Int):=of_decide_eq_true (by first|(with_reducible assumption)|assumption);have q537 : x5_1 < (l0.length : Int):=of_decide_eq_true (by first|(with_reducible assumption)|assumption);obtain ⟨ad537,e537,hx537_0⟩:=Kd.at_int (Kd.R_reads' HO_0.out).2.2 x5_1 p537 q537;cases e537
      replace p537:=eq_true p537;replace q537:=eq_true q537;go_wp2
      go_roundg k1
      case measure=>have:=HK1.out;omega
      case rel=>exact ⟨(wrap64 (x5_1 + 1)),(by first|rfl|(simp;done)|(simp [*];done)),H',⟨by have:=HK1.out;omega⟩,⟨by (with_reducible repeat (first|apply Kd.R_alloc|apply Kd.R_drewN|apply Kd.R_drew));exact HO_0.out⟩,⟨by repeat (first|(with_reducible first|exact HK.out|apply Kept.alloc|apply Kept.drewN|apply Kept.drew)|exact HK.out)⟩,⟨bb_⟩⟩
     ·rw [if_neg c5] at H;have c5b0 : decide ((rd l0 x5_1) < a1) = false:=decide_eq_false c5;clear c5;by_cases c7 : (rd l0 x5_1) = a1
      ·rw [if_pos c7] at H;have c7b0 : ((rd l0 x5_1) == a1) = true:=beq_iff_eq.mpr c7;have c7b1 : ((rd l0 x5_1) != a1) = false:=bne_eq_false_iff_eq.mpr c7;clear c7;obtain rfl:=Option.some.inj H;obtain ⟨Ao8,co8,eo8⟩:=Kd.R_slice HO_0.out;subst eo8;have p537 : 0 ≤ (x5_1 : Int):=of_decide_eq_true (by first|(with_reducible assumption)|assumption);have q537 : x5_1 < (l0.length : Int):=of_decide_eq_true (by first|(with_reducible assumption)|assumption);obtain ⟨ad537,e537,hx537_0⟩:=Kd.at_int (Kd.R_reads' HO_0.out).2.2 x5_1 p537 q537;cases e537
       replace p537:=eq_true p537;replace q537:=eq_true q537;have p538 : 0 ≤ (x5_1 : Int):=of_decide_eq_true (by first|(with_reducible assumption)|assumption);have q538 : x5_1 < (l0.length : Int):=of_decide_eq_true (by first|(with_reducible assumption)|assumption);obtain ⟨ad538,e538,hx538_0⟩:=Kd.at_int (Kd.R_reads' HO_0.out).2.2 x5_1 p538 q538;obtain rfl : ad537 = ad538:=(by injection e538);replace p538:=eq_true p538;replace q538:=eq_true q538;go_wp2
       go_ret
       exact ⟨_,by first|rfl|(simp [errW_none,errW_some] <;> rfl)|(simp [*,errW_none,errW_some] <;> rfl),by (with_reducible repeat (first|apply Kd.R_alloc|apply Kd.R_drewN|apply Kd.R_drew));exact HO_0.out,bb_,by repeat (first|(with_reducible first|exact HK.out|apply Kept.alloc|apply Kept.drewN|apply Kept.drew)|exact HK.out)⟩
      ·rw [if_neg c7] at H;have c7b0 : ((rd l0 x5_1) == a1) = false:=beq_eq_false_iff_ne.mpr c7;have c7b1 : ((rd l0 x5_1) != a1) = true:=bne_iff_ne.mpr c7;obtain ⟨y539,hy539⟩ : ∃ y_ : List Int,y_ = (([] : List Int)):=⟨_,rfl⟩;replace H : (if x5_1 ≤ (l0.length : Int) then ((some (l0.take (x5_1 : Int).toNat : List Int)).bind fun y542=>(if y539.length + y542.length < 17592186044416 then ((some (y539 ++ y542 : List Int)).bind fun y546=>(if y546.length < 17592186044416 then ((some (y546 ++ [a1] : List Int)).bind fun y549=>((some (l0.drop (x5_1 : Int).toNat : List Int)).bind fun y552=>(if y549.length + y552.length < 17592186044416 then (some (y549 ++ y552)) else (none)))) else (none))) else (none))) else (none)) = some r:=by first|(rw [hy539];with_reducible exact H)|(have H2_:=(Option.bind_some _ _).symm.trans H;rw [hy539];with_reducible exact H2_)|(have H2_:=(Option.bind_some _ _).symm.trans H;with_reducible exact H2_)|with_reducible exact H|(rw [hy539];exact H)|exact H
       have Ny539:=A_ hy539;clear hy539;have c9b0:=eq_true (of_decide_eq_true (by first|(with_reducible assumption)|assumption) : 0 ≤ x5_1);by_cases c10 : x5_1 ≤ (l0.length : Int)
       ·rw [if_pos c10] at H;have c10b0:=eq_true c10;have c10b1 : decide (x5_1 ≤ (l0.length : Int)) = true:=decide_eq_true c10;clear c10;obtain ⟨y542,hy542⟩ : ∃ y_ : List Int,y_ = (l0.take (x5_1 : Int).toNat):=⟨_,rfl⟩;replace H : (if y539.length + y542.length < 17592186044416 then ((some (y539 ++ y542 : List Int)).bind fun y546=>(if y546.length < 17592186044416 then ((some (y546 ++ [a1] : List Int)).bind fun y549=>((some (l0.drop (x5_1 : Int).toNat : List Int)).bind fun y552=>(if y549.length + y552.length < 17592186044416 then (some (y549 ++ y552)) else (none)))) else (none))) else (none)) = some r:=by first|(rw [hy542];with_reducible exact H)|(have H2_:=(Option.bind_some _ _).symm.trans H;rw [hy542];with_reducible exact H2_)|(have H2_:=(Option.bind_some _ _).symm.trans H;with_reducible exact H2_)|with_reducible exact H|(rw [hy542];exact H)|exact H
        have Ny542:=A_ hy542;clear hy542;by_cases c11 : y539.length + y542.length < 17592186044416
        ·rw [if_pos c11] at H;have LMc11:=A_ c11;clear c11;obtain ⟨y546,hy546⟩ : ∃ y_ : List Int,y_ = (y539 ++ y542):=⟨_,rfl⟩;replace H : (if y546.length < 17592186044416 then ((some (y546 ++ [a1] : List Int)).bind fun y549=>((some (l0.drop (x5_1 : Int).toNat : List Int)).bind fun y552=>(if y549.length + y552.length < 17592186044416 then (some (y549 ++ y552)) else (none)))) else (none)) = some r:=by first|(rw [hy546];with_reducible exact H)|(have H2_:=(Option.bind_some _ _).symm.trans H;rw [hy546];with_reducible exact H2_)|(have H2_:=(Option.bind_some _ _).symm.trans H;with_reducible exact H2_)|with_reducible exact H|(rw [hy546];exact H)|exact H
         have Ny546:=A_ hy546;clear hy546;by_cases c12 : y546.length < 17592186044416
         ·rw [if_pos c12] at H;have LMc12:=A_ c12;clear c12;obtain ⟨y549,hy549⟩ : ∃ y_ : List Int,y_ = (y546 ++ [a1]):=⟨_,rfl⟩;replace H : ((some (l0.drop (x5_1 : Int).toNat : List Int)).bind fun y552=>(if y549.length + y552.length < 17592186044416 then (some (y549 ++ y552)) else (none))) = some r:=by first|(rw [hy549];with_reducible exact H)|(have H2_:=(Option.bind_some _ _).symm.trans H;rw [hy549];with_reducible exact H2_)|(have H2_:=(Option.bind_some _ _).symm.trans H;with_reducible exact H2_)|with_reducible exact H|(rw [hy549];exact H)|exact H
          have Ny549:=A_ hy549;clear hy549;have c13b0:=eq_true (of_decide_eq_true (by first|(with_reducible assumption)|assumption) : 0 ≤ x5_1);have c14b0:=eq_true (of_decide_eq_true (by first|(with_reducible assumption)|assumption) : x5_1 ≤ (l0.length : Int));obtain ⟨y552,hy552⟩ : ∃ y_ : List Int,y_ = (l0.drop (x5_1 : Int).toNat):=⟨_,rfl⟩;replace H : (if y549.length + y552.length < 17592186044416 then (some (y549 ++ y552)) else (none)) = some r:=by first|(rw [hy552];with_reducible exact H)|(have H2_:=(Option.bind_some _ _).symm.trans H;rw [hy552];with_reducible exact H2_)|(have H2_:=(Option.bind_some _ _).symm.trans H;with_reducible exact H2_)|with_reducible exact H|(rw [hy552];exact H)|exact H
          have Ny552:=A_ hy552;clear hy552;by_cases c15 : y549.length + y552.length < 17592186044416
          ·rw [if_pos c15] at H;have LMc15:=A_ c15;clear c15;obtain ⟨y556,hy556⟩ : ∃ y_ : List Int,y_ = (y549 ++ y552):=⟨_,rfl⟩;replace H : (some y556) = some r:=by first|(rw [hy556];with_reducible exact H)|(have H2_:=(Option.bind_some _ _).symm.trans H;rw [hy556];with_reducible exact H2_)|(have H2_:=(Option.bind_some _ _).symm.trans H;with_reducible exact H2_)|with_reducible exact H|(rw [hy556];exact H)|exact H
           have Ny556:=A_ hy556;clear hy556;obtain rfl:=Option.some.inj H;obtain ⟨Ao16,co16,eo16⟩:=Kd.R_slice HO_0.out;subst eo16;have p537 : 0 ≤ (x5_1 : Int):=of_decide_eq_true (by first|(with_reducible assumption)|assumption);have q537 : x5_1 < (l0.length : Int):=of_decide_eq_true (by first|(with_reducible assumption)|assumption);obtain ⟨ad537,e537,hx537_0⟩:=Kd.at_int (Kd.R_reads' HO_0.out).2.2 x5_1 p537 q537;cases e537
           replace p537:=eq_true p537;replace q537:=eq_true q537;have p538 : 0 ≤ (x5_1 : Int):=of_decide_eq_true (by first|(with_reducible assumption)|assumption);have q538 : x5_1 < (l0.length : Int):=of_decide_eq_true (by first|(with_reducible assumption)|assumption);obtain ⟨ad538,e538,hx538_0⟩:=Kd.at_int (Kd.R_reads' HO_0.out).2.2 x5_1 p538 q538;obtain rfl : ad537 = ad538:=(by injection e538);replace p538:=eq_true p538;replace q538:=eq_true q538;go_wp2_with (first|((with_reducible refine gate_dst (N:=34) rfl ?_);refine Kd.R_lit (Kd.int .i64) _ 3 ?hg (N:=34) ?hd (xs:=([] : List Int)) (inner:=[]) (ok:=fun _=>True) (okp:=fun _=>True) ?hr ?hp (fun _ hk=>hk) trivial (Below.refl _ _) (Nat.le_refl _) (by simp) ?_;(case hd=>rfl);(case hg=>rfl);(case hr=>first|(go_simp;done)|(go_simp;rfl));(case hp=>exact (Reps.none _ _));intro v540 w17 ho18 hb hg_ hnew_;clear hg_ hnew_;(first|rw [← Ny539.out] at ho18|(simp only [Int.reduceToNat] at ho18;rw [← Ny539.out] at ho18));have HO541:=A_ (Kd.R_lower (Kd.R_new' (Kd.R_newM (M:=fun k_=>(P0_ k_ ∨ w.heap.size ≤ k_)) ho18 (by first|exact HK.out.1|exact (show Kept w _ (fun k_=>P0_ k_) from by repeat (first|(with_reducible first|exact HK.out|apply Kept.alloc|apply Kept.drewN|apply Kept.drew)|exact HK.out)).1) (fun k_ h_=>.inr h_)) (Kd.R_lt (rl_ HO_0))) (below_size bb_));replace HO_0:=A_ (Kd.R_elder' (rl_ HO_0) (Kd.R_base ho18) hb);replace HK:=A_ (Kept.below (S:=(fun k_=>P0_ k_)) (by repeat (with_reducible first|exact HK.out|apply Kept.alloc|apply Kept.drewN|apply Kept.drew)) hb);replace HB:=A_ (below_step bb_ hb);clear hb ho18;have q19 : (x5_1 : Int) ≤ ((l0.length : Int) : Int):=of_decide_eq_true (by first|(with_reducible assumption)|assumption);obtain ⟨i019,hi019,_,hsz19,_⟩:=info_parts info3;have hroom19 : l0.length ≤ co16:=(Kd.R_reads' HO_0.out).2.1;have hC19 : Kd.C (Kd.int .i64) _ (some ad537) l0.length l0:=(Kd.R_reads' HO_0.out).2.2;have hcut19:=cut_to (P:=Tryd.prog) 22 3 .i64 Tryd.underlying22 hi019 (some ad537) l0.length co16 x5_1 (of_decide_eq_true (by first|(with_reducible assumption)|assumption)) q19 hroom19;have hr19:=Kd.C_take (m:=(x5_1 : Int).toNat) hC19 (by omega);have hy19 : y542.length = (x5_1 : Int).toNat:=(by rw [Ny542.out,U_];omega);rw [← Ny542.out] at hr19;rw [← hy19] at hcut19;have HR545:=A_ hr19;have HC545:=A_ (show y542.length ≤ co16 from by omega);clear hr19 hC19 hroom19 hi019 hsz19;have KY19:=A_ hy19;clear hy19;have KL19:=A_ (show (x5_1 : Int).toNat ≤ l0.length from by omega);replace q19:=eq_true q19)|((with_reducible refine gate_builtin (b:=.append) (xs:=#[.tmp 34,.tmp 37]) rfl ?_);at_builtin;refine Kd.R_append_rows (Kd.int .i64) (w0:=w0) w0.heap.size rfl (.tmp 34) (.tmp 37) 22 3 (.int .i64 0) 8 rfl Tryd.underlying22 info3 rfl (by decide) (by omega) v540 y539 y542 _ _ _ (fun k_=>(P0_ k_ ∨ w.heap.size ≤ k_) ∧ some k_ ≠ (.slice (some ad537) l0.length co16 : Value).ownBlock) (fun _=>False) rfl rfl ?aO ?aR (fun _ _ h=>h) (fun _ h=>h.elim) ?aF ?aB ?aS ?aL ?_;(case aR=>repeat (first|exact (by repeat (first|(with_reducible exact HR545.out)|(with_reducible refine Kd.C_alloc ?_ _)|(with_reducible refine Kd.C_drewN ?_ _)|(with_reducible refine Kd.C_drew ?_)|exact HR545.out))|(with_reducible refine Kd.C_alloc ?_ _)|(with_reducible refine Kd.C_drewN ?_ _)|(with_reducible refine Kd.C_drew ?_)));(case aB=>exact bb_);(case aF=>exact (fun k_ hk=>⟨(.inr (Nat.le_trans (by first|exact HK.out.1|exact (show Kept w _ (fun k_=>P0_ k_) from by repeat (first|(with_reducible first|exact HK.out|apply Kept.alloc|apply Kept.drewN|apply Kept.drew)|exact HK.out)).1) hk)),Kd.fresh' (Kd.R_lt (rl_ HO_0)) k_ hk⟩));(case aO=>exact (by (with_reducible repeat (first|apply Kd.R_alloc|apply Kd.R_drewN|apply Kd.R_drew));exact Kd.R_mono HO541.out (fun _ hk=>⟨hk.1.1,hk.2⟩)));(case aS=>exact (below_size bb_));(case aL=>have:=LMc11.out;omega);intro v547 w20 ho hb hg hat;rw [← Ny546.out] at ho;replace HB:=A_ (hb);replace HK:=A_ (Kept.of_grown (S:=(fun k_=>P0_ k_)) hg (by repeat (with_reducible first|exact HK.out|apply Kept.alloc|apply Kept.drewN|apply Kept.drew)) (fun k_ e_=>(HO541.out.1 k_ e_).1.1));replace HR545:=A_ ((show Kd.C (Kd.int .i64) w20 (some ad537) y542.length y542 from by rw [Ny542.out];exact Kd.C_take (m:=(x5_1 : Int).toNat) ((Kd.R_reads' (Kd.R_after (ok:=(fun k_=>(P0_ k_ ∨ w.heap.size ≤ k_))) (rl_ HO_0) hg hat)).2.2) KL19.out));replace HO_0:=A_ (Kd.R_after (ok:=(fun k_=>(P0_ k_ ∨ w.heap.size ≤ k_))) (rl_ HO_0) hg hat);have HO548:=A_ (ho);clear HO541;clear ho hb hg hat)|((with_reducible refine gate_builtin (b:=.append) (xs:=#[.tmp 39,.tmp 41]) rfl ?_);at_builtin;refine Kd.R_append (Kd.int .i64) (w0:=w0) w0.heap.size rfl (.tmp 39) (.tmp 41) 22 3 (.int .i64 0) 8 rfl Tryd.underlying22 info3 rfl (by decide) (by omega) v547 y546 a1 [.int .i64 a1] (fun k_=>(P0_ k_ ∨ w.heap.size ≤ k_) ∧ some k_ ≠ (.slice (some ad537) l0.length co16 : Value).ownBlock) (fun _=>False) rfl rfl ?aP (fun _ hk=>hk.elim) ?aF ?aO ?aB ?aS ?aL ?_;(case aP=>exact rfl);(case aB=>exact bb_);(case aF=>exact (fun k_ hk=>⟨(.inr (Nat.le_trans (by first|exact HK.out.1|exact (show Kept w _ (fun k_=>P0_ k_) from by repeat (first|(with_reducible first|exact HK.out|apply Kept.alloc|apply Kept.drewN|apply Kept.drew)|exact HK.out)).1) hk)),Kd.fresh' (Kd.R_lt (rl_ HO_0)) k_ hk⟩));(case aO=>exact (rl_ HO548));(case aS=>exact (below_size bb_));(case aL=>have:=LMc12.out;omega);intro v550 w21 ho hb hg hat;rw [← Ny549.out] at ho;replace HB:=A_ (hb);replace HK:=A_ (Kept.of_grown (S:=(fun k_=>P0_ k_)) hg (by repeat (with_reducible first|exact HK.out|apply Kept.alloc|apply Kept.drewN|apply Kept.drew)) (fun k_ e_=>(HO548.out.1 k_ e_).1));replace HR545:=A_ ((show Kd.C (Kd.int .i64) w21 (some ad537) y542.length y542 from by rw [Ny542.out];exact Kd.C_take (m:=(x5_1 : Int).toNat) ((Kd.R_reads' (Kd.R_after (ok:=(fun k_=>(P0_ k_ ∨ w.heap.size ≤ k_))) (rl_ HO_0) hg hat)).2.2) KL19.out));replace HO_0:=A_ (Kd.R_after (ok:=(fun k_=>(P0_ k_ ∨ w.heap.size ≤ k_))) (rl_ HO_0) hg hat);have HO551:=A_ (ho);clear HO548;clear ho hb hg hat;have q22 : (x5_1 : Int) ≤ ((l0.length : Int) : Int):=of_decide_eq_true (by first|(with_reducible assumption)|assumption);obtain ⟨i022,hi022,_,hsz22,_⟩:=info_parts info3;have hroom22 : l0.length ≤ co16:=(Kd.R_reads' HO_0.out).2.1;have hC22 : Kd.C (Kd.int .i64) _ (some ad537) l0.length l0:=(Kd.R_reads' HO_0.out).2.2;have q022 : (0 : Int) ≤ (x5_1 : Int):=of_decide_eq_true (by first|(with_reducible assumption)|assumption);have hcut22:=cut_from (P:=Tryd.prog) 22 3 .i64 Tryd.underlying22 hi022 1 hsz22 (some ad537) l0.length co16 x5_1 q022 q22;have hr22:=Kd.C_drop (m:=(x5_1 : Int).toNat) (c:=co16) hC22 (by omega) hroom22;obtain ⟨A22,hA22⟩ : ∃ A1,A1 = (if co16 = (x5_1 : Int).toNat then (some ad537) else ((some ad537) : Option Addr).map (·.add ((x5_1 : Int).toNat * 1))):=⟨_,rfl⟩;obtain ⟨c22,hc22⟩ : ∃ c1,c1 = co16 - (x5_1 : Int).toNat:=⟨_,rfl⟩;have hy22 : y552.length = l0.length - (x5_1 : Int).toNat:=(by rw [Ny552.out,S_] <;> omega);rw [show (l0).drop (x5_1 : Int).toNat = y552 from Ny552.out.symm] at hr22;replace hr22 : Kd.C (Kd.int .i64) _ A22 y552.length y552:=(by rw [hA22];exact hr22);rw [← hy22,← hA22,← hc22] at hcut22;have HR555:=A_ hr22;have HC555:=A_ (show y552.length ≤ c22 from by rw [hy22,hc22];exact Nat.sub_le_sub_right hroom22 _);clear hr22 hC22 hroom22 hi022 hsz22 hc22;have KY22:=A_ hy22;have KA22:=A_ hA22;clear hy22 hA22;have KL22:=A_ (show (x5_1 : Int).toNat ≤ l0.length from by omega);replace q22:=eq_true q22)|((with_reducible refine gate_builtin (b:=.append) (xs:=#[.tmp 43,.tmp 46]) rfl ?_);at_builtin;refine Kd.R_append_rows (Kd.int .i64) (w0:=w0) w0.heap.size rfl (.tmp 43) (.tmp 46) 22 3 (.int .i64 0) 8 rfl Tryd.underlying22 info3 rfl (by decide) (by omega) v550 y549 y552 _ _ _ (fun k_=>(P0_ k_ ∨ w.heap.size ≤ k_) ∧ some k_ ≠ (.slice (some ad537) l0.length co16 : Value).ownBlock) (fun _=>False) rfl rfl ?aO ?aR (fun _ _ h=>h) (fun _ h=>h.elim) ?aF ?aB ?aS ?aL ?_;(case aR=>repeat (first|exact (by repeat (first|(with_reducible exact HR555.out)|(with_reducible refine Kd.C_alloc ?_ _)|(with_reducible refine Kd.C_drewN ?_ _)|(with_reducible refine Kd.C_drew ?_)|exact HR555.out))|(with_reducible refine Kd.C_alloc ?_ _)|(with_reducible refine Kd.C_drewN ?_ _)|(with_reducible refine Kd.C_drew ?_)));(case aB=>exact bb_);(case aF=>exact (fun k_ hk=>⟨(.inr (Nat.le_trans (by first|exact HK.out.1|exact (show Kept w _ (fun k_=>P0_ k_) from by repeat (first|(with_reducible first|exact HK.out|apply Kept.alloc|apply Kept.drewN|apply Kept.drew)|exact HK.out)).1) hk)),Kd.fresh' (Kd.R_lt (rl_ HO_0)) k_ hk⟩));(case aO=>exact (rl_ HO551));(case aS=>exact (below_size bb_));(case aL=>have:=LMc15.out;omega);intro v557 w23 ho hb hg hat;rw [← Ny556.out] at ho;replace HB:=A_ (hb);replace HK:=A_ (Kept.of_grown (S:=(fun k_=>P0_ k_)) hg (by repeat (with_reducible first|exact HK.out|apply Kept.alloc|apply Kept.drewN|apply Kept.drew)) (fun k_ e_=>(HO551.out.1 k_ e_).1));replace HR545:=A_ ((show Kd.C (Kd.int .i64) w23 (some ad537) y542.length y542 from by rw [Ny542.out];exact Kd.C_take (m:=(x5_1 : Int).toNat) ((Kd.R_reads' (Kd.R_after (ok:=(fun k_=>(P0_ k_ ∨ w.heap.size ≤ k_))) (rl_ HO_0) hg hat)).2.2) KL19.out));replace HR555:=A_ ((show Kd.C (Kd.int .i64) w23 A22 y552.length y552 from by rw [Ny552.out,KA22.out];exact Kd.C_drop (m:=(x5_1 : Int).toNat) (c:=co16) ((Kd.R_reads' (Kd.R_after (ok:=(fun k_=>(P0_ k_ ∨ w.heap.size ≤ k_))) (rl_ HO_0) hg hat)).2.2) KL22.out ((Kd.R_reads' (Kd.R_after (ok:=(fun k_=>(P0_ k_ ∨ w.heap.size ≤ k_))) (rl_ HO_0) hg hat)).2.1)));replace HO_0:=A_ (Kd.R_after (ok:=(fun k_=>(P0_ k_ ∨ w.heap.size ≤ k_))) (rl_ HO_0) hg hat);have HO558:=A_ (ho);clear HO551;clear ho hb hg hat))
           go_ret
           exact ⟨_,by first|rfl|(simp [errW_none,errW_some] <;> rfl)|(simp [*,errW_none,errW_some] <;> rfl),by (with_reducible repeat (first|apply Kd.R_alloc|apply Kd.R_drewN|apply Kd.R_drew));exact Kd.R_mono HO558.out (fun _ hk=>hk.1),bb_,by repeat (first|(with_reducible first|exact HK.out|apply Kept.alloc|apply Kept.drewN|apply Kept.drew)|exact HK.out)⟩
          ·rw [if_neg c15] at H;exact absurd H (by simp)
         ·rw [if_neg c12] at H;exact absurd H (by simp)
        ·rw [if_neg c11] at H;exact absurd H (by simp)
       ·rw [if_neg c10] at H;exact absurd H (by simp)
    ·rw [if_neg c4] at H;exact absurd H (by simp)
   ·rw [if_neg c3] at H;have c3b0 : decide (x5_1 < (l0.length : Int)) = false:=decide_eq_false c3;clear c3;obtain ⟨y559,hy559⟩ : ∃ y_ : List Int,y_ = (([] : List Int)):=⟨_,rfl⟩;replace H : (if 0 ≤ x5_1 then (if x5_1 ≤ (l0.length : Int) then ((some (l0.take (x5_1 : Int).toNat : List Int)).bind fun y562=>(if y559.length + y562.length < 17592186044416 then ((some (y559 ++ y562 : List Int)).bind fun y566=>(if y566.length < 17592186044416 then ((some (y566 ++ [a1] : List Int)).bind fun y569=>((some (l0.drop (x5_1 : Int).toNat : List Int)).bind fun y572=>(if y569.length + y572.length < 17592186044416 then (some (y569 ++ y572)) else (none)))) else (none))) else (none))) else (none)) else (none)) = some r:=by first|(rw [hy559];with_reducible exact H)|(have H2_:=(Option.bind_some _ _).symm.trans H;rw [hy559];with_reducible exact H2_)|(have H2_:=(Option.bind_some _ _).symm.trans H;with_reducible exact H2_)|with_reducible exact H|(rw [hy559];exact H)|exact H
    have Ny559:=A_ hy559;clear hy559;by_cases c24 : 0 ≤ x5_1
    ·rw [if_pos c24] at H;have c24b0:=eq_true c24;have c24b1 : decide (0 ≤ x5_1) = true:=decide_eq_true c24;clear c24;by_cases c25 : x5_1 ≤ (l0.length : Int)
     ·rw [if_pos c25] at H;have c25b0:=eq_true c25;have c25b1 : decide (x5_1 ≤ (l0.length : Int)) = true:=decide_eq_true c25;clear c25;obtain ⟨y562,hy562⟩ : ∃ y_ : List Int,y_ = (l0.take (x5_1 : Int).toNat):=⟨_,rfl⟩;replace H : (if y559.length + y562.length < 17592186044416 then ((some (y559 ++ y562 : List Int)).bind fun y566=>(if y566.length < 17592186044416 then ((some (y566 ++ [a1] : List Int)).bind fun y569=>((some (l0.drop (x5_1 : Int).toNat : List Int)).bind fun y572=>(if y569.length + y572.length < 17592186044416 then (some (y569 ++ y572)) else (none)))) else (none))) else (none)) = some r:=by first|(rw [hy562];with_reducible exact H)|(have H2_:=(Option.bind_some _ _).symm.trans H;rw [hy562];with_reducible exact H2_)|(have H2_:=(Option.bind_some _ _).symm.trans H;with_reducible exact H2_)|with_reducible exact H|(rw [hy562];exact H)|exact H
      have Ny562:=A_ hy562;clear hy562;by_cases c26 : y559.length + y562.length < 17592186044416
      ·rw [if_pos c26] at H;have LMc26:=A_ c26;clear c26;obtain ⟨y566,hy566⟩ : ∃ y_ : List Int,y_ = (y559 ++ y562):=⟨_,rfl⟩;replace H : (if y566.length < 17592186044416 then ((some (y566 ++ [a1] : List Int)).bind fun y569=>((some (l0.drop (x5_1 : Int).toNat : List Int)).bind fun y572=>(if y569.length + y572.length < 17592186044416 then (some (y569 ++ y572)) else (none)))) else (none)) = some r:=by first|(rw [hy566];with_reducible exact H)|(have H2_:=(Option.bind_some _ _).symm.trans H;rw [hy566];with_reducible exact H2_)|(have H2_:=(Option.bind_some _ _).symm.trans H;with_reducible exact H2_)|with_reducible exact H|(rw [hy566];exact H)|exact H
       have Ny566:=A_ hy566;clear hy566;by_cases c27 : y566.length < 17592186044416
       ·rw [if_pos c27] at H;have LMc27:=A_ c27;clear c27;obtain ⟨y569,hy569⟩ : ∃ y_ : List Int,y_ = (y566 ++ [a1]):=⟨_,rfl⟩;replace H : ((some (l0.drop (x5_1 : Int).toNat : List Int)).bind fun y572=>(if y569.length + y572.length < 17592186044416 then (some (y569 ++ y572)) else (none))) = some r:=by first|(rw [hy569];with_reducible exact H)|(have H2_:=(Option.bind_some _ _).symm.trans H;rw [hy569];with_reducible exact H2_)|(have H2_:=(Option.bind_some _ _).symm.trans H;with_reducible exact H2_)|with_reducible exact H|(rw [hy569];exact H)|exact H
        have Ny569:=A_ hy569;clear hy569;have c28b0:=eq_true (of_decide_eq_true (by first|(with_reducible assumption)|assumption) : 0 ≤ x5_1);have c29b0:=eq_true (of_decide_eq_true (by first|(with_reducible assumption)|assumption) : x5_1 ≤ (l0.length : Int));obtain ⟨y572,hy572⟩ : ∃ y_ : List Int,y_ = (l0.drop (x5_1 : Int).toNat):=⟨_,rfl⟩;replace H : (if y569.length + y572.length < 17592186044416 then (some (y569 ++ y572)) else (none)) = some r:=by first|(rw [hy572];with_reducible exact H)|(have H2_:=(Option.bind_some _ _).symm.trans H;rw [hy572];with_reducible exact H2_)|(have H2_:=(Option.bind_some _ _).symm.trans H;with_reducible exact H2_)|with_reducible exact H|(rw [hy572];exact H)|exact H
        have Ny572:=A_ hy572;clear hy572;by_cases c30 : y569.length + y572.length < 17592186044416
        ·rw [if_pos c30] at H;have LMc30:=A_ c30;clear c30;obtain ⟨y576,hy576⟩ : ∃ y_ : List Int,y_ = (y569 ++ y572):=⟨_,rfl⟩;replace H : (some y576) = some r:=by first|(rw [hy576];with_reducible exact H)|(have H2_:=(Option.bind_some _ _).symm.trans H;rw [hy576];with_reducible exact H2_)|(have H2_:=(Option.bind_some _ _).symm.trans H;with_reducible exact H2_)|with_reducible exact H|(rw [hy576];exact H)|exact H
         have Ny576:=A_ hy576;clear hy576;obtain rfl:=Option.some.inj H;obtain ⟨Ao31,co31,eo31⟩:=Kd.R_slice HO_0.out;subst eo31;go_wp2_with (first|((with_reducible refine gate_dst (N:=34) rfl ?_);refine Kd.R_lit (Kd.int .i64) _ 3 ?hg (N:=34) ?hd (xs:=([] : List Int)) (inner:=[]) (ok:=fun _=>True) (okp:=fun _=>True) ?hr ?hp (fun _ hk=>hk) trivial (Below.refl _ _) (Nat.le_refl _) (by simp) ?_;(case hd=>rfl);(case hg=>rfl);(case hr=>first|(go_simp;done)|(go_simp;rfl));(case hp=>exact (Reps.none _ _));intro v560 w32 ho33 hb hg_ hnew_;clear hg_ hnew_;(first|rw [← Ny559.out] at ho33|(simp only [Int.reduceToNat] at ho33;rw [← Ny559.out] at ho33));have HO561:=A_ (Kd.R_lower (Kd.R_new' (Kd.R_newM (M:=fun k_=>(P0_ k_ ∨ w.heap.size ≤ k_)) ho33 (by first|exact HK.out.1|exact (show Kept w _ (fun k_=>P0_ k_) from by repeat (first|(with_reducible first|exact HK.out|apply Kept.alloc|apply Kept.drewN|apply Kept.drew)|exact HK.out)).1) (fun k_ h_=>.inr h_)) (Kd.R_lt (rl_ HO_0))) (below_size bb_));replace HO_0:=A_ (Kd.R_elder' (rl_ HO_0) (Kd.R_base ho33) hb);replace HK:=A_ (Kept.below (S:=(fun k_=>P0_ k_)) (by repeat (with_reducible first|exact HK.out|apply Kept.alloc|apply Kept.drewN|apply Kept.drew)) hb);replace HB:=A_ (below_step bb_ hb);clear hb ho33;have q34 : (x5_1 : Int) ≤ ((l0.length : Int) : Int):=of_decide_eq_true (by first|(with_reducible assumption)|assumption);obtain ⟨i034,hi034,_,hsz34,_⟩:=info_parts info3;have hroom34 : l0.length ≤ co31:=(Kd.R_reads' HO_0.out).2.1;have hC34 : Kd.C (Kd.int .i64) _ Ao31 l0.length l0:=(Kd.R_reads' HO_0.out).2.2;have hcut34:=cut_to (P:=Tryd.prog) 22 3 .i64 Tryd.underlying22 hi034 Ao31 l0.length co31 x5_1 (of_decide_eq_true (by first|(with_reducible assumption)|assumption)) q34 hroom34;have hr34:=Kd.C_take (m:=(x5_1 : Int).toNat) hC34 (by omega);have hy34 : y562.length = (x5_1 : Int).toNat:=(by rw [Ny562.out,U_];omega);rw [← Ny562.out] at hr34;rw [← hy34] at hcut34;have HR565:=A_ hr34;have HC565:=A_ (show y562.length ≤ co31 from by omega);clear hr34 hC34 hroom34 hi034 hsz34;have KY34:=A_ hy34;clear hy34;have KL34:=A_ (show (x5_1 : Int).toNat ≤ l0.length from by omega);replace q34:=eq_true q34)|((with_reducible refine gate_builtin (b:=.append) (xs:=#[.tmp 34,.tmp 37]) rfl ?_);at_builtin;refine Kd.R_append_rows (Kd.int .i64) (w0:=w0) w0.heap.size rfl (.tmp 34) (.tmp 37) 22 3 (.int .i64 0) 8 rfl Tryd.underlying22 info3 rfl (by decide) (by omega) v560 y559 y562 _ _ _ (fun k_=>(P0_ k_ ∨ w.heap.size ≤ k_) ∧ some k_ ≠ (.slice Ao31 l0.length co31 : Value).ownBlock) (fun _=>False) rfl rfl ?aO ?aR (fun _ _ h=>h) (fun _ h=>h.elim) ?aF ?aB ?aS ?aL ?_;(case aR=>repeat (first|exact (by repeat (first|(with_reducible exact HR565.out)|(with_reducible refine Kd.C_alloc ?_ _)|(with_reducible refine Kd.C_drewN ?_ _)|(with_reducible refine Kd.C_drew ?_)|exact HR565.out))|(with_reducible refine Kd.C_alloc ?_ _)|(with_reducible refine Kd.C_drewN ?_ _)|(with_reducible refine Kd.C_drew ?_)));(case aB=>exact bb_);(case aF=>exact (fun k_ hk=>⟨(.inr (Nat.le_trans (by first|exact HK.out.1|exact (show Kept w _ (fun k_=>P0_ k_) from by repeat (first|(with_reducible first|exact HK.out|apply Kept.alloc|apply Kept.drewN|apply Kept.drew)|exact HK.out)).1) hk)),Kd.fresh' (Kd.R_lt (rl_ HO_0)) k_ hk⟩));(case aO=>exact (by (with_reducible repeat (first|apply Kd.R_alloc|apply Kd.R_drewN|apply Kd.R_drew));exact Kd.R_mono HO561.out (fun _ hk=>⟨hk.1.1,hk.2⟩)));(case aS=>exact (below_size bb_));(case aL=>have:=LMc26.out;omega);intro v567 w35 ho hb hg hat;rw [← Ny566.out] at ho;replace HB:=A_ (hb);replace HK:=A_ (Kept.of_grown (S:=(fun k_=>P0_ k_)) hg (by repeat (with_reducible first|exact HK.out|apply Kept.alloc|apply Kept.drewN|apply Kept.drew)) (fun k_ e_=>(HO561.out.1 k_ e_).1.1));replace HR565:=A_ ((show Kd.C (Kd.int .i64) w35 Ao31 y562.length y562 from by rw [Ny562.out];exact Kd.C_take (m:=(x5_1 : Int).toNat) ((Kd.R_reads' (Kd.R_after (ok:=(fun k_=>(P0_ k_ ∨ w.heap.size ≤ k_))) (rl_ HO_0) hg hat)).2.2) KL34.out));replace HO_0:=A_ (Kd.R_after (ok:=(fun k_=>(P0_ k_ ∨ w.heap.size ≤ k_))) (rl_ HO_0) hg hat);have HO568:=A_ (ho);clear HO561;clear ho hb hg hat)|((with_reducible refine gate_builtin (b:=.append) (xs:=#[.tmp 39,.tmp 41]) rfl ?_);at_builtin;refine Kd.R_append (Kd.int .i64) (w0:=w0) w0.heap.size rfl (.tmp 39) (.tmp 41) 22 3 (.int .i64 0) 8 rfl Tryd.underlying22 info3 rfl (by decide) (by omega) v567 y566 a1 [.int .i64 a1] (fun k_=>(P0_ k_ ∨ w.heap.size ≤ k_) ∧ some k_ ≠ (.slice Ao31 l0.length co31 : Value).ownBlock) (fun _=>False) rfl rfl ?aP (fun _ hk=>hk.elim) ?aF ?aO ?aB ?aS ?aL ?_;(case aP=>exact rfl);(case aB=>exact bb_);(case aF=>exact (fun k_ hk=>⟨(.inr (Nat.le_trans (by first|exact HK.out.1|exact (show Kept w _ (fun k_=>P0_ k_) from by repeat (first|(with_reducible first|exact HK.out|apply Kept.alloc|apply Kept.drewN|apply Kept.drew)|exact HK.out)).1) hk)),Kd.fresh' (Kd.R_lt (rl_ HO_0)) k_ hk⟩));(case aO=>exact (rl_ HO568));(case aS=>exact (below_size bb_));(case aL=>have:=LMc27.out;omega);intro v570 w36 ho hb hg hat;rw [← Ny569.out] at ho;replace HB:=A_ (hb);replace HK:=A_ (Kept.of_grown (S:=(fun k_=>P0_ k_)) hg (by repeat (with_reducible first|exact HK.out|apply Kept.alloc|apply Kept.drewN|apply Kept.drew)) (fun k_ e_=>(HO568.out.1 k_ e_).1));replace HR565:=A_ ((show Kd.C (Kd.int .i64) w36 Ao31 y562.length y562 from by rw [Ny562.out];exact Kd.C_take (m:=(x5_1 : Int).toNat) ((Kd.R_reads' (Kd.R_after (ok:=(fun k_=>(P0_ k_ ∨ w.heap.size ≤ k_))) (rl_ HO_0) hg hat)).2.2) KL34.out));replace HO_0:=A_ (Kd.R_after (ok:=(fun k_=>(P0_ k_ ∨ w.heap.size ≤ k_))) (rl_ HO_0) hg hat);have HO571:=A_ (ho);clear HO568;clear ho hb hg hat;have q37 : (x5_1 : Int) ≤ ((l0.length : Int) : Int):=of_decide_eq_true (by first|(with_reducible assumption)|assumption);obtain ⟨i037,hi037,_,hsz37,_⟩:=info_parts info3;have hroom37 : l0.length ≤ co31:=(Kd.R_reads' HO_0.out).2.1;have hC37 : Kd.C (Kd.int .i64) _ Ao31 l0.length l0:=(Kd.R_reads' HO_0.out).2.2;have q037 : (0 : Int) ≤ (x5_1 : Int):=of_decide_eq_true (by first|(with_reducible assumption)|assumption);have hcut37:=cut_from (P:=Tryd.prog) 22 3 .i64 Tryd.underlying22 hi037 1 hsz37 Ao31 l0.length co31 x5_1 q037 q37;have hr37:=Kd.C_drop (m:=(x5_1 : Int).toNat) (c:=co31) hC37 (by omega) hroom37;obtain ⟨A37,hA37⟩ : ∃ A1,A1 = (if co31 = (x5_1 : Int).toNat then Ao31 else (Ao31 : Option Addr).map (·.add ((x5_1 : Int).toNat * 1))):=⟨_,rfl⟩;obtain ⟨c37,hc37⟩ : ∃ c1,c1 = co31 - (x5_1 : Int).toNat:=⟨_,rfl⟩;have hy37 : y572.length = l0.length - (x5_1 : Int).toNat:=(by rw [Ny572.out,S_] <;> omega);rw [show (l0).drop (x5_1 : Int).toNat = y572 from Ny572.out.symm] at hr37;replace hr37 : Kd.C (Kd.int .i64) _ A37 y572.length y572:=(by rw [hA37];exact hr37);rw [← hy37,← hA37,← hc37] at hcut37;have HR575:=A_ hr37;have HC575:=A_ (show y572.length ≤ c37 from by rw [hy37,hc37];exact Nat.sub_le_sub_right hroom37 _);clear hr37 hC37 hroom37 hi037 hsz37 hc37;have KY37:=A_ hy37;have KA37:=A_ hA37;clear hy37 hA37;have KL37:=A_ (show (x5_1 : Int).toNat ≤ l0.length from by omega);replace q37:=eq_true q37)|((with_reducible refine gate_builtin (b:=.append) (xs:=#[.tmp 43,.tmp 46]) rfl ?_);at_builtin;refine Kd.R_append_rows (Kd.int .i64) (w0:=w0) w0.heap.size rfl (.tmp 43) (.tmp 46) 22 3 (.int .i64 0) 8 rfl Tryd.underlying22 info3 rfl (by decide) (by omega) v570 y569 y572 _ _ _ (fun k_=>(P0_ k_ ∨ w.heap.size ≤ k_) ∧ some k_ ≠ (.slice Ao31 l0.length co31 : Value).ownBlock) (fun _=>False) rfl rfl ?aO ?aR (fun _ _ h=>h) (fun _ h=>h.elim) ?aF ?aB ?aS ?aL ?_;(case aR=>repeat (first|exact (by repeat (first|(with_reducible exact HR575.out)|(with_reducible refine Kd.C_alloc ?_ _)|(with_reducible refine Kd.C_drewN ?_ _)|(with_reducible refine Kd.C_drew ?_)|exact HR575.out))|(with_reducible refine Kd.C_alloc ?_ _)|(with_reducible refine Kd.C_drewN ?_ _)|(with_reducible refine Kd.C_drew ?_)));(case aB=>exact bb_);(case aF=>exact (fun k_ hk=>⟨(.inr (Nat.le_trans (by first|exact HK.out.1|exact (show Kept w _ (fun k_=>P0_ k_) from by repeat (first|(with_reducible first|exact HK.out|apply Kept.alloc|apply Kept.drewN|apply Kept.drew)|exact HK.out)).1) hk)),Kd.fresh' (Kd.R_lt (rl_ HO_0)) k_ hk⟩));(case aO=>exact (rl_ HO571));(case aS=>exact (below_size bb_));(case aL=>have:=LMc30.out;omega);intro v577 w38 ho hb hg hat;rw [← Ny576.out] at ho;replace HB:=A_ (hb);replace HK:=A_ (Kept.of_grown (S:=(fun k_=>P0_ k_)) hg (by repeat (with_reducible first|exact HK.out|apply Kept.alloc|apply Kept.drewN|apply Kept.drew)) (fun k_ e_=>(HO571.out.1 k_ e_).1));replace HR565:=A_ ((show Kd.C (Kd.int .i64) w38 Ao31 y562.length y562 from by rw [Ny562.out];exact Kd.C_take (m:=(x5_1 : Int).toNat) ((Kd.R_reads' (Kd.R_after (ok:=(fun k_=>(P0_ k_ ∨ w.heap.size ≤ k_))) (rl_ HO_0) hg hat)).2.2) KL34.out));replace HR575:=A_ ((show Kd.C (Kd.int .i64) w38 A37 y572.length y572 from by rw [Ny572.out,KA37.out];exact Kd.C_drop (m:=(x5_1 : Int).toNat) (c:=co31) ((Kd.R_reads' (Kd.R_after (ok:=(fun k_=>(P0_ k_ ∨ w.heap.size ≤ k_))) (rl_ HO_0) hg hat)).2.2) KL37.out ((Kd.R_reads' (Kd.R_after (ok:=(fun k_=>(P0_ k_ ∨ w.heap.size ≤ k_))) (rl_ HO_0) hg hat)).2.1)));replace HO_0:=A_ (Kd.R_after (ok:=(fun k_=>(P0_ k_ ∨ w.heap.size ≤ k_))) (rl_ HO_0) hg hat);have HO578:=A_ (ho);clear HO571;clear ho hb hg hat))
         go_ret
         exact ⟨_,by first|rfl|(simp [errW_none,errW_some] <;> rfl)|(simp [*,errW_none,errW_some] <;> rfl),by (with_reducible repeat (first|apply Kd.R_alloc|apply Kd.R_drewN|apply Kd.R_drew));exact Kd.R_mono HO578.out (fun _ hk=>hk.1),bb_,by repeat (first|(with_reducible first|exact HK.out|apply Kept.alloc|apply Kept.drewN|apply Kept.drew)|exact HK.out)⟩
        ·rw [if_neg c30] at H;exact absurd H (by simp)
       ·rw [if_neg c27] at H;exact absurd H (by simp)
      ·rw [if_neg c26] at H;exact absurd H (by simp)
     ·rw [if_neg c25] at H;exact absurd H (by simp)
    ·rw [if_neg c24] at H;exact absurd H (by simp)
def spec_orPlace.l0 : Nat → Int → List Int → Int → Int → Option (Int)
 | 0,_,_,_,_=>none
 | k + 1,x1,x7,x8,x9=>if x9 < x8 then (if 0 ≤ x9 then (if x9 < (x7.length : Int) then (if (rd x7 x9) = x1 then (some x9) else (spec_orPlace.l0 k x1 x7 x8 (wrap64 (x9 + 1)))) else (none)) else (none)) else (some (-1))
def spec_orPlace.f (k : Nat) (l0 : List Int) (a1 : Int) : Option (Int) := spec_orPlace.l0 k a1 l0 (l0.length : Int) 0
set_option maxHeartbeats 8000000 in
set_option maxRecDepth 100000 in
theorem spec_orPlace.calls (k : Nat) (A0 : Option Addr) (c0 : Nat) (l0 : List Int) (a1 : Int) (r : Int) (w : World) (hr0 : Kd.C (Kd.int .i64) w A0 l0.length l0) (hc0 : l0.length ≤ c0) (h : spec_orPlace.f k l0 a1 = some r) :
 Calls Tryd.prog 194 #[.slice A0 l0.length c0,.int .i64 a1] w fun e w'=>e = .returned (.int .i64 r) ∧ Drawn0 w w':=by
 have HR0:=A_ hr0;have HC0:=A_ hc0;clear hr0 hc0;have H : (spec_orPlace.l0 k a1 l0 (l0.length : Int) 0) = some r:=h;clear h;have H':=A_ H;clear H;go_enter Tryd.func194,Tryd.ntmps194
 go_wp2
 go_loopg [9] k (fun kq v9 w'=>∃ (x9_1 : Int),v9 = .int .i64 x9_1 ∧ Aside0 (spec_orPlace.l0 kq a1 l0 (l0.length : Int) x9_1 = some r) ∧ Aside0 (kq ≤ k) ∧ Drawn0 w w')
 case atStart=>exact ⟨(0),(by first|rfl|(simp;done)|(simp [*];done)),H',⟨Nat.le_refl _⟩,by repeat (first|exact Drawn0.refl _|apply Drawn0.step)⟩
 case round =>
  clear H';try clear c1
  try clear p2
  obtain ⟨x9_1,rfl,HA,HK1,⟨m1,rfl⟩⟩:=hrel;cases gk with
  | zero => exact absurd HA.out (by simp [spec_orPlace.l0])
  | succ k1 =>
   have H:=HA.out;clear HA;simp only [spec_orPlace.l0] at H
   by_cases c3 : x9_1 < (l0.length : Int)
   ·rw [if_pos c3] at H;have c3b0 : decide (x9_1 < (l0.length : Int)) = true:=decide_eq_true c3;clear c3;by_cases c4 : 0 ≤ x9_1
    ·rw [if_pos c4] at H;have c4b0 : decide (0 ≤ x9_1) = true:=decide_eq_true c4;clear c4;by_cases c5 : x9_1 < (l0.length : Int)
     ·rw [if_pos c5] at H;have c5b0 : decide (x9_1 < (l0.length : Int)) = true:=decide_eq_true c5;clear c5;by_cases c6 : (rd l0 x9_1) = a1
      ·rw [if_pos c6] at H;have c6b0 : ((rd l0 x9_1) == a1) = true:=beq_iff_eq.mpr c6;have c6b1 : ((rd l0 x9_1) != a1) = false:=bne_eq_false_iff_eq.mpr c6;clear c6;obtain rfl:=Option.some.inj H;have p579 : 0 ≤ (x9_1 : Int):=of_decide_eq_true (by first|(with_reducible assumption)|assumption);have q579 : x9_1 < (l0.length : Int):=of_decide_eq_true (by first|(with_reducible assumption)|assumption);obtain ⟨ad579,e579,hx579_0⟩:=Kd.at_int HR0.out x9_1 p579 q579;cases e579
       replace p579:=eq_true p579;replace q579:=eq_true q579;go_wp2
       go_ret
       exact ⟨by first|rfl|(simp;done)|(simp [*];done),by repeat (first|exact Drawn0.refl _|apply Drawn0.step)⟩
      ·rw [if_neg c6] at H;have c6b0 : ((rd l0 x9_1) == a1) = false:=beq_eq_false_iff_ne.mpr c6;have c6b1 : ((rd l0 x9_1) != a1) = true:=bne_iff_ne.mpr c6;have H':=A_ H;clear H;have p579 : 0 ≤ (x9_1 : Int):=of_decide_eq_true (by first|(with_reducible assumption)|assumption);have q579 : x9_1 < (l0.length : Int):=of_decide_eq_true (by first|(with_reducible assumption)|assumption);obtain ⟨ad579,e579,hx579_0⟩:=Kd.at_int HR0.out x9_1 p579 q579;cases e579
       replace p579:=eq_true p579;replace q579:=eq_true q579;go_wp2
       go_roundg k1
       case measure=>have:=HK1.out;omega
       case rel=>exact ⟨(wrap64 (x9_1 + 1)),(by first|rfl|(simp;done)|(simp [*];done)),H',⟨by have:=HK1.out;omega⟩,by repeat (first|exact Drawn0.refl _|apply Drawn0.step)⟩
     ·rw [if_neg c5] at H;exact absurd H (by simp)
    ·rw [if_neg c4] at H;exact absurd H (by simp)
   ·rw [if_neg c3] at H;have c3b0 : decide (x9_1 < (l0.length : Int)) = false:=decide_eq_false c3;clear c3;obtain rfl:=Option.some.inj H;go_wp2
    go_ret
    exact ⟨by first|rfl|(simp;done)|(simp [*];done),by repeat (first|exact Drawn0.refl _|apply Drawn0.step)⟩
mutual
def spec_weOfNumbers.l0 : Nat → List Int → List Int → List Int → Int → Int → Option (List Int)
 | 0,_,_,_,_,_=>none
 | k + 1,x0,x3,x9,x10,x11=>if x11 < x10 then (if 0 ≤ x11 then (if x11 < (x9.length : Int) then ((spec_l1Put.f k x3 (rd x9 x11)).bind fun t581=>(spec_weOfNumbers.l0 k x0 t581 x9 x10 (wrap64 (x11 + 1)))) else (none)) else (none)) else (spec_weOfNumbers.l1 k x3 ([] : List Int) x0 (x0.length : Int) 0)
def spec_weOfNumbers.l1 : Nat → List Int → List Int → List Int → Int → Int → Option (List Int)
 | 0,_,_,_,_,_=>none
 | k + 1,x3,x4,x19,x20,x21=>if x21 < x20 then (if 0 ≤ x21 then (if x21 < (x19.length : Int) then ((spec_orPlace.f k x3 (rd x19 x21)).bind fun t585=>(if x4.length < 17592186044416 then (spec_weOfNumbers.l1 k x3 (x4 ++ [t585]) x19 x20 (wrap64 (x21 + 1))) else (none))) else (none)) else (none)) else (some x4)
end
def spec_weOfNumbers.f (k : Nat) (l0 : List Int) : Option (List Int) := spec_weOfNumbers.l0 k l0 ([] : List Int) l0 (l0.length : Int) 0
set_option maxHeartbeats 8000000 in
set_option maxRecDepth 100000 in
theorem spec_weOfNumbers.calls (k : Nat) (A0 : Option Addr) (c0 : Nat) (l0 : List Int) (r : List Int) (w : World) (hr0 : Kd.C (Kd.int .i64) w A0 l0.length l0) (hc0 : l0.length ≤ c0) (h : spec_weOfNumbers.f k l0 = some r) :
 Calls Tryd.prog 112 #[.slice A0 l0.length c0] w fun e w'=>∃ v0_ : Value,e = .returned (v0_) ∧ Kd.R (Kd.int .i64) 3 w' w.heap.size (fun _=>True) v0_ r ∧ Below w.heap.size w w':=by
 have HR0:=A_ hr0;have HC0:=A_ hc0;clear hr0 hc0;have HB:=A_ (Below.refl w.heap.size w);have H : (spec_weOfNumbers.l0 k l0 ([] : List Int) l0 (l0.length : Int) 0) = some r:=h;clear h;have H':=A_ H;clear H;go_enter Tryd.func112,Tryd.ntmps112
 go_wp2
 go_loopg [3,11] k (fun kq v3 v11 w'=>∃ (x3_1 : List Int) (x11_1 : Int),v11 = .int .i64 x11_1 ∧ Aside0 (spec_weOfNumbers.l0 kq l0 x3_1 l0 (l0.length : Int) x11_1 = some r) ∧ Aside0 (kq ≤ k) ∧ Aside0 (Kd.R (Kd.int .i64) 3 w' w.heap.size (fun _=>True) v3 x3_1) ∧ Aside0 (Below w.heap.size w w'))
 case atStart=>exact ⟨(([] : List Int)),(0),(by first|rfl|(simp;done)|(simp [*];done)),H',⟨Nat.le_refl _⟩,⟨by first|exact Kd.R_nil _ _ _ _ _|exact Kd.N_nil _ _ _ _ _|exact Kd.V_nil _ _ _ _ _|exact Kd.Q_nil _ _ _ _ _|exact Kd.S_nil _ _ _ _ _⟩,⟨bb_⟩⟩
 case round =>
  clear H';try clear c1
  obtain ⟨x3_1,x11_1,rfl,HA,HK1,HO_3,HB⟩:=hrel;cases gk with
  | zero => exact absurd HA.out (by simp [spec_weOfNumbers.l0])
  | succ k1 =>
   have H:=HA.out;clear HA;simp only [spec_weOfNumbers.l0] at H
   by_cases c2 : x11_1 < (l0.length : Int)
   ·rw [if_pos c2] at H;have c2b0 : decide (x11_1 < (l0.length : Int)) = true:=decide_eq_true c2;clear c2;by_cases c3 : 0 ≤ x11_1
    ·rw [if_pos c3] at H;have c3b0 : decide (0 ≤ x11_1) = true:=decide_eq_true c3;clear c3;by_cases c4 : x11_1 < (l0.length : Int)
     ·rw [if_pos c4] at H;have c4b0 : decide (x11_1 < (l0.length : Int)) = true:=decide_eq_true c4;clear c4;replace H:=Option.bind_eq_some_iff.mp H;obtain ⟨t581,A50,H⟩:=H;replace H : (spec_weOfNumbers.l0 k1 l0 t581 l0 (l0.length : Int) (wrap64 (x11_1 + 1))) = some r:=H;have A5:=A_ A50;clear A50;have H':=A_ H;clear H;have p580 : 0 ≤ (x11_1 : Int):=of_decide_eq_true (by first|(with_reducible assumption)|assumption);have q580 : x11_1 < (l0.length : Int):=of_decide_eq_true (by first|(with_reducible assumption)|assumption);obtain ⟨ad580,e580,hx580_0⟩:=Kd.at_int HR0.out x11_1 p580 q580;cases e580
      (try replace hx580_0:=(HB.out.cell (World.block_lt_of_cell? w _ hx580_0)).trans hx580_0);replace p580:=eq_true p580;replace q580:=eq_true q580;obtain ⟨Ao6,co6,eo6⟩:=Kd.R_slice HO_3.out;subst eo6;go_wp2_with (first|((with_reducible refine gate_callee (f:=193) rfl ?_);refine goesL_ (some 17) rfl rfl Tryd.func193 (by kernel_rfl) rfl #[.slice Ao6 x3_1.length co6,.int .i64 (rd l0 x11_1)] rfl au_ ?_;(with_reducible refine (spec_l1Put.calls k1 (fun k_=>some k_ = (.slice Ao6 x3_1.length co6 : Value).ownBlock) (.slice Ao6 x3_1.length co6) x3_1 (rd l0 x11_1) t581 w _ ?side1 ?side2 A5.out).mono ?_);(case side1=>repeat (first|(with_reducible first|exact HB.out|apply below_alloc|apply pw_below_drewN|apply below_drew1)|exact HB.out));(case side2=>exact Kd.R_tight rfl HO_3.out);rintro e w7 ⟨v582,rfl,ho0,hb,hkp⟩;refine ⟨_,rfl,?_⟩;have HO583:=A_ (Kd.R_mono (ok':=fun k_=>True) ho0 (fun k_ hk_=>trivial));replace HB:=A_ (hb);clear HO_3;(try clear hb);(try clear hkp);(try clear ho0)))
      go_roundg k1
      case measure=>have:=HK1.out;omega
      case rel=>exact ⟨(t581),(wrap64 (x11_1 + 1)),(by first|rfl|(simp;done)|(simp [*];done)),H',⟨by have:=HK1.out;omega⟩,⟨by (with_reducible repeat (first|apply Kd.R_alloc|apply Kd.R_drewN|apply Kd.R_drew));exact HO583.out⟩,⟨bb_⟩⟩
     ·rw [if_neg c4] at H;exact absurd H (by simp)
    ·rw [if_neg c3] at H;exact absurd H (by simp)
   ·rw [if_neg c2] at H;have c2b0 : decide (x11_1 < (l0.length : Int)) = false:=decide_eq_false c2;clear c2;have H':=A_ H;clear H;go_wp2
    go_loopg [4,21] k1 (fun kq v4 v21 w'=>∃ (x4_2 : List Int) (x21_2 : Int),v21 = .int .i64 x21_2 ∧ Aside0 (spec_weOfNumbers.l1 kq x3_1 x4_2 l0 (l0.length : Int) x21_2 = some r) ∧ Aside0 (kq ≤ k1) ∧ Aside0 (Kd.R (Kd.int .i64) 3 w' w.heap.size (fun k_=>some k_ ≠ (v4 : Value).ownBlock) u3 x3_1) ∧ Aside0 (Kd.R (Kd.int .i64) 3 w' w.heap.size (fun k_=>some k_ ≠ (u3 : Value).ownBlock) v4 x4_2) ∧ Aside0 (Below w.heap.size w w'))
    case atStart=>exact ⟨(([] : List Int)),(0),(by first|rfl|(simp;done)|(simp [*];done)),H',⟨Nat.le_refl _⟩,⟨by (with_reducible repeat (first|apply Kd.R_alloc|apply Kd.R_drewN|apply Kd.R_drew));exact Kd.R_mono HO_3.out (fun _ hk=>(by simp [Value.ownBlock]))⟩,⟨by first|exact Kd.R_nil _ _ _ _ _|exact Kd.N_nil _ _ _ _ _|exact Kd.V_nil _ _ _ _ _|exact Kd.Q_nil _ _ _ _ _|exact Kd.S_nil _ _ _ _ _⟩,⟨bb_⟩⟩
    case round =>
     clear H';try clear c1
     try clear c2
     try clear c2b0
     try clear p2
     try clear c3
     try clear c3b0
     try clear c4
     try clear c4b0
     try clear p5
     try clear q5
     try clear hx5
     try clear p6
     try clear hx580_0
     try clear p580
     try clear q580
     obtain ⟨x4_2,x21_2,rfl,HA,HK2,HO_3,HO_4,HB⟩:=hrel;cases gk with
     | zero=>exact absurd HA.out (by simp [spec_weOfNumbers.l1])
     | succ k2 =>
      have H:=HA.out;clear HA;simp only [spec_weOfNumbers.l1] at H
      by_cases c8 : x21_2 < (l0.length : Int)
      ·rw [if_pos c8] at H;have c8b0 : decide (x21_2 < (l0.length : Int)) = true:=decide_eq_true c8;clear c8;by_cases c9 : 0 ≤ x21_2
       ·rw [if_pos c9] at H;have c9b0 : decide (0 ≤ x21_2) = true:=decide_eq_true c9;clear c9;by_cases c10 : x21_2 < (l0.length : Int)
        ·rw [if_pos c10] at H;have c10b0 : decide (x21_2 < (l0.length : Int)) = true:=decide_eq_true c10;clear c10;replace H:=Option.bind_eq_some_iff.mp H;obtain ⟨t585,A110,H⟩:=H;replace H : (if x4_2.length < 17592186044416 then (spec_weOfNumbers.l1 k2 x3_1 (x4_2 ++ [t585]) l0 (l0.length : Int) (wrap64 (x21_2 + 1))) else (none)) = some r:=H;have A11:=A_ A110;clear A110;by_cases c12 : x4_2.length < 17592186044416
         ·rw [if_pos c12] at H;have LMc12:=A_ c12;clear c12;obtain ⟨y586,hy586⟩ : ∃ y_ : List Int,y_ = (x4_2 ++ [t585]):=⟨_,rfl⟩;replace H : (spec_weOfNumbers.l1 k2 x3_1 y586 l0 (l0.length : Int) (wrap64 (x21_2 + 1))) = some r:=by first|(rw [hy586];with_reducible exact H)|(have H2_:=(Option.bind_some _ _).symm.trans H;rw [hy586];with_reducible exact H2_)|(have H2_:=(Option.bind_some _ _).symm.trans H;with_reducible exact H2_)|with_reducible exact H|(rw [hy586];exact H)|exact H
          have Ny586:=A_ hy586;clear hy586;have H':=A_ H;clear H;have p584 : 0 ≤ (x21_2 : Int):=of_decide_eq_true (by first|(with_reducible assumption)|assumption);have q584 : x21_2 < (l0.length : Int):=of_decide_eq_true (by first|(with_reducible assumption)|assumption);obtain ⟨ad584,e584,hx584_0⟩:=Kd.at_int HR0.out x21_2 p584 q584;cases e584
          (try replace hx584_0:=(HB.out.cell (World.block_lt_of_cell? w _ hx584_0)).trans hx584_0);replace p584:=eq_true p584;replace q584:=eq_true q584;obtain ⟨Ao13,co13,eo13⟩:=Kd.R_slice HO_3.out;subst eo13;go_wp2_with (first|((with_reducible refine gate_callee (f:=194) rfl ?_);refine goesL_ (some 28) rfl rfl Tryd.func194 (by kernel_rfl) rfl #[.slice Ao13 x3_1.length co13,.int .i64 (rd l0 x21_2)] rfl au_ ?_;(with_reducible refine (spec_orPlace.calls k2 _ _ x3_1 (rd l0 x21_2) t585 _ ?side1 ?side2 A11.out).mono ?_);(case side1=>exact cl_ (Kd.R_reads' HO_3.out).2.2);(case side2=>exact (Kd.R_reads' HO_3.out).2.1);rintro e w' ⟨rfl,⟨nd,rfl⟩⟩;refine ⟨_,rfl,?_⟩)|((with_reducible refine gate_builtin (b:=.append) (xs:=#[.tmp 25,.tmp 29]) rfl ?_);at_builtin;refine Kd.R_append (Kd.int .i64) (w0:=w) w.heap.size rfl (.tmp 25) (.tmp 29) 22 3 (.int .i64 0) 8 rfl Tryd.underlying22 info3 rfl (by decide) (by omega) u4 x4_2 t585 [.int .i64 t585] (fun k_=>some k_ ≠ (.slice Ao13 x3_1.length co13 : Value).ownBlock) (fun _=>False) rfl rfl ?aP (fun _ hk=>hk.elim) ?aF ?aO ?aB ?aS ?aL ?_;(case aP=>exact rfl);(case aB=>exact bb_);(case aF=>exact (fun k_ hk=>Kd.fresh' (Kd.R_lt (rl_ HO_3)) k_ hk));(case aO=>exact (rl_ HO_4));(case aS=>exact (below_size bb_));(case aL=>have:=LMc12.out;omega);intro v587 w14 ho hb hg hat;rw [← Ny586.out] at ho;replace HO_3:=A_ (Kd.R_after (ok:=(fun _=>True)) (by (with_reducible repeat (first|apply Kd.R_alloc|apply Kd.R_drewN|apply Kd.R_drew));exact Kd.R_mono HO_3.out (fun _ hk=>⟨trivial,hk⟩)) hg hat);replace HB:=A_ (hb);have HO588:=A_ (ho);clear HO_4;clear ho hb hg hat))
          go_roundg k2
          case measure=>have:=HK1.out;have:=HK2.out;omega
          case rel=>exact ⟨(y586),(wrap64 (x21_2 + 1)),(by first|rfl|(simp;done)|(simp [*];done)),H',⟨by have:=HK1.out;have:=HK2.out;omega⟩,⟨by (with_reducible repeat (first|apply Kd.R_alloc|apply Kd.R_drewN|apply Kd.R_drew));exact Kd.R_mono HO_3.out (fun _ hk=>hk.2)⟩,⟨by (with_reducible repeat (first|apply Kd.R_alloc|apply Kd.R_drewN|apply Kd.R_drew));exact HO588.out⟩,⟨bb_⟩⟩
         ·rw [if_neg c12] at H;exact absurd H (by simp)
        ·rw [if_neg c10] at H;exact absurd H (by simp)
       ·rw [if_neg c9] at H;exact absurd H (by simp)
      ·rw [if_neg c8] at H;have c8b0 : decide (x21_2 < (l0.length : Int)) = false:=decide_eq_false c8;clear c8;obtain rfl:=Option.some.inj H;go_wp2
       go_ret
       exact ⟨_,by first|rfl|(simp [errW_none,errW_some] <;> rfl)|(simp [*,errW_none,errW_some] <;> rfl),by (with_reducible repeat (first|apply Kd.R_alloc|apply Kd.R_drewN|apply Kd.R_drew));exact Kd.R_mono HO_4.out (fun _ hk=>trivial),bb_⟩
def spec_TraceOf.l0 : Nat → List Int → Int → Int → List Int → Option (List Int × Bool)
 | 0,_,_,_,_=>none
 | k + 1,x4,x5,x590000,x590001=>if x5 < x590000 then ((spec_orBelow.f k x590000 x590001 x5).bind fun t591=>((spec_seMany.f k t591).bind fun t592=>(if 0 ≤ x5 then (if x5 < (x590001.length : Int) then ((spec_seMany.f k (rd x590001 x5)).bind fun t594=>(if x4.length < 17592186044416 then (spec_TraceOf.l0 k (x4 ++ [wrap64 (t592 - t594)]) (wrap64 (x5 + 1)) x590000 x590001) else (none))) else (none)) else (none)))) else ((spec_weOfNumbers.f k x4).bind fun t598=>(some (t598,true)))
def spec_TraceOf.f (k : Nat) (a0_0 : Int) (l0_1 : List Int) : Option (List Int × Bool) := (spec_seGood.f k a0_0 l0_1).bind fun t590 => (if t590 = true then (spec_TraceOf.l0 k ([] : List Int) 0 a0_0 l0_1) else (some (([] : List Int), false)))
def spec_TraceOf.T7 : Bool × List (List Nat × List Nat) := (true, [([], []), ([], []), ([], []), ([1, 2], [1, 2]), ([3, 3], [3]), ([], []), ([5], [5]), ([], []), ([6, 7], [6, 7]), ([8], [8]), ([9, 4], [9]), ([4, 10], [4, 10]), ([11], [11]), ([0, 12, 10], [0, 12]), ([13, 13, 0, 1, 2, 3, 4, 5, 6, 7, 8, 9, 10, 11, 12, 13], [0, 13])])
def spec_TraceOf.B7 : List Nat := [0, 0, 0, 6, 14, 0, 32, 0, 224, 480, 1022, 2046, 4094, 8191, 16383]
theorem spec_TraceOf.tab7 : rtab .any (opsOf Tryd.f23 7) = spec_TraceOf.T7:=by kernel_rfl
theorem spec_TraceOf.bits7 : waitsOk spec_TraceOf.T7.2 spec_TraceOf.B7 = true:=by kernel_rfl
set_option maxHeartbeats 8000000 in
set_option maxRecDepth 100000 in
theorem spec_TraceOf.calls (k : Nat) (a0_0 : Int) (A0_1 : Option Addr) (c0_1 : Nat) (l0_1 : List Int) (r1 : List Int) (r2 : Bool) (w : World) (hr0_1 : Kd.C (Kd.int .i64) w A0_1 l0_1.length l0_1) (hc0_1 : l0_1.length ≤ c0_1) (h : spec_TraceOf.f k a0_0 l0_1 = some (r1,r2)) :
 Calls Tryd.prog 23 #[.agg #[.int .i64 a0_0,.slice A0_1 l0_1.length c0_1]] w fun e w'=>∃ v0_ : Value,e = .returned (.tuple #[v0_,.bool r2]) ∧ Kd.R (Kd.int .i64) 3 w' w.heap.size (fun _=>True) v0_ r1 ∧ Below w.heap.size w w':=by
 have hu28:=Tryd.underlying28;have HR0_1:=A_ hr0_1;have HC0_1:=A_ hc0_1;clear hr0_1 hc0_1;have HB:=A_ (Below.refl w.heap.size w);have H : ((spec_seGood.f k a0_0 l0_1).bind fun t590=>(if t590 = true then (spec_TraceOf.l0 k ([] : List Int) 0 a0_0 l0_1) else (some (([] : List Int),false)))) = some (r1,r2):=h;clear h;replace H:=Option.bind_eq_some_iff.mp H;obtain ⟨t590,A20,H⟩:=H;replace H : (if t590 = true then (spec_TraceOf.l0 k ([] : List Int) 0 a0_0 l0_1) else (some (([] : List Int),false))) = some (r1,r2):=H;have A2:=A_ A20;clear A20;by_cases c3 : t590 = true
 ·subst c3;have H1 : (spec_TraceOf.l0 k ([] : List Int) 0 a0_0 l0_1) = some (r1,r2):=by rw [if_pos rfl] at H;exact H
  clear H;have H:=H1;clear H1;have H':=A_ H;clear H;go_enter Tryd.func23,Tryd.ntmps23
  go_wp2_with (first|((with_reducible refine gate_dst (N:=1) rfl ?_);refine box_event ?hg (N:=1) ?hd (cs:=#[.int .i64 a0_0,.slice A0_1 l0_1.length c0_1]) (t:=28) ?hr ?_;(case hd=>rfl);(case hg=>rfl);(case hr=>first|(go_simp;done)|(go_simp;rfl));intro gb589 hg w4 hbox hb;have BK589:=A_ (hbox);have GW589:=A_ ((by rw [hg];exact (below_size bb_) : w.heap.size ≤ gb589));have GE589:=A_ ((by rw [hg];exact (below_size bb_) : w.heap.size ≤ gb589));replace HB:=A_ (below_step bb_ hb);clear hb hbox hg;have hcz5_0 : w4.cell? ⟨gb589,0,none⟩ = some (.int .i64 a0_0):=blk_cell BK589.out 0;have hcz5_1 : w4.cell? ⟨gb589,1,none⟩ = some (.slice A0_1 l0_1.length c0_1):=blk_cell BK589.out 1;have hfz5_0:=blk_frozen BK589.out 0;have hfz5_1:=blk_frozen BK589.out 1)|((with_reducible refine gate_callee (f:=105) rfl ?_);refine goesL_ (some 7) rfl rfl Tryd.func105 (by kernel_rfl) rfl #[.agg #[.int .i64 a0_0,.slice A0_1 l0_1.length c0_1]] rfl au_ ?_;(with_reducible refine (spec_seGood.calls k a0_0 _ _ l0_1 true _ ?side1 ?side2 A2.out).mono ?_);(case side1=>exact cl_ (Kd.C_below HR0_1.out HB.out));(case side2=>exact HC0_1.out);rintro e w6 ⟨rfl,hb⟩;refine ⟨_,rfl,?_⟩;replace BK589:=bz BK589 hb;replace HB:=A_ (below_step bb_ hb);(try clear hb);(try clear hb2);(try clear hk);(try clear hi)))
  go_loopg [4,5] k (fun kq v4 v5 w'=>∃ (x4_1 : List Int) (x5_1 : Int),v5 = .int .i64 x5_1 ∧ Aside0 (spec_TraceOf.l0 kq x4_1 x5_1 a0_0 l0_1 = some (r1,r2)) ∧ Aside0 (kq ≤ k) ∧ Aside0 (Kd.R (Kd.int .i64) 3 w' w.heap.size (fun _=>True) v4 x4_1) ∧ Aside0 (w'.heap[gb589]? = some (.cells #[.int .i64 a0_0,(.slice A0_1 l0_1.length c0_1)] 28 (0,0))) ∧ Aside0 (Below w.heap.size w w'))
  case atStart=>exact ⟨(([] : List Int)),(0),(by first|rfl|(simp;done)|(simp [*];done)),H',⟨Nat.le_refl _⟩,⟨by first|exact Kd.R_nil _ _ _ _ _|exact Kd.N_nil _ _ _ _ _|exact Kd.V_nil _ _ _ _ _|exact Kd.Q_nil _ _ _ _ _|exact Kd.S_nil _ _ _ _ _⟩,⟨bl_ BK589⟩,⟨bb_⟩⟩
  case round =>
   clear H';try clear c1
   try clear c2
   try clear p2
   try clear c3
   try clear hcz5_0
   try clear hcz5_1
   try clear hfz5_0
   try clear hfz5_1
   obtain ⟨x4_1,x5_1,rfl,HA,HK1,HO_4,BK589,HB⟩:=hrel;cases gk with
   | zero=>exact absurd HA.out (by simp [spec_TraceOf.l0])
   | succ k1 =>
    have H:=HA.out;clear HA;simp only [spec_TraceOf.l0] at H
    by_cases c7 : x5_1 < a0_0
    ·rw [if_pos c7] at H;have c7b0 : decide (x5_1 < a0_0) = true:=decide_eq_true c7;clear c7;replace H:=Option.bind_eq_some_iff.mp H;obtain ⟨t591,A80,H⟩:=H;replace H : ((spec_seMany.f k1 t591).bind fun t592=>(if 0 ≤ x5_1 then (if x5_1 < (l0_1.length : Int) then ((spec_seMany.f k1 (rd l0_1 x5_1)).bind fun t594=>(if x4_1.length < 17592186044416 then (spec_TraceOf.l0 k1 (x4_1 ++ [wrap64 (t592 - t594)]) (wrap64 (x5_1 + 1)) a0_0 l0_1) else (none))) else (none)) else (none))) = some (r1,r2):=H;have A8:=A_ A80;clear A80;replace H:=Option.bind_eq_some_iff.mp H;obtain ⟨t592,A90,H⟩:=H;replace H : (if 0 ≤ x5_1 then (if x5_1 < (l0_1.length : Int) then ((spec_seMany.f k1 (rd l0_1 x5_1)).bind fun t594=>(if x4_1.length < 17592186044416 then (spec_TraceOf.l0 k1 (x4_1 ++ [wrap64 (t592 - t594)]) (wrap64 (x5_1 + 1)) a0_0 l0_1) else (none))) else (none)) else (none)) = some (r1,r2):=H;have A9:=A_ A90;clear A90;by_cases c10 : 0 ≤ x5_1
     ·rw [if_pos c10] at H;have c10b0 : decide (0 ≤ x5_1) = true:=decide_eq_true c10;clear c10;by_cases c11 : x5_1 < (l0_1.length : Int)
      ·rw [if_pos c11] at H;have c11b0 : decide (x5_1 < (l0_1.length : Int)) = true:=decide_eq_true c11;clear c11;replace H:=Option.bind_eq_some_iff.mp H;obtain ⟨t594,A120,H⟩:=H;replace H : (if x4_1.length < 17592186044416 then (spec_TraceOf.l0 k1 (x4_1 ++ [wrap64 (t592 - t594)]) (wrap64 (x5_1 + 1)) a0_0 l0_1) else (none)) = some (r1,r2):=H;have A12:=A_ A120;clear A120;by_cases c13 : x4_1.length < 17592186044416
       ·rw [if_pos c13] at H;have LMc13:=A_ c13;clear c13;obtain ⟨y595,hy595⟩ : ∃ y_ : List Int,y_ = (x4_1 ++ [wrap64 (t592 - t594)]):=⟨_,rfl⟩;replace H : (spec_TraceOf.l0 k1 y595 (wrap64 (x5_1 + 1)) a0_0 l0_1) = some (r1,r2):=by first|(rw [hy595];with_reducible exact H)|(have H2_:=(Option.bind_some _ _).symm.trans H;rw [hy595];with_reducible exact H2_)|(have H2_:=(Option.bind_some _ _).symm.trans H;with_reducible exact H2_)|with_reducible exact H|(rw [hy595];exact H)|exact H
        have Ny595:=A_ hy595;clear hy595;have H':=A_ H;clear H;have hcz14_0 : wr.cell? ⟨gb589,0,none⟩ = some (.int .i64 a0_0):=blk_cell BK589.out 0;have hcz14_1 : wr.cell? ⟨gb589,1,none⟩ = some (.slice A0_1 l0_1.length c0_1):=blk_cell BK589.out 1;have hfz14_0:=blk_frozen BK589.out 0;have hfz14_1:=blk_frozen BK589.out 1;try go_wp2
        replace HO_4:=A_ (Kd.R_drew HO_4.out);replace BK589:=A_ (blk_drew BK589.out);replace HB:=A_ (below_drew1 HB.out);have p593 : 0 ≤ (x5_1 : Int):=of_decide_eq_true (by first|(with_reducible assumption)|assumption);have q593 : x5_1 < (l0_1.length : Int):=of_decide_eq_true (by first|(with_reducible assumption)|assumption);obtain ⟨ad593,e593,hx593_0⟩:=Kd.at_int HR0_1.out x5_1 p593 q593;have hw593_0:=hx593_0;cases e593
        (try replace hx593_0:=(HB.out.cell (World.block_lt_of_cell? w _ hx593_0)).trans hx593_0);replace p593:=eq_true p593;replace q593:=eq_true q593;refine start_ (n:=15) (S:=fun w'=>w'.cell? ⟨gb589,0,none⟩ = some (.int .i64 a0_0) ∧ w'.cell? ⟨gb589,1,none⟩ = some (.slice (some ad593) l0_1.length c0_1) ∧ w'.cell? (ad593.add (x5_1).toNat) = some (.int .i64 (rd l0_1 x5_1))) (ds:=[]) #[F,F,F,F,F,F,F,F,F,F,F,F,F,F,F] (by kernel_rfl) rfl rfl ⟨blk_cell BK589.out 0,blk_cell BK589.out 1,((HB.out.cell (World.block_lt_of_cell? w _ hw593_0)).trans hw593_0)⟩ (fun hHeld=>?_);refine with_tabW spec_TraceOf.tab7 spec_TraceOf.bits7 (fun HT_ HW_=>?_)
        generalize wr.drew = w15 at HO_4 BK589 HB hx593_0 hHeld ⊢
        refine pure_ (i:=0) (N:=some 15) (v:=?_) (a':=?_) #[T,F,F,F,F,F,F,F,F,F,F,F,F,F,F] rfl rfl (any_of HT_.out (by kernel_rfl)) (fun _ _ _ h=>h) (Or.inl ⟨by rfl,?_⟩) ?_ ?_
        rotate_left;·intro w';go_simp;with_reducible rfl
        rotate_left;·simp only [Act.put,L_,M_,N_,i64_w,i32_w];rfl
        refine pure_ (i:=2) (N:=some 17) (v:=?_) (a':=?_) #[T,F,T,F,F,F,F,F,F,F,F,F,F,F,F] rfl rfl (any_of HT_.out (by kernel_rfl)) (fun _ _ _ h=>h) (Or.inl ⟨by rfl,?_⟩) ?_ ?_
        rotate_left;·intro w';go_simp;with_reducible rfl
        rotate_left;·simp only [Act.put,L_,M_,N_,i64_w,i32_w];rfl
        refine pure_ (i:=5) (N:=some 20) (v:=?_) (a':=?_) #[T,F,T,F,F,T,F,F,F,F,F,F,F,F,F] rfl rfl (any_of HT_.out (by kernel_rfl)) (fun _ _ _ h=>h) (Or.inl ⟨by rfl,?_⟩) ?_ ?_
        rotate_left;·intro w';go_simp;with_reducible rfl
        rotate_left;·simp only [Act.put,L_,M_,N_,i64_w,i32_w];rfl
        refine pure_ (i:=7) (N:=some 22) (v:=?_) (a':=?_) #[T,F,T,F,F,T,F,T,F,F,F,F,F,F,F] rfl rfl (any_of HT_.out (by kernel_rfl)) (fun _ _ _ h=>h) (Or.inl ⟨by rfl,?_⟩) ?_ ?_
        rotate_left;·intro w';go_simp;with_reducible rfl
        rotate_left;·simp only [Act.put,L_,M_,N_,i64_w,i32_w];rfl
        refine take_ (i:=1) (N:=some 16) (v:=?_) (a':=?_) #[T,T,T,F,F,T,F,T,F,F,F,F,F,F,F] rfl rfl (take_ofW HT_.out HW_.out (by kernel_rfl)) (fun _ _ _ h=>h) (Or.inl ⟨by rfl,?_⟩) hHeld ?_ ?_
        rotate_left
        ·rintro w' ⟨s0,s1,s2⟩
         go_simp
         with_reducible rfl
        rotate_left;·simp only [Act.put,L_,M_,N_,i64_w,i32_w];rfl
        refine take_ (i:=6) (N:=some 21) (v:=?_) (a':=?_) #[T,T,T,F,F,T,T,T,F,F,F,F,F,F,F] rfl rfl (take_ofW HT_.out HW_.out (by kernel_rfl)) (fun _ _ _ h=>h) (Or.inl ⟨by rfl,?_⟩) hHeld ?_ ?_
        rotate_left
        ·rintro w' ⟨s0,s1,s2⟩
         go_simp
         with_reducible rfl
        rotate_left;·simp only [Act.put,L_,M_,N_,i64_w,i32_w];rfl
        refine pure_ (i:=8) (N:=some 23) (v:=?_) (a':=?_) #[T,T,T,F,F,T,T,T,T,F,F,F,F,F,F] rfl rfl (any_of HT_.out (by kernel_rfl)) (fun _ _ _ h=>h) (Or.inl ⟨by rfl,?_⟩) ?_ ?_
        rotate_left;·intro w';go_simp;with_reducible rfl
        rotate_left;·simp only [Act.put,L_,M_,N_,i64_w,i32_w];rfl
        refine take_ (i:=9) (N:=some 24) (v:=?_) (a':=?_) #[T,T,T,F,F,T,T,T,T,T,F,F,F,F,F] rfl rfl (take_ofW HT_.out HW_.out (by kernel_rfl)) (fun _ _ _ h=>h) (Or.inl ⟨by rfl,?_⟩) hHeld ?_ ?_
        rotate_left
        ·rintro w' ⟨s0,s1,s2⟩
         go_simp
         with_reducible rfl
        rotate_left;·simp only [Act.put,L_,M_,N_,i64_w,i32_w];rfl
        refine one_ (i:=3) (N:=some 18) #[T,T,T,T,F,T,T,T,T,T,F,F,F,F,F] rfl rfl (one_of HT_.out (by kernel_rfl)) (by decide) (fun K hK=>?_)
        refine goes_ Tryd.func111 (by kernel_rfl) rfl #[.agg #[.int .i64 a0_0,.slice (some ad593) l0_1.length c0_1],.int .i64 x5_1] (by rfl) rfl rfl au_ ?_
        with_reducible refine (spec_orBelow.calls k1 a0_0 _ _ l0_1 x5_1 t591 _ ?side1 ?side2 A8.out).mono ?_
        (case side1=>exact cl_ (Kd.C_below HR0_1.out HB.out))
        (case side2=>exact HC0_1.out)
        rintro e w16 ⟨rfl,hb⟩
        refine ⟨_,rfl,?_⟩
        replace HO_4:=rb_ HO_4 hb;replace BK589:=bz BK589 hb;replace HB:=A_ (below_step bb_ hb);(try clear hb);(try clear hb2);(try clear hk);(try clear hi);refine hK.out _ _ ⟨blk_cell BK589.out 0,blk_cell BK589.out 1,((HB.out.cell (World.block_lt_of_cell? w _ hw593_0)).trans hw593_0)⟩ (fun hHeld=>?_)
        clear hK K;refine norm_ (a':=?_) ?_ ?_
        rotate_left
        ·show Act.put _ (some 18) _ = _
         simp only [Act.put,L_,M_,N_,i64_w,i32_w]
         rfl
        refine one_ (i:=4) (N:=some 19) #[T,T,T,T,T,T,T,T,T,T,F,F,F,F,F] rfl rfl (one_of HT_.out (by kernel_rfl)) (by decide) (fun K hK=>?_)
        refine goes_ Tryd.func110 (by kernel_rfl) rfl #[.int .i64 t591] (by rfl) rfl rfl au_ ?_
        with_reducible refine (spec_seMany.calls k1 t591 t592 _ A9.out).mono ?_
        rintro e w17 ⟨rfl,hb⟩
        refine ⟨_,rfl,?_⟩
        replace HO_4:=rb_ HO_4 hb;replace BK589:=bz BK589 hb;replace HB:=A_ (below_step bb_ hb);(try clear hb);(try clear hb2);(try clear hk);(try clear hi);refine hK.out _ _ ⟨blk_cell BK589.out 0,blk_cell BK589.out 1,((HB.out.cell (World.block_lt_of_cell? w _ hw593_0)).trans hw593_0)⟩ (fun hHeld=>?_)
        clear hK K;refine norm_ (a':=?_) ?_ ?_
        rotate_left
        ·show Act.put _ (some 19) _ = _
         simp only [Act.put,L_,M_,N_,i64_w,i32_w]
         rfl
        refine one_ (i:=10) (N:=some 25) #[T,T,T,T,T,T,T,T,T,T,T,F,F,F,F] rfl rfl (one_of HT_.out (by kernel_rfl)) (by decide) (fun K hK=>?_)
        refine goes_ Tryd.func110 (by kernel_rfl) rfl #[.int .i64 (rd l0_1 x5_1)] (by rfl) rfl rfl au_ ?_
        with_reducible refine (spec_seMany.calls k1 (rd l0_1 x5_1) t594 _ A12.out).mono ?_
        rintro e w18 ⟨rfl,hb⟩
        refine ⟨_,rfl,?_⟩
        replace HO_4:=rb_ HO_4 hb;replace BK589:=bz BK589 hb;replace HB:=A_ (below_step bb_ hb);(try clear hb);(try clear hb2);(try clear hk);(try clear hi);refine hK.out _ _ ⟨blk_cell BK589.out 0,blk_cell BK589.out 1,((HB.out.cell (World.block_lt_of_cell? w _ hw593_0)).trans hw593_0)⟩ (fun hHeld=>?_)
        clear hK K;refine norm_ (a':=?_) ?_ ?_
        rotate_left
        ·show Act.put _ (some 25) _ = _
         simp only [Act.put,L_,M_,N_,i64_w,i32_w]
         rfl
        refine pure_ (i:=11) (N:=some 26) (v:=?_) (a':=?_) #[T,T,T,T,T,T,T,T,T,T,T,T,F,F,F] rfl rfl (any_of HT_.out (by kernel_rfl)) (fun _ _ _ h=>h) (Or.inl ⟨by rfl,?_⟩) ?_ ?_
        rotate_left;·intro w';go_simp;with_reducible rfl
        rotate_left;·simp only [Act.put,L_,M_,N_,i64_w,i32_w];rfl
        refine one_ (i:=12) (N:=some 27) #[T,T,T,T,T,T,T,T,T,T,T,T,T,F,F] rfl rfl (one_of HT_.out (by kernel_rfl)) (by decide) (fun K hK=>?_)
        refine value_ (w1:=?_) (v:=?_) (by rfl) rfl ?_ ?_
        rotate_left 2
        ·go_simp
         constructor
         ·rfl
         ·rfl
        refine hK.out _ _ ⟨(blk_cell (blk_alloc BK589.out _) 0).trans rfl,(blk_cell (blk_alloc BK589.out _) 1).trans rfl,(World.cell?_alloc_lt _ _ _ (World.block_lt_of_cell? _ _ (((HB.out.cell (World.block_lt_of_cell? w _ hw593_0)).trans hw593_0)))).trans (((HB.out.cell (World.block_lt_of_cell? w _ hw593_0)).trans hw593_0))⟩ (fun hHeld=>?_)
        clear hK K;refine norm_ (a':=?_) ?_ ?_
        rotate_left
        ·show Act.put _ (some 27) _ = _
         simp only [Act.put,L_,M_,N_,i64_w,i32_w]
         rfl
        refine one_ (i:=13) (N:=some 28) #[T,T,T,T,T,T,T,T,T,T,T,T,T,T,F] rfl rfl (one_of HT_.out (by kernel_rfl)) (by decide) (fun K hK=>?_)
        refine Kd.R_append_step (Kd.int .i64) (w0:=w) w.heap.size (by rfl) (.tmp 15) (.tmp 27) 22 3 (.int .i64 0) 8 rfl Tryd.underlying22 info3 rfl (by decide) (by omega) u4 x4_1 (wrap64 (t592 - t594)) [.int .i64 (wrap64 (t592 - t594))] (fun _=>True) (fun _=>False) rfl rfl ?aP (fun _ hk=>hk.elim) ?aF ?aO ?aB ?aS ?aL ?_
        (case aP=>exact rfl)
        (case aB=>exact bb_)
        (case aF=>exact (fun _ _=>trivial))
        (case aO=>exact (rl_ HO_4))
        (case aS=>exact (below_size bb_))
        (case aL=>have:=LMc13.out;omega)
        intro v596 w19 ho hb hg hat
        rw [← Ny595.out] at ho;replace BK589:=A_ (blk_grown (g:=gb589) (o:=.cells #[.int .i64 a0_0,.slice (some ad593) l0_1.length c0_1] 28 (0,0)) (bl_ BK589) hg (Kd.R_ne HO_4.out BK589.out (by decide)));replace HB:=A_ (hb);have HO597:=A_ (ho);clear HO_4;clear ho hb hg hat;refine hK.out _ _ ⟨blk_cell BK589.out 0,blk_cell BK589.out 1,((HB.out.cell (World.block_lt_of_cell? w _ hw593_0)).trans hw593_0)⟩ (fun hHeld=>?_)
        clear hK K;refine norm_ (a':=?_) ?_ ?_
        rotate_left
        ·show Act.put _ (some 28) _ = _
         simp only [Act.put,L_,M_,N_,i64_w,i32_w]
         rfl
        refine pure_ (i:=14) (N:=some 4) (v:=?_) (a':=?_) #[T,T,T,T,T,T,T,T,T,T,T,T,T,T,T] rfl rfl (any_of HT_.out (by kernel_rfl)) (fun _ _ _ h=>h) (Or.inl ⟨by rfl,?_⟩) ?_ ?_
        rotate_left;·intro w';go_simp;with_reducible rfl
        rotate_left;·simp only [Act.put,L_,M_,N_,i64_w,i32_w];rfl
        refine done_ (done_of HT_.out (by kernel_rfl)) ?_
        try go_wp2
        go_roundg k1
        case measure=>have:=HK1.out;omega
        case rel=>exact ⟨(y595),(wrap64 (x5_1 + 1)),(by first|rfl|(simp;done)|(simp [*];done)),H',⟨by have:=HK1.out;omega⟩,⟨by (with_reducible repeat (first|apply Kd.R_alloc|apply Kd.R_drewN|apply Kd.R_drew));exact HO597.out⟩,⟨bl_ BK589⟩,⟨bb_⟩⟩
       ·rw [if_neg c13] at H;exact absurd H (by simp)
      ·rw [if_neg c11] at H;exact absurd H (by simp)
     ·rw [if_neg c10] at H;exact absurd H (by simp)
    ·rw [if_neg c7] at H;have c7b0 : decide (x5_1 < a0_0) = false:=decide_eq_false c7;clear c7;replace H:=Option.bind_eq_some_iff.mp H;obtain ⟨t598,A200,H⟩:=H;replace H : (some (t598,true)) = some (r1,r2):=H;have A20:=A_ A200;clear A200;simp only [Option.some.injEq,Prod.mk.injEq] at H
     obtain ⟨rfl,rfl⟩:=H;have hcz21_0 : wr.cell? ⟨gb589,0,none⟩ = some (.int .i64 a0_0):=blk_cell BK589.out 0;have hcz21_1 : wr.cell? ⟨gb589,1,none⟩ = some (.slice A0_1 l0_1.length c0_1):=blk_cell BK589.out 1;have hfz21_0:=blk_frozen BK589.out 0;have hfz21_1:=blk_frozen BK589.out 1;obtain ⟨Ao22,co22,eo22⟩:=Kd.R_slice HO_4.out;subst eo22;go_wp2_with (first|((with_reducible refine gate_callee (f:=112) rfl ?_);refine goesL_ (some 30) rfl rfl Tryd.func112 (by kernel_rfl) rfl #[.slice Ao22 x4_1.length co22] rfl au_ ?_;(with_reducible refine (spec_weOfNumbers.calls k1 _ _ x4_1 t598 _ ?side1 ?side2 A20.out).mono ?_);(case side1=>exact cl_ (Kd.R_reads' HO_4.out).2.2);(case side2=>exact (Kd.R_reads' HO_4.out).2.1);rintro e w23 ⟨v599,rfl,ho0,hb⟩;refine ⟨_,rfl,?_⟩;have HO600:=A_ (Kd.R_lower (Kd.R_new' ho0 (Kd.R_lt (rl_ HO_4))) (below_size bb_));replace HO_4:=A_ (Kd.R_elder' (rl_ HO_4) (Kd.R_base ho0) hb);replace BK589:=bz BK589 hb;replace HB:=A_ (below_step bb_ hb);(try clear hb);(try clear hb2);(try clear hk);(try clear hi);(try clear ho0)))
     go_ret2
     exact ⟨_,by first|rfl|(simp [errW_none,errW_some] <;> rfl)|(simp [*,errW_none,errW_some] <;> rfl),by (with_reducible repeat (first|apply Kd.R_alloc|apply Kd.R_drewN|apply Kd.R_drew));exact Kd.R_mono HO600.out (fun _ hk=>trivial),bb_⟩
 ·replace c3:=Bool.eq_false_iff.mpr c3;subst c3;have H1 : (some (([] : List Int),false)) = some (r1,r2):=by rw [if_neg (show ¬ (false = true) by decide)] at H;exact H
  clear H;have H:=H1;clear H1;simp only [Option.some.injEq,Prod.mk.injEq] at H
  obtain ⟨rfl,rfl⟩:=H;go_enter Tryd.func23,Tryd.ntmps23
  go_wp2_with (first|((with_reducible refine gate_dst (N:=1) rfl ?_);refine box_event ?hg (N:=1) ?hd (cs:=#[.int .i64 a0_0,.slice A0_1 l0_1.length c0_1]) (t:=28) ?hr ?_;(case hd=>rfl);(case hg=>rfl);(case hr=>first|(go_simp;done)|(go_simp;rfl));intro gb589 hg w24 hbox hb;have BK589:=A_ (hbox);have GW589:=A_ ((by rw [hg];exact (below_size bb_) : w.heap.size ≤ gb589));have GE589:=A_ ((by rw [hg];exact (below_size bb_) : w.heap.size ≤ gb589));replace HB:=A_ (below_step bb_ hb);clear hb hbox hg;have hcz25_0 : w24.cell? ⟨gb589,0,none⟩ = some (.int .i64 a0_0):=blk_cell BK589.out 0;have hcz25_1 : w24.cell? ⟨gb589,1,none⟩ = some (.slice A0_1 l0_1.length c0_1):=blk_cell BK589.out 1;have hfz25_0:=blk_frozen BK589.out 0;have hfz25_1:=blk_frozen BK589.out 1)|((with_reducible refine gate_callee (f:=105) rfl ?_);refine goesL_ (some 7) rfl rfl Tryd.func105 (by kernel_rfl) rfl #[.agg #[.int .i64 a0_0,.slice A0_1 l0_1.length c0_1]] rfl au_ ?_;(with_reducible refine (spec_seGood.calls k a0_0 _ _ l0_1 false _ ?side1 ?side2 A2.out).mono ?_);(case side1=>exact cl_ (Kd.C_below HR0_1.out HB.out));(case side2=>exact HC0_1.out);rintro e w26 ⟨rfl,hb⟩;refine ⟨_,rfl,?_⟩;replace BK589:=bz BK589 hb;replace HB:=A_ (below_step bb_ hb);(try clear hb);(try clear hb2);(try clear hk);(try clear hi)))
  go_ret2
  exact ⟨_,by first|rfl|(simp [errW_none,errW_some] <;> rfl)|(simp [*,errW_none,errW_some] <;> rfl),by first|exact Kd.R_nil _ _ _ _ _|exact Kd.N_nil _ _ _ _ _|exact Kd.V_nil _ _ _ _ _|exact Kd.Q_nil _ _ _ _ _|exact Kd.S_nil _ _ _ _ _,bb_⟩
mutual
def impl_relation.l0 (is : Int → Int → Option Bool) : Nat → Int → Int → Int → Int → List Int → Option (Int × List Int)
 | 0,_,_,_,_,_=>none
 | k + 1,x0,x12,x13,x252000,x252001=>if x13 < x12 then (impl_relation.l1 is k x0 x13 x12 x13 x0 0 x252000 x252001) else (some (x252000,x252001))
def impl_relation.l1 (is : Int → Int → Option Bool) : Nat → Int → Int → Int → Int → Int → Int → Int → List Int → Option (Int × List Int)
 | 0,_,_,_,_,_,_,_,_=>none
 | k + 1,x0,x6,x12,x13,x16,x17,x252000,x252001=>if x17 < x16 then ((is x6 x17).bind fun t252=>(if t252 = true then (if 0 ≤ x6 then (if x6 < (x252001.length : Int) then (if 0 ≤ x17 then (impl_relation.l1 is k x0 x6 x12 x13 x16 (wrap64 (x17 + 1)) x252000 (x252001.set (x6 : Int).toNat (Go.bits .or .i64 (rd x252001 x6) (shl .i64 1 x17)))) else (none)) else (none)) else (none)) else (impl_relation.l1 is k x0 x6 x12 x13 x16 (wrap64 (x17 + 1)) x252000 x252001))) else (impl_relation.l0 is k x0 x12 (wrap64 (x13 + 1)) x252000 x252001)
end
def impl_relation.f (k : Nat) (a0 : Int) (is : Int → Int → Option Bool) : Option (Int × List Int) := if 0 ≤ a0 then (if (a0 : Int).toNat ≤ 35184372088832 then (impl_relation.l0 is k a0 a0 0 a0 (List.replicate (a0 : Int).toNat 0)) else (none)) else (none)
theorem impl_relation.mono_l {is is' : Int → Int → Option Bool} (hi : ∀ x y,LeO (is x y) (is' x y)) : ∀ k,(∀ y0 y1 y2 y3 y4,LeO (impl_relation.l0 is k y0 y1 y2 y3 y4) (impl_relation.l0 is' (k + 1) y0 y1 y2 y3 y4)) ∧ (∀ y0 y1 y2 y3 y4 y5 y6 y7,LeO (impl_relation.l1 is k y0 y1 y2 y3 y4 y5 y6 y7) (impl_relation.l1 is' (k + 1) y0 y1 y2 y3 y4 y5 y6 y7))
 | 0=>⟨fun _ _ _ _ _ r h=>by simp [impl_relation.l0] at h,fun _ _ _ _ _ _ _ _ r h=>by simp [impl_relation.l1] at h⟩
 | k + 1=>by
  obtain ⟨ih0,ih1⟩:=impl_relation.mono_l hi k;refine ⟨?_,?_⟩
  ·intro y0 y1 y2 y3 y4
   unfold impl_relation.l0
   repeat' first
   | (with_reducible exact hi _ _)
   | (with_reducible exact ih0 _ _ _ _ _)
   | (with_reducible exact ih1 _ _ _ _ _ _ _ _)
   | (with_reducible exact LeO.refl _)
   | (with_reducible exact LeO.none _)
   | (with_reducible refine LeO.ite ?_ ?_)
   | (with_reducible refine LeO.bind ?_ (fun _=>?_))
   | exact ih0 _ _ _ _ _
   | exact ih1 _ _ _ _ _ _ _ _
   | exact LeO.none _
   | refine LeO.ite ?_ ?_
   | refine LeO.bind ?_ (fun _=>?_)
  ·intro y0 y1 y2 y3 y4 y5 y6 y7
   unfold impl_relation.l1
   repeat' first
   | (with_reducible exact hi _ _)
   | (with_reducible exact ih0 _ _ _ _ _)
   | (with_reducible exact ih1 _ _ _ _ _ _ _ _)
   | (with_reducible exact LeO.refl _)
   | (with_reducible exact LeO.none _)
   | (with_reducible refine LeO.ite ?_ ?_)
   | (with_reducible refine LeO.bind ?_ (fun _=>?_))
   | exact ih0 _ _ _ _ _
   | exact ih1 _ _ _ _ _ _ _ _
   | exact LeO.none _
   | refine LeO.ite ?_ ?_
   | refine LeO.bind ?_ (fun _=>?_)
theorem impl_relation.mono2 {is is' : Int → Int → Option Bool} (hi : ∀ x y,LeO (is x y) (is' x y)) : ∀ a0 k,LeO (impl_relation.f k a0 is) (impl_relation.f (k + 1) a0 is'):=by
 intro a0 k
 obtain ⟨ih0,ih1⟩:=impl_relation.mono_l hi k;unfold impl_relation.f
 repeat' first
  | (with_reducible exact hi _ _)
  | (with_reducible exact ih0 _ _ _ _ _)
  | (with_reducible exact ih1 _ _ _ _ _ _ _ _)
  | (with_reducible exact LeO.refl _)
  | (with_reducible exact LeO.none _)
  | (with_reducible refine LeO.ite ?_ ?_)
  | (with_reducible refine LeO.bind ?_ (fun _ => ?_))
  | exact ih0 _ _ _ _ _
  | exact ih1 _ _ _ _ _ _ _ _
  | exact LeO.none _
  | refine LeO.ite ?_ ?_
  | refine LeO.bind ?_ (fun _ => ?_)
def impl_relation.T9 : Bool × List (List Nat × List Nat) := (true, [([], []), ([0], [0]), ([], []), ([1, 2], [1, 2]), ([3], [3]), ([], []), ([5], [5]), ([4, 6], [4, 6]), ([1, 2, 0, 1, 2, 3, 4, 5, 6, 7], [1, 2]), ([8, 7, 0, 1, 2, 3, 4, 5, 6, 7], [7, 8])])
def impl_relation.B9 : List Nat := [0, 1, 0, 7, 15, 0, 32, 127, 255, 511]
theorem impl_relation.tab9 : rtab .any (opsOf Tryd.f114 9) = impl_relation.T9:=by kernel_rfl
theorem impl_relation.bits9 : waitsOk impl_relation.T9.2 impl_relation.B9 = true:=by kernel_rfl
set_option maxHeartbeats 8000000 in
set_option maxRecDepth 100000 in
theorem impl_relation.calls (k : Nat) (a0 : Int) (is : Int → Int → Option Bool) (r1 : Int) (r2 : List Int) (w : World) (C : Nat) (lb : Array Value) (eg : ∀ args w,(callFunc C args).run Tryd.prog w = .ok (.enter C args) w)
 (hC : ∀ (W : World) (x y : Int) (r : Bool),Below w.heap.size w W → is x y = some r → Calls Tryd.prog C (#[.int .i64 x,.int .i64 y] ++ lb) W fun e W'=>e = .returned (.bool r) ∧ Below W.heap.size W W') (h : impl_relation.f k a0 is = some (r1,r2)) :
 Calls Tryd.prog 114 #[.int .i64 a0,.func (.func C) #[] lb] w fun e w'=>∃ v1_ : Value,e = .returned (.agg #[.int .i64 r1,v1_]) ∧ Kd.R (Kd.int .i64) 3 w' w.heap.size (fun _=>True) v1_ r2 ∧ Below w.heap.size w w':=by
 have hu26:=Tryd.underlying28;have HB:=A_ (Below.refl w.heap.size w);have HC:=A_ hC;clear hC;have H : (if 0 ≤ a0 then (if (a0 : Int).toNat ≤ 35184372088832 then (impl_relation.l0 is k a0 a0 0 a0 (List.replicate (a0 : Int).toNat 0)) else (none)) else (none)) = some (r1,r2):=h;clear h;by_cases c3 : 0 ≤ a0
 ·rw [if_pos c3] at H;have c3b0:=eq_true c3;have c3b1 : decide (0 ≤ a0) = true:=decide_eq_true c3;clear c3;by_cases c4 : (a0 : Int).toNat ≤ 35184372088832
  ·rw [if_pos c4] at H;have c4b0:=eq_true c4;have c4b1 : decide ((a0 : Int).toNat ≤ 35184372088832) = true:=decide_eq_true c4;clear c4;obtain ⟨y248,hy248⟩ : ∃ y_ : List Int,y_ = (List.replicate (a0 : Int).toNat 0):=⟨_,rfl⟩;replace H : (impl_relation.l0 is k a0 a0 0 a0 y248) = some (r1,r2):=by first|(rw [hy248];with_reducible exact H)|(have H2_:=(Option.bind_some _ _).symm.trans H;rw [hy248];with_reducible exact H2_)|(have H2_:=(Option.bind_some _ _).symm.trans H;with_reducible exact H2_)|with_reducible exact H|(rw [hy248];exact H)|exact H
   have Ny248:=A_ hy248;clear hy248;have H':=A_ H;clear H;go_enter Tryd.func114,Tryd.ntmps114
   go_wp2_with (first|((with_reducible refine gate_dst (N:=4) rfl ?_);refine box_event ?hg (N:=4) ?hd (cs:=#[.int .i64 0,.slice none 0 0]) (t:=28) ?hr ?_;(case hd=>rfl);(case hg=>rfl);(case hr=>first|(go_simp;done)|(go_simp;rfl));intro gb247 hg w5 hbox hb;have BK247:=A_ (hbox);have GW247:=A_ ((by rw [hg];exact (below_size bb_) : w.heap.size ≤ gb247));have GE247:=A_ ((by rw [hg];exact (below_size bb_) : w.heap.size ≤ gb247));replace HB:=A_ (below_step bb_ hb);clear hb hbox hg)|((with_reducible refine gate_dst (N:=10) rfl ?_);refine Kd.R_make (Kd.int .i64) _ 3 rfl (N:=10) rfl 22 _ _ rfl a0 rfl rfl Tryd.underlying22 (.int .i64 0) 8 info3 rfl (by decide) (by omega) 0 (ok:=fun _=>True) (okp:=fun _=>True) rfl (fun _ hk=>hk) trivial (of_decide_eq_true (by first|(with_reducible assumption)|assumption)) (Nat.le_trans (Nat.mul_le_mul_right _ (of_decide_eq_true (by first|(with_reducible assumption)|assumption) : a0.toNat ≤ 35184372088832)) (by omega)) (Below.refl _ _) (Nat.le_refl _) ?_;intro v249 w6 ho7 hb hg_ hnew_;clear hg_ hnew_;(first|rw [← Ny248.out] at ho7|(simp only [Int.reduceToNat] at ho7;rw [← Ny248.out] at ho7));have HO250:=A_ (Kd.R_lower ho7 (below_size bb_));replace BK247:=bz BK247 hb;replace HB:=A_ (below_step bb_ hb);clear hb ho7;obtain ⟨Ao8,co8,eo8⟩:=Kd.R_slice HO250.out;subst eo8)|((with_reducible refine gate_dst (N:=5) rfl ?_);refine box_event ?hg (N:=5) ?hd (cs:=#[.int .i64 0,.slice none 0 0]) (t:=28) ?hr ?_;(case hd=>rfl);(case hg=>rfl);(case hr=>first|(go_simp;done)|(go_simp;rfl));intro gb251 hg w9 hbox hb;replace HO250:=rb_ HO250 hb;have BK251:=A_ (hbox);have GW251:=A_ ((by rw [hg];exact (below_size bb_) : w.heap.size ≤ gb251));have GE251:=A_ ((by rw [hg];exact (below_size bb_) : w.heap.size ≤ gb251));replace HB:=A_ (below_step bb_ hb);have NB247_251:=A_ ((by rw [hg];exact Nat.ne_of_lt (blk_lt (bl_ BK247)) : gb247 ≠ gb251));have NB251_247:=A_ ((by rw [hg];exact Nat.ne_of_gt (blk_lt (bl_ BK247)) : gb251 ≠ gb247));replace BK247:=bz BK247 hb;clear hb hbox hg;have hnb10:=NB251_247.out;have hnc10:=NB247_251.out;have hcz11_0 : w9.cell? ⟨gb251,0,none⟩ = some (.int .i64 0):=blk_cell BK251.out 0;have hcz11_1 : w9.cell? ⟨gb251,1,none⟩ = some (.slice none 0 0):=blk_cell BK251.out 1;have hfz11_0:=blk_frozen BK251.out 0;have hfz11_1:=blk_frozen BK251.out 1))
   go_loopg [13] k (fun kq v13 w'=>∃ (x13_1 : Int) (x252001_1 : List Int) (u252001 : Value),v13 = .int .i64 x13_1 ∧ Aside0 (impl_relation.l0 is kq a0 a0 x13_1 a0 x252001_1 = some (r1,r2)) ∧ Aside0 (kq ≤ k) ∧ Aside0 (Kd.R (Kd.int .i64) 3 w' w.heap.size (fun _=>True) u252001 x252001_1) ∧ Aside0 (w'.heap[gb247]? = some (.cells #[.int .i64 0,(.slice none 0 0)] 28 (0,0))) ∧ Aside0 (w'.heap[gb251]? = some (.cells #[.int .i64 a0,u252001] 28 (0,0))) ∧ Aside0 (Below w.heap.size w w'))
   case atStart=>exact ⟨(0),(y248),(.slice Ao8 y248.length co8),(by first|rfl|(simp;done)|(simp [*];done)),H',⟨Nat.le_refl _⟩,⟨by (with_reducible repeat (first|apply Kd.R_alloc|apply Kd.R_drewN|apply Kd.R_drew));exact Kd.R_mono (Kd.R_far (p:=⟨gb251,1,none⟩) (Kd.R_far (p:=⟨gb251,0,none⟩) (Kd.R_types HO250.out BK251.out (by decide)) (fun _ hk=>hk.2) (.int .i64 a0)) (fun _ hk=>hk.2) (.slice Ao8 y248.length co8)) (fun _ hk=>trivial)⟩,⟨by (with_reducible repeat (first|refine blk_drewN ?_ _|refine blk_drew ?_|refine blk_alloc ?_ _));refine blk_far ?_ NB247_251.out _;(with_reducible repeat (first|refine blk_drewN ?_ _|refine blk_drew ?_|refine blk_alloc ?_ _));refine blk_far ?_ NB247_251.out _;(with_reducible repeat (first|refine blk_drewN ?_ _|refine blk_drew ?_|refine blk_alloc ?_ _));exact BK247.out⟩,⟨by (with_reducible repeat (first|refine blk_drewN ?_ _|refine blk_drew ?_|refine blk_alloc ?_ _));refine blk_put (cs:=#[.int .i64 a0,.slice none 0 0]) ?_ 1 _ rfl;(with_reducible repeat (first|refine blk_drewN ?_ _|refine blk_drew ?_|refine blk_alloc ?_ _));refine blk_put (cs:=#[.int .i64 0,.slice none 0 0]) ?_ 0 _ rfl;(with_reducible repeat (first|refine blk_drewN ?_ _|refine blk_drew ?_|refine blk_alloc ?_ _));exact BK251.out⟩,⟨bb_⟩⟩
   case round =>
    clear H';try clear c1
    try clear p2
    try clear c3
    try clear c3b0
    try clear c3b1
    try clear c4
    try clear c4b0
    try clear c4b1
    try clear c8
    try clear c10
    try clear hcz11_0
    try clear hcz11_1
    try clear hfz11_0
    try clear hfz11_1
    obtain ⟨x13_1,x252001_1,u252001,rfl,HA,HK1,HO_252001,BK247,BK251,HB⟩:=hrel;cases gk with
    | zero=>exact absurd HA.out (by simp [impl_relation.l0])
    | succ k1 =>
     have H:=HA.out;clear HA;simp only [impl_relation.l0] at H
     by_cases c12 : x13_1 < a0
     ·rw [if_pos c12] at H;have c12b0 : decide (x13_1 < a0) = true:=decide_eq_true c12;clear c12;have H':=A_ H;clear H;go_wp2
      go_loopg [17] k1 (fun kq v17 w'=>∃ (x17_2 : Int) (x252001_2 : List Int) (u252001 : Value),v17 = .int .i64 x17_2 ∧ Aside0 (impl_relation.l1 is kq a0 x13_1 a0 x13_1 a0 x17_2 a0 x252001_2 = some (r1,r2)) ∧ Aside0 (kq ≤ k1) ∧ Aside0 (Kd.R (Kd.int .i64) 3 w' w.heap.size (fun _=>True) u252001 x252001_2) ∧ Aside0 (w'.heap[gb247]? = some (.cells #[.int .i64 0,(.slice none 0 0)] 28 (0,0))) ∧ Aside0 (w'.heap[gb251]? = some (.cells #[.int .i64 a0,u252001] 28 (0,0))) ∧ Aside0 (Below w.heap.size w w'))
      case atStart=>exact ⟨(0),(x252001_1),(u252001),(by first|rfl|(simp;done)|(simp [*];done)),H',⟨Nat.le_refl _⟩,⟨by (with_reducible repeat (first|apply Kd.R_alloc|apply Kd.R_drewN|apply Kd.R_drew));exact HO_252001.out⟩,⟨bl_ BK247⟩,⟨bl_ BK251⟩,⟨bb_⟩⟩
      case round =>
       clear H';try clear c1
       try clear p2
       try clear c3
       try clear c3b0
       try clear c3b1
       try clear c4
       try clear c4b0
       try clear c4b1
       try clear c8
       try clear c10
       try clear c12
       try clear c12b0
       try clear hcz11_0
       try clear hcz11_1
       try clear hfz11_0
       try clear hfz11_1
       try clear p2
       obtain ⟨x17_2,x252001_2,u252001,rfl,HA,HK2,HO_252001,BK247,BK251,HB⟩:=hrel;cases gk with
       | zero=>exact absurd HA.out (by simp [impl_relation.l1])
       | succ k2 =>
        have H:=HA.out;clear HA;simp only [impl_relation.l1] at H
        by_cases c13 : x17_2 < a0
        ·rw [if_pos c13] at H;have c13b0 : decide (x17_2 < a0) = true:=decide_eq_true c13;clear c13;replace H:=Option.bind_eq_some_iff.mp H;obtain ⟨t252,A140,H⟩:=H;replace H : (if t252 = true then (if 0 ≤ x13_1 then (if x13_1 < (x252001_2.length : Int) then (if 0 ≤ x17_2 then (impl_relation.l1 is k2 a0 x13_1 a0 x13_1 a0 (wrap64 (x17_2 + 1)) a0 (x252001_2.set (x13_1 : Int).toNat (Go.bits .or .i64 (rd x252001_2 x13_1) (shl .i64 1 x17_2)))) else (none)) else (none)) else (none)) else (impl_relation.l1 is k2 a0 x13_1 a0 x13_1 a0 (wrap64 (x17_2 + 1)) a0 x252001_2)) = some (r1,r2):=H;have A14:=A_ A140;clear A140;by_cases c15 : t252 = true
         ·subst c15;have H1 : (if 0 ≤ x13_1 then (if x13_1 < (x252001_2.length : Int) then (if 0 ≤ x17_2 then (impl_relation.l1 is k2 a0 x13_1 a0 x13_1 a0 (wrap64 (x17_2 + 1)) a0 (x252001_2.set (x13_1 : Int).toNat (Go.bits .or .i64 (rd x252001_2 x13_1) (shl .i64 1 x17_2)))) else (none)) else (none)) else (none)) = some (r1,r2):=by rw [if_pos rfl] at H;exact H
          clear H;have H:=H1;clear H1;by_cases c16 : 0 ≤ x13_1
          ·rw [if_pos c16] at H;have c16b0 : decide (0 ≤ x13_1) = true:=decide_eq_true c16;clear c16;by_cases c17 : x13_1 < (x252001_2.length : Int)
           ·rw [if_pos c17] at H;have c17b0 : decide (x13_1 < (x252001_2.length : Int)) = true:=decide_eq_true c17;clear c17;by_cases c18 : 0 ≤ x17_2
            ·rw [if_pos c18] at H;have c18b0:=eq_true c18;have c18b1 : decide (0 ≤ x17_2) = true:=decide_eq_true c18;clear c18;obtain ⟨ji19,hji19⟩ : ∃ j_ : Int,(shl .i64 1 x17_2) = j_:=⟨_,rfl⟩;replace H : (impl_relation.l1 is k2 a0 x13_1 a0 x13_1 a0 (wrap64 (x17_2 + 1)) a0 (x252001_2.set (x13_1 : Int).toNat (Go.bits .or .i64 (rd x252001_2 x13_1) (ji19)))) = some (r1,r2):=by first|(rw [hji19] at H;exact H)|(simp only [hji19] at H ⊢;exact H)
             (try rw [hji19] at A14);have hji19_ : (IntKind.i64.wrap (1 * 2 ^ min x17_2.toNat 64)) = ji19:=hji19;have hji19z : x17_2 ≤ 64 → (IntKind.i64.wrap (1 * 2 ^ x17_2.toNat)) = ji19:=shl_small hji19;have hji19u : (IntKind.i64.wrap (2 ^ min x17_2.toNat 64)) = ji19:=by have h_:=hji19_;rw [Int.one_mul] at h_;exact h_
             have hji19v : x17_2 ≤ 64 → (IntKind.i64.wrap (2 ^ x17_2.toNat)) = ji19:=fun hle_=>by have h_:=hji19z hle_;rw [Int.one_mul] at h_;exact h_
             have hji19y : (wrap64 (1 * 2 ^ min x17_2.toNat 64)) = ji19:=(i64_w _).symm.trans hji19_;have hji19x : x17_2 ≤ 64 → (wrap64 (1 * 2 ^ x17_2.toNat)) = ji19:=fun h_=>(i64_w _).symm.trans (hji19z h_)
             obtain ⟨y254,hy254⟩ : ∃ y_ : List Int,y_ = (x252001_2.set (x13_1 : Int).toNat (Go.bits .or .i64 (rd x252001_2 x13_1) (ji19))):=⟨_,rfl⟩;replace H : (impl_relation.l1 is k2 a0 x13_1 a0 x13_1 a0 (wrap64 (x17_2 + 1)) a0 y254) = some (r1,r2):=by first|(rw [hy254];with_reducible exact H)|(have H2_:=(Option.bind_some _ _).symm.trans H;rw [hy254];with_reducible exact H2_)|(have H2_:=(Option.bind_some _ _).symm.trans H;with_reducible exact H2_)|with_reducible exact H|(rw [hy254];exact H)|exact H
             have Ny254:=A_ hy254;clear hy254;have H':=A_ H;clear H;try go_wp2_with (first|(go_at_fn C;(refine (HC.out _ x13_1 x17_2 true ?sideB A14.out).mono ?_);(case sideB=>repeat (first|(with_reducible first|exact HB.out|apply below_alloc|apply pw_below_drewN|apply below_drew1|refine below_set ?_ (Aside0.out (by assumption)))|exact HB.out));rintro e w21 ⟨rfl,hb⟩;replace HO_252001:=rb_ HO_252001 hb;replace BK247:=bz BK247 hb;replace BK251:=bz BK251 hb;replace HB:=A_ (below_step bb_ hb);(try clear hb);(try clear hb2);(try clear hk);(try clear hi)))
             replace HO_252001:=A_ (Kd.R_drew HO_252001.out);replace BK247:=A_ (blk_drew BK247.out);replace BK251:=A_ (blk_drew BK251.out);replace HB:=A_ (below_drew1 HB.out);obtain ⟨Ao23,co23,eo23⟩:=Kd.R_slice HO_252001.out;(first|subst eo23|(injection eo23 with f1_ f2_ f3_;have f4_:=f1_.symm;have f5_:=f3_.symm;clear f1_ f2_ f3_;subst f4_;subst f5_))
             have p253 : 0 ≤ (x13_1 : Int):=of_decide_eq_true (by first|(with_reducible assumption)|assumption);have q253 : x13_1 < (x252001_2.length : Int):=of_decide_eq_true (by first|(with_reducible assumption)|assumption);obtain ⟨ad253,e253,hx253_0⟩:=Kd.at_int (Kd.R_reads' HO_252001.out).2.2 x13_1 p253 q253;cases e253
             replace p253:=eq_true p253;replace q253:=eq_true q253;have p20 : 0 ≤ (x13_1 : Int):=of_decide_eq_true (by first|(with_reducible assumption)|assumption);have q20 : (x13_1 : Int) < ((x252001_2.length : Int) : Int):=of_decide_eq_true (by first|(with_reducible assumption)|assumption);obtain ⟨go20,co20,eo20,gb20,gl20,cl20,HG20⟩:=Kd.R_form HO_252001.out (by omega);(first|cases eo20|(injection eo20 with ea_ en_ ec_;(first|subst ea_|(injection ea_ with ea_;subst ea_));subst ec_;clear en_))
             have GB20:=A_ gb20;have GG20:=A_ HG20;clear gb20 gl20 HG20;(first|simp only [add_plain] at hx253_0|skip)
             obtain ⟨hx20_0,hf20_0⟩:=Kd.R_celln 0 HO_252001.out (x13_1 : Int) p20 q20;replace p20:=eq_true p20;replace q20:=eq_true q20;have HP24:=Kd.R_putn HO_252001.out (x13_1 : Int) (Go.bits .or .i64 (rd x252001_2 x13_1) (ji19));rw [← Ny254.out] at HP24;have HQ24:=A_ HP24;clear HP24;refine start_ (n:=10) (S:=fun w'=>w'.cell? ⟨gb251,0,none⟩ = some (.int .i64 a0) ∧ w'.cell? ⟨gb251,1,none⟩ = some (.slice (some ⟨go20,0,none⟩) x252001_2.length co23) ∧ w'.cell? ⟨go20,(x13_1).toNat,none⟩ = some (.int .i64 (rd x252001_2 x13_1))) (ds:=[9]) #[F,F,F,F,F,F,F,F,F,F] (by kernel_rfl) rfl rfl ⟨blk_cell BK251.out 0,blk_cell BK251.out 1,hx253_0⟩ (fun hHeld=>?_);refine with_tabW impl_relation.tab9 impl_relation.bits9 (fun HT_ HW_=>?_)
             generalize w21.drew = w22 at HO_252001 BK247 BK251 HB GG20 HQ24 hf20_0 hx20_0 hx253_0 hHeld ⊢
             refine pure_ (i:=0) (N:=some 24) (v:=?_) (a':=?_) #[T,F,F,F,F,F,F,F,F,F] rfl rfl (any_of HT_.out (by kernel_rfl)) (fun _ _ _ h=>h) (Or.inl ⟨by rfl,?_⟩) ?_ ?_
             rotate_left;·intro w';go_simp;with_reducible rfl
             rotate_left;·simp only [Act.put,L_,M_,N_,i64_w,i32_w];rfl
             refine pure_ (i:=2) (N:=some 26) (v:=?_) (a':=?_) #[T,F,T,F,F,F,F,F,F,F] rfl rfl (any_of HT_.out (by kernel_rfl)) (fun _ _ _ h=>h) (Or.inl ⟨by rfl,?_⟩) ?_ ?_
             rotate_left;·intro w';go_simp;with_reducible rfl
             rotate_left;·simp only [Act.put,L_,M_,N_,i64_w,i32_w];rfl
             refine pure_ (i:=5) (N:=some 29) (v:=?_) (a':=?_) #[T,F,T,F,F,T,F,F,F,F] rfl rfl (any_of HT_.out (by kernel_rfl)) (fun _ _ _ h=>h) (Or.inl ⟨by rfl,?_⟩) ?_ ?_
             rotate_left;·intro w';go_simp;with_reducible rfl
             rotate_left;·simp only [Act.put,L_,M_,N_,i64_w,i32_w];rfl
             refine pure_ (i:=6) (N:=some 30) (v:=?_) (a':=?_) #[T,F,T,F,F,T,T,F,F,F] rfl rfl (any_of HT_.out (by kernel_rfl)) (fun _ _ _ h=>h) (Or.inl ⟨by rfl,?_⟩) ?_ ?_
             rotate_left;·intro w';go_simp;with_reducible rfl
             rotate_left;·simp only [Act.put,L_,M_,N_,i64_w,i32_w];rfl
             refine take_ (i:=1) (N:=some 25) (v:=?_) (a':=?_) #[T,T,T,F,F,T,T,F,F,F] rfl rfl (take_ofW HT_.out HW_.out (by kernel_rfl)) (fun _ _ _ h=>h) (Or.inl ⟨by rfl,?_⟩) hHeld ?_ ?_
             rotate_left
             ·rintro w' ⟨s0,s1,s2⟩
              go_simp
              with_reducible rfl
             rotate_left;·simp only [Act.put,L_,M_,N_,i64_w,i32_w];rfl
             refine pure_ (i:=3) (N:=some 27) (v:=?_) (a':=?_) #[T,T,T,T,F,T,T,F,F,F] rfl rfl (any_of HT_.out (by kernel_rfl)) (fun _ _ _ h=>h) (Or.inl ⟨by rfl,?_⟩) ?_ ?_
             rotate_left;·intro w';go_simp;with_reducible rfl
             rotate_left;·simp only [Act.put,L_,M_,N_,i64_w,i32_w];rfl
             refine take_ (i:=4) (N:=some 28) (v:=?_) (a':=?_) #[T,T,T,T,T,T,T,F,F,F] rfl rfl (take_ofW HT_.out HW_.out (by kernel_rfl)) (fun _ _ _ h=>h) (Or.inl ⟨by rfl,?_⟩) hHeld ?_ ?_
             rotate_left
             ·rintro w' ⟨s0,s1,s2⟩
              go_simp
              with_reducible rfl
             rotate_left;·simp only [Act.put,L_,M_,N_,i64_w,i32_w];rfl
             refine pure_ (i:=7) (N:=some 31) (v:=?_) (a':=?_) #[T,T,T,T,T,T,T,T,F,F] rfl rfl (any_of HT_.out (by kernel_rfl)) (fun _ _ _ h=>h) (Or.inl ⟨by rfl,?_⟩) ?_ ?_
             rotate_left;·intro w';go_simp;with_reducible rfl
             rotate_left;·simp only [Act.put,L_,M_,N_,i64_w,i32_w];rfl
             refine pure_ (i:=8) (N:=some 32) (v:=?_) (a':=?_) #[T,T,T,T,T,T,T,T,T,F] rfl rfl (any_of HT_.out (by kernel_rfl)) (fun _ _ _ h=>h) (Or.inl ⟨by rfl,?_⟩) ?_ ?_
             rotate_left;·intro w';go_simp;with_reducible rfl
             rotate_left;·simp only [Act.put,L_,M_,N_,i64_w,i32_w];rfl
             refine last_ (i:=9) (N:=none) #[T,T,T,T,T,T,T,T,T,T] rfl rfl (one_of HT_.out (by kernel_rfl)) (by decide) (fun K hK=>?_)
             refine skip_ (w1:=?_) (by rfl) rfl ?_ ?_
             rotate_left
             ·go_simp
              rfl
             refine hK.out _ _ ?_
             clear hK K;refine done_ (done_of HT_.out (by kernel_rfl)) ?_
             try go_wp2
             go_roundg k2
             case measure=>have:=HK1.out;have:=HK2.out;omega
             case rel=>exact ⟨(wrap64 (x17_2 + 1)),(y254),(.slice (some ⟨go20,0,none⟩) x252001_2.length co23),(by first|rfl|(simp;done)|(simp [*];done)),H',⟨by have:=HK1.out;have:=HK2.out;omega⟩,⟨by (with_reducible repeat (first|apply Kd.R_alloc|apply Kd.R_drewN|apply Kd.R_drew));exact HQ24.out⟩,⟨by (with_reducible repeat (first|refine blk_drewN ?_ _|refine blk_drew ?_|refine blk_alloc ?_ _));refine blk_far ?_ (by have h_:=Kd.R_ne HO_252001.out BK247.out (by decide);intro e_;exact h_ (by rw [e_];rfl)) _;(with_reducible repeat (first|refine blk_drewN ?_ _|refine blk_drew ?_|refine blk_alloc ?_ _));exact BK247.out⟩,⟨by (with_reducible repeat (first|refine blk_drewN ?_ _|refine blk_drew ?_|refine blk_alloc ?_ _));refine blk_far ?_ (by have h_:=Kd.R_ne HO_252001.out BK251.out (by decide);intro e_;exact h_ (by rw [e_];rfl)) _;(with_reducible repeat (first|refine blk_drewN ?_ _|refine blk_drew ?_|refine blk_alloc ?_ _));exact BK251.out⟩,⟨by repeat (first|(with_reducible first|exact HB.out|apply below_alloc|apply pw_below_drewN|apply below_drew1|refine below_set ?_ GB20.out|refine below_set ?_ (Aside0.out (by assumption)))|exact HB.out)⟩⟩
            ·rw [if_neg c18] at H;exact absurd H (by simp)
           ·rw [if_neg c17] at H;exact absurd H (by simp)
          ·rw [if_neg c16] at H;exact absurd H (by simp)
         ·replace c15:=Bool.eq_false_iff.mpr c15;subst c15;have H1 : (impl_relation.l1 is k2 a0 x13_1 a0 x13_1 a0 (wrap64 (x17_2 + 1)) a0 x252001_2) = some (r1,r2):=by rw [if_neg (show ¬ (false = true) by decide)] at H;exact H
          clear H;have H:=H1;clear H1;have H':=A_ H;clear H;go_wp2_with (first|(go_at_fn C;(refine (HC.out _ x13_1 x17_2 false ?sideB A14.out).mono ?_);(case sideB=>repeat (first|(with_reducible first|exact HB.out|apply below_alloc|apply pw_below_drewN|apply below_drew1|refine below_set ?_ (Aside0.out (by assumption)))|exact HB.out));rintro e w25 ⟨rfl,hb⟩;replace HO_252001:=rb_ HO_252001 hb;replace BK247:=bz BK247 hb;replace BK251:=bz BK251 hb;replace HB:=A_ (below_step bb_ hb);(try clear hb);(try clear hb2);(try clear hk);(try clear hi)))
          go_roundg k2
          case measure=>have:=HK1.out;have:=HK2.out;omega
          case rel=>exact ⟨(wrap64 (x17_2 + 1)),(x252001_2),(u252001),(by first|rfl|(simp;done)|(simp [*];done)),H',⟨by have:=HK1.out;have:=HK2.out;omega⟩,⟨by (with_reducible repeat (first|apply Kd.R_alloc|apply Kd.R_drewN|apply Kd.R_drew));exact HO_252001.out⟩,⟨bl_ BK247⟩,⟨bl_ BK251⟩,⟨bb_⟩⟩
        ·rw [if_neg c13] at H;have c13b0 : decide (x17_2 < a0) = false:=decide_eq_false c13;clear c13;have H':=A_ H;clear H;go_wp2
         go_roundg k2
         case measure=>have:=HK1.out;have:=HK2.out;omega
         case rel=>exact ⟨(wrap64 (x13_1 + 1)),(x252001_2),(u252001),(by first|rfl|(simp;done)|(simp [*];done)),H',⟨by have:=HK1.out;have:=HK2.out;omega⟩,⟨by (with_reducible repeat (first|apply Kd.R_alloc|apply Kd.R_drewN|apply Kd.R_drew));exact HO_252001.out⟩,⟨bl_ BK247⟩,⟨bl_ BK251⟩,⟨bb_⟩⟩
     ·rw [if_neg c12] at H;have c12b0 : decide (x13_1 < a0) = false:=decide_eq_false c12;clear c12;simp only [Option.some.injEq,Prod.mk.injEq] at H
      obtain ⟨rfl,rfl⟩:=H;have hnb26:=NB251_247.out;have hnc26:=NB247_251.out;have hcz27_0 : wr.cell? ⟨gb251,0,none⟩ = some (.int .i64 a0):=blk_cell BK251.out 0;have hcz27_1 : wr.cell? ⟨gb251,1,none⟩ = some (u252001):=blk_cell BK251.out 1;have hfz27_0:=blk_frozen BK251.out 0;have hfz27_1:=blk_frozen BK251.out 1;have hcz28_0 : wr.cell? ⟨gb247,0,none⟩ = some (.int .i64 0):=blk_cell BK247.out 0;have hcz28_1 : wr.cell? ⟨gb247,1,none⟩ = some (.slice none 0 0):=blk_cell BK247.out 1;have hfz28_0:=blk_frozen BK247.out 0;have hfz28_1:=blk_frozen BK247.out 1;obtain ⟨Ao29,co29,eo29⟩:=Kd.R_slice HO_252001.out;subst eo29;go_wp2
      refine bodyPost_ret (results_cell_row rfl _ _ gb247 28 #[.int .i64 a0,.slice Ao29 x252001_1.length co29] (0,0) _ rfl (by (with_reducible repeat (first|refine blk_drewN ?_ _|refine blk_drew ?_|refine blk_alloc ?_ _));refine blk_put (cs:=#[.int .i64 a0,.slice none 0 0]) ?_ 1 _ rfl;(with_reducible repeat (first|refine blk_drewN ?_ _|refine blk_drew ?_|refine blk_alloc ?_ _));refine blk_put (cs:=#[.int .i64 0,.slice none 0 0]) ?_ 0 _ rfl;(with_reducible repeat (first|refine blk_drewN ?_ _|refine blk_drew ?_|refine blk_alloc ?_ _));exact BK247.out) Tryd.underlying28 rfl (by kernel_rfl)) rfl ?_
      exact ⟨_,by first|rfl|(simp [errW_none,errW_some] <;> rfl)|(simp [*,errW_none,errW_some] <;> rfl),by (with_reducible repeat (first|apply Kd.R_alloc|apply Kd.R_drewN|apply Kd.R_drew));exact Kd.R_mono (Kd.R_far (p:=⟨gb247,1,none⟩) (Kd.R_far (p:=⟨gb247,0,none⟩) (Kd.R_types HO_252001.out BK247.out (by decide)) (fun _ hk=>hk.2) (.int .i64 a0)) (fun _ hk=>hk.2) (.slice Ao29 x252001_1.length co29)) (fun _ hk=>trivial),bb_⟩
  ·rw [if_neg c4] at H;exact absurd H (by simp)
 ·rw [if_neg c3] at H;exact absurd H (by simp)
def impl_Order_better.f (a0_0 : Int) (l0_1 : List Int) (a1 : Int) (a2 : Int) : Option (Bool) := if 0 ≤ a1 then (if a1 < (l0_1.length : Int) then (if 0 ≤ a2 then (some ((Go.bits .and .i64 (shr .i64 (rd l0_1 a1) a2) 1) == 1)) else (none)) else (none)) else (none)
set_option maxHeartbeats 8000000 in
set_option maxRecDepth 100000 in
theorem impl_Order_better.calls (a0_0 : Int) (A0_1 : Option Addr) (c0_1 : Nat) (l0_1 : List Int) (a1 : Int) (a2 : Int) (r : Bool) (w : World) (hr0_1 : Kd.C (Kd.int .i64) w A0_1 l0_1.length l0_1) (hc0_1 : l0_1.length ≤ c0_1) (h : impl_Order_better.f a0_0 l0_1 a1 a2 = some r) :
 Calls Tryd.prog 146 #[.agg #[.int .i64 a0_0,.slice A0_1 l0_1.length c0_1],.int .i64 a1,.int .i64 a2] w fun e w'=>e = .returned (.bool r) ∧ Below w.heap.size w w':=by
 have hu28:=Tryd.underlying28;have HR0_1:=A_ hr0_1;have HC0_1:=A_ hc0_1;clear hr0_1 hc0_1;have HB:=A_ (Below.refl w.heap.size w);have H : (if 0 ≤ a1 then (if a1 < (l0_1.length : Int) then (if 0 ≤ a2 then (some ((Go.bits .and .i64 (shr .i64 (rd l0_1 a1) a2) 1) == 1)) else (none)) else (none)) else (none)) = some r:=h;clear h;by_cases c4 : 0 ≤ a1
 ·rw [if_pos c4] at H;have c4b0 : decide (0 ≤ a1) = true:=decide_eq_true c4;clear c4;by_cases c5 : a1 < (l0_1.length : Int)
  ·rw [if_pos c5] at H;have c5b0 : decide (a1 < (l0_1.length : Int)) = true:=decide_eq_true c5;clear c5;by_cases c6 : 0 ≤ a2
   ·rw [if_pos c6] at H;have c6b0:=eq_true c6;have c6b1 : decide (0 ≤ a2) = true:=decide_eq_true c6;clear c6;obtain ⟨ji7,hji7⟩ : ∃ j_ : Int,(shr .i64 (rd l0_1 a1) a2) = j_:=⟨_,rfl⟩;replace H : (some ((Go.bits .and .i64 (ji7) 1) == 1)) = some r:=by first|(rw [hji7] at H;exact H)|(simp only [hji7] at H ⊢;exact H)
    have hji7_ : ((rd l0_1 a1) / 2 ^ min a2.toNat 64) = ji7:=hji7;have hji7z : a2 ≤ 64 → ((rd l0_1 a1) / 2 ^ a2.toNat) = ji7:=shr_small hji7;obtain rfl:=Option.some.inj H;go_enter Tryd.func146,Tryd.ntmps146
    go_wp2_with (first|((with_reducible refine gate_dst (N:=3) rfl ?_);refine box_event ?hg (N:=3) ?hd (cs:=#[.int .i64 a0_0,.slice A0_1 l0_1.length c0_1]) (t:=28) ?hr ?_;(case hd=>rfl);(case hg=>rfl);(case hr=>first|(go_simp;done)|(go_simp;rfl));intro gb266 hg w8 hbox hb;have BK266:=A_ (hbox);have GW266:=A_ ((by rw [hg];exact (below_size bb_) : w.heap.size ≤ gb266));have GE266:=A_ ((by rw [hg];exact (below_size bb_) : w.heap.size ≤ gb266));replace HB:=A_ (below_step bb_ hb);clear hb hbox hg;have hcz9_0 : w8.cell? ⟨gb266,0,none⟩ = some (.int .i64 a0_0):=blk_cell BK266.out 0;have hcz9_1 : w8.cell? ⟨gb266,1,none⟩ = some (.slice A0_1 l0_1.length c0_1):=blk_cell BK266.out 1;have hfz9_0:=blk_frozen BK266.out 0;have hfz9_1:=blk_frozen BK266.out 1;have p267 : 0 ≤ (a1 : Int):=of_decide_eq_true (by first|(with_reducible assumption)|assumption);have q267 : a1 < (l0_1.length : Int):=of_decide_eq_true (by first|(with_reducible assumption)|assumption);obtain ⟨ad267,e267,hx267_0⟩:=Kd.at_int HR0_1.out a1 p267 q267;cases e267;(try replace hx267_0:=(HB.out.cell (World.block_lt_of_cell? w _ hx267_0)).trans hx267_0);replace p267:=eq_true p267;replace q267:=eq_true q267))
    go_ret
    exact ⟨by first|rfl|(simp [errW_none,errW_some] <;> rfl)|(simp only [← hji7];first|rfl|(simp [errW_none,errW_some] <;> rfl))|(simp [*,errW_none,errW_some] <;> rfl),bb_⟩
   ·rw [if_neg c6] at H;exact absurd H (by simp)
  ·rw [if_neg c5] at H;exact absurd H (by simp)
 ·rw [if_neg c4] at H;exact absurd H (by simp)
def impl_Order_mirror_1.f (a0 : Int) (a1 : Int) (a2_0 : Int) (l2_1 : List Int) : Option (Bool) := (impl_Order_better.f a2_0 l2_1 a1 a0).bind fun t291 => (some t291)
set_option maxHeartbeats 8000000 in
set_option maxRecDepth 100000 in
theorem impl_Order_mirror_1.calls (a0 : Int) (a1 : Int) (g2_ : Nat) (a2_0 : Int) (A2_1 : Option Addr) (c2_1 : Nat) (l2_1 : List Int) (r : Bool) (w : World) (hb2 : w.heap[g2_]? = some (.cells #[.int .i64 a2_0,.slice A2_1 l2_1.length c2_1] 28 (0,0))) (hr2_1 : Kd.C (Kd.int .i64) w A2_1 l2_1.length l2_1) (hc2_1 : l2_1.length ≤ c2_1) (h : impl_Order_mirror_1.f a0 a1 a2_0 l2_1 = some r) :
 Calls Tryd.prog 195 #[.int .i64 a0,.int .i64 a1,.pointer (some ⟨g2_,0,none⟩)] w fun e w'=>e = .returned (.bool r) ∧ Below w.heap.size w w':=by
 have hu28:=Tryd.underlying28;have HR2_1:=A_ hr2_1;have HC2_1:=A_ hc2_1;clear hr2_1 hc2_1;have BK290:=A_ hb2;clear hb2;have HB:=A_ (Below.refl w.heap.size w);have H : ((impl_Order_better.f a2_0 l2_1 a1 a0).bind fun t291=>(some t291)) = some r:=h;clear h;replace H:=Option.bind_eq_some_iff.mp H;obtain ⟨t291,A40,H⟩:=H;replace H : (some t291) = some r:=H;have A4:=A_ A40;clear A40;obtain rfl:=Option.some.inj H;have hcz5_0 : w.cell? ⟨g2_,0,none⟩ = some (.int .i64 a2_0):=blk_cell BK290.out 0;have hcz5_1 : w.cell? ⟨g2_,1,none⟩ = some (.slice A2_1 l2_1.length c2_1):=blk_cell BK290.out 1;have hfz5_0:=blk_frozen BK290.out 0;have hfz5_1:=blk_frozen BK290.out 1;go_enter Tryd.func195,Tryd.ntmps195
 go_wp2_with (first|((with_reducible refine gate_callee (f:=146) rfl ?_);refine goesL_ (some 9) rfl rfl Tryd.func146 (by kernel_rfl) rfl #[.agg #[.int .i64 a2_0,.slice A2_1 l2_1.length c2_1],.int .i64 a1,.int .i64 a0] rfl au_ ?_;(with_reducible refine (impl_Order_better.calls a2_0 _ _ l2_1 a1 a0 t291 _ ?side1 ?side2 A4.out).mono ?_);(case side1=>repeat (first|exact HR2_1.out|(with_reducible refine Kd.C_alloc ?_ _)|(with_reducible refine Kd.C_drewN ?_ _)|(with_reducible refine Kd.C_drew ?_)));(case side2=>exact HC2_1.out);rintro e w6 ⟨rfl,hb⟩;refine ⟨_,rfl,?_⟩;replace BK290:=bz BK290 hb;replace HB:=A_ (below_step bb_ hb);(try clear hb);(try clear hb2);(try clear hk);(try clear hi)))
 go_ret
 exact ⟨by first|rfl|(simp [errW_none,errW_some] <;> rfl)|(simp [*,errW_none,errW_some] <;> rfl),bb_⟩
def impl_Order_mirror.f (k : Nat) (a0_0 : Int) (l0_1 : List Int) : Option (Int × List Int) := (impl_relation.f k a0_0 (fun x0_ x1_ => impl_Order_mirror_1.f x0_ x1_ a0_0 l0_1)).bind fun bt294 => (some (bt294.1, bt294.2))
set_option maxHeartbeats 8000000 in
set_option maxRecDepth 100000 in
theorem impl_Order_mirror.calls (k : Nat) (a0_0 : Int) (A0_1 : Option Addr) (c0_1 : Nat) (l0_1 : List Int) (r1 : Int) (r2 : List Int) (w : World) (hr0_1 : Kd.C (Kd.int .i64) w A0_1 l0_1.length l0_1) (hc0_1 : l0_1.length ≤ c0_1) (h : impl_Order_mirror.f k a0_0 l0_1 = some (r1,r2)) :
 Calls Tryd.prog 113 #[.agg #[.int .i64 a0_0,.slice A0_1 l0_1.length c0_1]] w fun e w'=>∃ v1_ : Value,e = .returned (.agg #[.int .i64 r1,v1_]) ∧ Kd.R (Kd.int .i64) 3 w' w.heap.size (fun _=>True) v1_ r2 ∧ Below w.heap.size w w':=by
 have hu28:=Tryd.underlying28;have HR0_1:=A_ hr0_1;have HC0_1:=A_ hc0_1;clear hr0_1 hc0_1;have HB:=A_ (Below.refl w.heap.size w);have H : ((impl_relation.f k a0_0 (fun x0_ x1_=>impl_Order_mirror_1.f x0_ x1_ a0_0 l0_1)).bind fun bt294=>(some (bt294.1,bt294.2))) = some (r1,r2):=h;clear h;replace H:=Option.bind_eq_some_iff.mp H;obtain ⟨⟨t294,t295⟩,A20,H⟩:=H;replace H : (some (t294,t295)) = some (r1,r2):=H;have A2:=A_ A20;clear A20;simp only [Option.some.injEq,Prod.mk.injEq] at H
 obtain ⟨rfl,rfl⟩:=H;go_enter Tryd.func113,Tryd.ntmps113
 go_wp2_with (first|((with_reducible refine gate_dst (N:=1) rfl ?_);refine box_event ?hg (N:=1) ?hd (cs:=#[.int .i64 a0_0,.slice A0_1 l0_1.length c0_1]) (t:=28) ?hr ?_;(case hd=>rfl);(case hg=>rfl);(case hr=>first|(go_simp;done)|(go_simp;rfl));intro gb292 hg w3 hbox hb;have BK292:=A_ (hbox);have GW292:=A_ ((by rw [hg];exact (below_size bb_) : w.heap.size ≤ gb292));have GE292:=A_ ((by rw [hg];exact (below_size bb_) : w.heap.size ≤ gb292));replace HB:=A_ (below_step bb_ hb);clear hb hbox hg)|((with_reducible refine gate_dst (N:=2) rfl ?_);refine box_event ?hg (N:=2) ?hd (cs:=#[.int .i64 0,.slice none 0 0]) (t:=28) ?hr ?_;(case hd=>rfl);(case hg=>rfl);(case hr=>first|(go_simp;done)|(go_simp;rfl));intro gb293 hg w4 hbox hb;have BK293:=A_ (hbox);have GW293:=A_ ((by rw [hg];exact (below_size bb_) : w.heap.size ≤ gb293));have GE293:=A_ ((by rw [hg];exact (below_size bb_) : w.heap.size ≤ gb293));replace HB:=A_ (below_step bb_ hb);have NB292_293:=A_ ((by rw [hg];exact Nat.ne_of_lt (blk_lt (bl_ BK292)) : gb292 ≠ gb293));have NB293_292:=A_ ((by rw [hg];exact Nat.ne_of_gt (blk_lt (bl_ BK292)) : gb293 ≠ gb292));replace BK292:=bz BK292 hb;clear hb hbox hg;have hnb5:=NB292_293.out;have hnc5:=NB293_292.out;have hcz6_0 : w4.cell? ⟨gb292,0,none⟩ = some (.int .i64 a0_0):=blk_cell BK292.out 0;have hcz6_1 : w4.cell? ⟨gb292,1,none⟩ = some (.slice A0_1 l0_1.length c0_1):=blk_cell BK292.out 1;have hfz6_0:=blk_frozen BK292.out 0;have hfz6_1:=blk_frozen BK292.out 1)|((with_reducible refine gate_callee (f:=114) rfl ?_);refine goesL_ (some 6) rfl rfl Tryd.func114 (by kernel_rfl) rfl #[.int .i64 a0_0,.func (.func 195) #[] #[.pointer (some ⟨gb292,0,none⟩)]] rfl au_ ?_;(with_reducible refine (impl_relation.calls k a0_0 (fun x0_ x1_=>impl_Order_mirror_1.f x0_ x1_ a0_0 l0_1) t294 t295 _ _ _ ?side1 ?side2 A2.out).mono ?_);(case side1=>exact fun a_ w_=>enters_of Tryd.func195 (by kernel_rfl) rfl a_ w_);(case side2=>(intro W_ x0_ x1_ r_ hB_ h_;refine Calls.mono (impl_Order_mirror_1.calls x0_ x1_ gb292 a0_0 _ _ l0_1 r_ W_ (blk_below (g:=gb292) (o:=.cells #[.int .i64 a0_0,.slice A0_1 l0_1.length c0_1] 28 (0,0)) (bl_ BK292) hB_) (Kd.C_below (by exact cl_ (Kd.C_below HR0_1.out HB.out)) hB_) (by exact HC0_1.out) h_) ?_;rintro e_ w_ ⟨h1_,h2_⟩;exact ⟨h1_,h2_⟩));rintro e w7 ⟨v296,rfl,ho0,hb⟩;refine ⟨_,rfl,?_⟩;have HO297:=A_ (Kd.R_lower ho0 (below_size bb_));replace BK292:=bz BK292 hb;replace BK293:=bz BK293 hb;replace HB:=A_ (below_step bb_ hb);(try clear hb);(try clear hb2);(try clear hk);(try clear hi);(try clear ho0);have hcz8_0 : w7.cell? ⟨gb293,0,none⟩ = some (.int .i64 0):=blk_cell BK293.out 0;have hcz8_1 : w7.cell? ⟨gb293,1,none⟩ = some (.slice none 0 0):=blk_cell BK293.out 1;have hfz8_0:=blk_frozen BK293.out 0;have hfz8_1:=blk_frozen BK293.out 1;obtain ⟨Ao9,co9,eo9⟩:=Kd.R_slice HO297.out;subst eo9))
 refine bodyPost_ret (results_cell_row rfl _ _ gb293 28 #[.int .i64 t294,.slice Ao9 t295.length co9] (0,0) _ rfl (by (with_reducible repeat (first|refine blk_drewN ?_ _|refine blk_drew ?_|refine blk_alloc ?_ _));refine blk_put (cs:=#[.int .i64 t294,.slice none 0 0]) ?_ 1 _ rfl;(with_reducible repeat (first|refine blk_drewN ?_ _|refine blk_drew ?_|refine blk_alloc ?_ _));refine blk_put (cs:=#[.int .i64 0,.slice none 0 0]) ?_ 0 _ rfl;(with_reducible repeat (first|refine blk_drewN ?_ _|refine blk_drew ?_|refine blk_alloc ?_ _));exact BK293.out) Tryd.underlying28 rfl (by kernel_rfl)) rfl ?_
 exact ⟨_,by first|rfl|(simp [errW_none,errW_some] <;> rfl)|(simp [*,errW_none,errW_some] <;> rfl),by (with_reducible repeat (first|apply Kd.R_alloc|apply Kd.R_drewN|apply Kd.R_drew));exact Kd.R_mono (Kd.R_far (p:=⟨gb293,1,none⟩) (Kd.R_far (p:=⟨gb293,0,none⟩) (Kd.R_types HO297.out BK293.out (by decide)) (fun _ hk=>hk.2) (.int .i64 t294)) (fun _ hk=>hk.2) (.slice Ao9 t295.length co9)) (fun _ hk=>trivial),bb_⟩
def impl_within.f (a0 : Int) (a1 : Int) (a2 : Int) : Option (Bool) := if a0 ≥ a1 then (some (decide (a0 ≤ a2))) else (some false)
set_option maxHeartbeats 8000000 in
set_option maxRecDepth 100000 in
theorem impl_within.calls (a0 : Int) (a1 : Int) (a2 : Int) (r : Bool) (w : World) (h : impl_within.f a0 a1 a2 = some r) :
 Calls Tryd.prog 121 #[.int .i64 a0,.int .i64 a1,.int .i64 a2] w fun e w'=>e = .returned (.bool r) ∧ Drawn0 w w':=by
 have H : (if a0 ≥ a1 then (some (decide (a0 ≤ a2))) else (some false)) = some r:=h;clear h;by_cases c4 : a0 ≥ a1
 ·rw [if_pos c4] at H;have c4b0 : decide (a1 ≤ a0) = true:=decide_eq_true c4;clear c4;obtain rfl:=Option.some.inj H;go_enter Tryd.func121,Tryd.ntmps121
  go_wp2
  go_ret
  exact ⟨by first|rfl|(simp;done)|(simp [*];done),by repeat (first|exact Drawn0.refl _|apply Drawn0.step)⟩
 ·rw [if_neg c4] at H;have c4b0 : decide (a1 ≤ a0) = false:=decide_eq_false c4;clear c4;obtain rfl:=Option.some.inj H;go_enter Tryd.func121,Tryd.ntmps121
  go_wp2
  go_ret
  exact ⟨by first|rfl|(simp;done)|(simp [*];done),by repeat (first|exact Drawn0.refl _|apply Drawn0.step)⟩
def impl_allWithin.l0 : Nat → Int → Int → List Int → Int → Int → Option (Bool)
 | 0,_,_,_,_,_=>none
 | k + 1,x1,x2,x9,x10,x11=>if x11 < x10 then (if 0 ≤ x11 then (if x11 < (x9.length : Int) then ((impl_within.f (rd x9 x11) x1 x2).bind fun t254=>(if t254 = true then (impl_allWithin.l0 k x1 x2 x9 x10 (wrap64 (x11 + 1))) else (some false))) else (none)) else (none)) else (some true)
def impl_allWithin.f (k : Nat) (l0 : List Int) (a1 : Int) (a2 : Int) : Option (Bool) := impl_allWithin.l0 k a1 a2 l0 (l0.length : Int) 0
set_option maxHeartbeats 8000000 in
set_option maxRecDepth 100000 in
theorem impl_allWithin.calls (k : Nat) (A0 : Option Addr) (c0 : Nat) (l0 : List Int) (a1 : Int) (a2 : Int) (r : Bool) (w : World) (hr0 : Kd.C (Kd.int .i64) w A0 l0.length l0) (hc0 : l0.length ≤ c0) (h : impl_allWithin.f k l0 a1 a2 = some r) :
 Calls Tryd.prog 199 #[.slice A0 l0.length c0,.int .i64 a1,.int .i64 a2] w fun e w'=>e = .returned (.bool r) ∧ Drawn0 w w':=by
 have HR0:=A_ hr0;have HC0:=A_ hc0;clear hr0 hc0;have H : (impl_allWithin.l0 k a1 a2 l0 (l0.length : Int) 0) = some r:=h;clear h;have H':=A_ H;clear H;go_enter Tryd.func199,Tryd.ntmps199
 go_wp2
 go_loopg [11] k (fun kq v11 w'=>∃ (x11_1 : Int),v11 = .int .i64 x11_1 ∧ Aside0 (impl_allWithin.l0 kq a1 a2 l0 (l0.length : Int) x11_1 = some r) ∧ Aside0 (kq ≤ k) ∧ Drawn0 w w')
 case atStart=>exact ⟨(0),(by first|rfl|(simp;done)|(simp [*];done)),H',⟨Nat.le_refl _⟩,by repeat (first|exact Drawn0.refl _|apply Drawn0.step)⟩
 case round =>
  clear H';try clear c1
  try clear p2
  obtain ⟨x11_1,rfl,HA,HK1,⟨m1,rfl⟩⟩:=hrel;cases gk with
  | zero => exact absurd HA.out (by simp [impl_allWithin.l0])
  | succ k1 =>
   have H:=HA.out;clear HA;simp only [impl_allWithin.l0] at H
   by_cases c4 : x11_1 < (l0.length : Int)
   ·rw [if_pos c4] at H;have c4b0 : decide (x11_1 < (l0.length : Int)) = true:=decide_eq_true c4;clear c4;by_cases c5 : 0 ≤ x11_1
    ·rw [if_pos c5] at H;have c5b0 : decide (0 ≤ x11_1) = true:=decide_eq_true c5;clear c5;by_cases c6 : x11_1 < (l0.length : Int)
     ·rw [if_pos c6] at H;have c6b0 : decide (x11_1 < (l0.length : Int)) = true:=decide_eq_true c6;clear c6;replace H:=Option.bind_eq_some_iff.mp H;obtain ⟨t254,A70,H⟩:=H;replace H : (if t254 = true then (impl_allWithin.l0 k1 a1 a2 l0 (l0.length : Int) (wrap64 (x11_1 + 1))) else (some false)) = some r:=H;have A7:=A_ A70;clear A70;by_cases c8 : t254 = true
      ·subst c8;have H1 : (impl_allWithin.l0 k1 a1 a2 l0 (l0.length : Int) (wrap64 (x11_1 + 1))) = some r:=by rw [if_pos rfl] at H;exact H
       clear H;have H:=H1;clear H1;have H':=A_ H;clear H;have p253 : 0 ≤ (x11_1 : Int):=of_decide_eq_true (by first|(with_reducible assumption)|assumption);have q253 : x11_1 < (l0.length : Int):=of_decide_eq_true (by first|(with_reducible assumption)|assumption);obtain ⟨ad253,e253,hx253_0⟩:=Kd.at_int HR0.out x11_1 p253 q253;cases e253
       replace p253:=eq_true p253;replace q253:=eq_true q253;go_wp2_with (first|((with_reducible refine gate_callee (f:=121) rfl ?_);refine goesL_ (some 18) rfl rfl Tryd.func121 (by kernel_rfl) rfl #[.int .i64 (rd l0 x11_1),.int .i64 a1,.int .i64 a2] rfl au_ ?_;(with_reducible refine (impl_within.calls (rd l0 x11_1) a1 a2 true _ A7.out).mono ?_);rintro e w' ⟨rfl,⟨nd,rfl⟩⟩;refine ⟨_,rfl,?_⟩))
       go_roundg k1
       case measure=>have:=HK1.out;omega
       case rel=>exact ⟨(wrap64 (x11_1 + 1)),(by first|rfl|(simp;done)|(simp [*];done)),H',⟨by have:=HK1.out;omega⟩,by repeat (first|exact Drawn0.refl _|apply Drawn0.step)⟩
      ·replace c8:=Bool.eq_false_iff.mpr c8;subst c8;have H1 : (some false) = some r:=by rw [if_neg (show ¬ (false = true) by decide)] at H;exact H
       clear H;have H:=H1;clear H1;obtain rfl:=Option.some.inj H;have p253 : 0 ≤ (x11_1 : Int):=of_decide_eq_true (by first|(with_reducible assumption)|assumption);have q253 : x11_1 < (l0.length : Int):=of_decide_eq_true (by first|(with_reducible assumption)|assumption);obtain ⟨ad253,e253,hx253_0⟩:=Kd.at_int HR0.out x11_1 p253 q253;cases e253
       replace p253:=eq_true p253;replace q253:=eq_true q253;go_wp2_with (first|((with_reducible refine gate_callee (f:=121) rfl ?_);refine goesL_ (some 18) rfl rfl Tryd.func121 (by kernel_rfl) rfl #[.int .i64 (rd l0 x11_1),.int .i64 a1,.int .i64 a2] rfl au_ ?_;(with_reducible refine (impl_within.calls (rd l0 x11_1) a1 a2 false _ A7.out).mono ?_);rintro e w' ⟨rfl,⟨nd,rfl⟩⟩;refine ⟨_,rfl,?_⟩))
       go_ret
       exact ⟨by first|rfl|(simp;done)|(simp [*];done),by repeat (first|exact Drawn0.refl _|apply Drawn0.step)⟩
     ·rw [if_neg c6] at H;exact absurd H (by simp)
    ·rw [if_neg c5] at H;exact absurd H (by simp)
   ·rw [if_neg c4] at H;have c4b0 : decide (x11_1 < (l0.length : Int)) = false:=decide_eq_false c4;clear c4;obtain rfl:=Option.some.inj H;go_wp2
    go_ret
    exact ⟨by first|rfl|(simp;done)|(simp [*];done),by repeat (first|exact Drawn0.refl _|apply Drawn0.step)⟩
def impl_IsRelation.f (k : Nat) (a0_0 : Int) (l0_1 : List Int) : Option (Bool) := (impl_within.f a0_0 0 10).bind fun t256 => (if t256 = true then (if (l0_1.length : Int) = a0_0 then (if 0 ≤ a0_0 then ((impl_allWithin.f k l0_1 0 (wrap64 ((shl .i64 1 a0_0) - 1))).bind fun t257 => (some t257)) else (none)) else (some false)) else (some false))
set_option maxHeartbeats 8000000 in
set_option maxRecDepth 100000 in
theorem impl_IsRelation.calls (k : Nat) (a0_0 : Int) (A0_1 : Option Addr) (c0_1 : Nat) (l0_1 : List Int) (r : Bool) (w : World) (hr0_1 : Kd.C (Kd.int .i64) w A0_1 l0_1.length l0_1) (hc0_1 : l0_1.length ≤ c0_1) (h : impl_IsRelation.f k a0_0 l0_1 = some r) :
 Calls Tryd.prog 122 #[.agg #[.int .i64 a0_0,.slice A0_1 l0_1.length c0_1]] w fun e w'=>e = .returned (.bool r) ∧ Below w.heap.size w w':=by
 have hu28:=Tryd.underlying28;have HR0_1:=A_ hr0_1;have HC0_1:=A_ hc0_1;clear hr0_1 hc0_1;have HB:=A_ (Below.refl w.heap.size w);have H : ((impl_within.f a0_0 0 10).bind fun t256=>(if t256 = true then (if (l0_1.length : Int) = a0_0 then (if 0 ≤ a0_0 then ((impl_allWithin.f k l0_1 0 (wrap64 ((shl .i64 1 a0_0) - 1))).bind fun t257=>(some t257)) else (none)) else (some false)) else (some false))) = some r:=h;clear h;replace H:=Option.bind_eq_some_iff.mp H;obtain ⟨t256,A20,H⟩:=H;replace H : (if t256 = true then (if (l0_1.length : Int) = a0_0 then (if 0 ≤ a0_0 then ((impl_allWithin.f k l0_1 0 (wrap64 ((shl .i64 1 a0_0) - 1))).bind fun t257=>(some t257)) else (none)) else (some false)) else (some false)) = some r:=H;have A2:=A_ A20;clear A20;by_cases c3 : t256 = true
 ·subst c3;have H1 : (if (l0_1.length : Int) = a0_0 then (if 0 ≤ a0_0 then ((impl_allWithin.f k l0_1 0 (wrap64 ((shl .i64 1 a0_0) - 1))).bind fun t257=>(some t257)) else (none)) else (some false)) = some r:=by rw [if_pos rfl] at H;exact H
  clear H;have H:=H1;clear H1;by_cases c4 : (l0_1.length : Int) = a0_0
  ·rw [if_pos c4] at H;have c4b0 : ((l0_1.length : Int) == a0_0) = true:=beq_iff_eq.mpr c4;have c4b1 : ((l0_1.length : Int) != a0_0) = false:=bne_eq_false_iff_eq.mpr c4;clear c4;by_cases c5 : 0 ≤ a0_0
   ·rw [if_pos c5] at H;have c5b0:=eq_true c5;have c5b1 : decide (0 ≤ a0_0) = true:=decide_eq_true c5;clear c5;obtain ⟨ji6,hji6⟩ : ∃ j_ : Int,(shl .i64 1 a0_0) = j_:=⟨_,rfl⟩;replace H : ((impl_allWithin.f k l0_1 0 (wrap64 ((ji6) - 1))).bind fun t257=>(some t257)) = some r:=by first|(rw [hji6] at H;exact H)|(simp only [hji6] at H ⊢;exact H)
    (try rw [hji6] at A2);have hji6_ : (IntKind.i64.wrap (1 * 2 ^ min a0_0.toNat 64)) = ji6:=hji6;have hji6z : a0_0 ≤ 64 → (IntKind.i64.wrap (1 * 2 ^ a0_0.toNat)) = ji6:=shl_small hji6;have hji6u : (IntKind.i64.wrap (2 ^ min a0_0.toNat 64)) = ji6:=by have h_:=hji6_;rw [Int.one_mul] at h_;exact h_
    have hji6v : a0_0 ≤ 64 → (IntKind.i64.wrap (2 ^ a0_0.toNat)) = ji6:=fun hle_=>by have h_:=hji6z hle_;rw [Int.one_mul] at h_;exact h_
    have hji6y : (wrap64 (1 * 2 ^ min a0_0.toNat 64)) = ji6:=(i64_w _).symm.trans hji6_;have hji6x : a0_0 ≤ 64 → (wrap64 (1 * 2 ^ a0_0.toNat)) = ji6:=fun h_=>(i64_w _).symm.trans (hji6z h_)
    replace H:=Option.bind_eq_some_iff.mp H;obtain ⟨t257,A70,H⟩:=H;replace H : (some t257) = some r:=H;have A7:=A_ A70;clear A70;obtain rfl:=Option.some.inj H;go_enter Tryd.func122,Tryd.ntmps122
    go_wp2_with (first|((with_reducible refine gate_dst (N:=1) rfl ?_);(try (refine gate_guard (by rfl) ?_;dsimp only));refine box_event ?hg (N:=1) ?hd (cs:=#[.int .i64 a0_0,.slice A0_1 l0_1.length c0_1]) (t:=28) ?hr ?_;(case hd=>rfl);(case hg=>rfl);(case hr=>first|(go_simp;done)|(go_simp;rfl));intro gb255 hg w8 hbox hb;have BK255:=A_ (hbox);have GW255:=A_ ((by rw [hg];exact (below_size bb_) : w.heap.size ≤ gb255));have GE255:=A_ ((by rw [hg];exact (below_size bb_) : w.heap.size ≤ gb255));replace HB:=A_ (below_step bb_ hb);clear hb hbox hg;have hcz9_0 : w8.cell? ⟨gb255,0,none⟩ = some (.int .i64 a0_0):=blk_cell BK255.out 0;have hcz9_1 : w8.cell? ⟨gb255,1,none⟩ = some (.slice A0_1 l0_1.length c0_1):=blk_cell BK255.out 1;have hfz9_0:=blk_frozen BK255.out 0;have hfz9_1:=blk_frozen BK255.out 1)|(go_at_call 121;(with_reducible refine (impl_within.calls a0_0 0 10 true _ A2.out).mono ?_);rintro e w' ⟨rfl,⟨nd,rfl⟩⟩;(try first|exact ⟨rfl,_,World.drewN_drewN _ _ _⟩|exact ⟨rfl,_,Eq.trans (World.drewN_drewN _ _ _) (congrArg (World.drewN _) (Nat.add_assoc _ _ _))⟩))|(go_at_call 199;(with_reducible refine (impl_allWithin.calls k _ _ l0_1 0 (wrap64 ((ji6) - 1)) t257 _ ?side1 ?side2 A7.out).mono ?_);(case side1=>exact cl_ (Kd.C_below HR0_1.out bb_));(case side2=>exact HC0_1.out);rintro e w' ⟨rfl,⟨nd,rfl⟩⟩;(try first|exact ⟨rfl,_,World.drewN_drewN _ _ _⟩|exact ⟨rfl,_,Eq.trans (World.drewN_drewN _ _ _) (congrArg (World.drewN _) (Nat.add_assoc _ _ _))⟩)))
    repeat (go_quiet (first|((with_reducible refine gate_dst (N:=1) rfl ?_);(try (refine gate_guard (by rfl) ?_;dsimp only));refine box_event ?hg (N:=1) ?hd (cs:=#[.int .i64 a0_0,.slice A0_1 l0_1.length c0_1]) (t:=28) ?hr ?_;(case hd=>rfl);(case hg=>rfl);(case hr=>first|(go_simp;done)|(go_simp;rfl));intro gb255 hg w8 hbox hb;have BK255:=A_ (hbox);have GW255:=A_ ((by rw [hg];exact (below_size bb_) : w.heap.size ≤ gb255));have GE255:=A_ ((by rw [hg];exact (below_size bb_) : w.heap.size ≤ gb255));replace HB:=A_ (below_step bb_ hb);clear hb hbox hg;have hcz9_0 : w8.cell? ⟨gb255,0,none⟩ = some (.int .i64 a0_0):=blk_cell BK255.out 0;have hcz9_1 : w8.cell? ⟨gb255,1,none⟩ = some (.slice A0_1 l0_1.length c0_1):=blk_cell BK255.out 1;have hfz9_0:=blk_frozen BK255.out 0;have hfz9_1:=blk_frozen BK255.out 1)|(go_at_call 121;(with_reducible refine (impl_within.calls a0_0 0 10 true _ A2.out).mono ?_);rintro e w' ⟨rfl,⟨nd,rfl⟩⟩;(try first|exact ⟨rfl,_,World.drewN_drewN _ _ _⟩|exact ⟨rfl,_,Eq.trans (World.drewN_drewN _ _ _) (congrArg (World.drewN _) (Nat.add_assoc _ _ _))⟩))|(go_at_call 199;(with_reducible refine (impl_allWithin.calls k _ _ l0_1 0 (wrap64 ((ji6) - 1)) t257 _ ?side1 ?side2 A7.out).mono ?_);(case side1=>exact cl_ (Kd.C_below HR0_1.out bb_));(case side2=>exact HC0_1.out);rintro e w' ⟨rfl,⟨nd,rfl⟩⟩;(try first|exact ⟨rfl,_,World.drewN_drewN _ _ _⟩|exact ⟨rfl,_,Eq.trans (World.drewN_drewN _ _ _) (congrArg (World.drewN _) (Nat.add_assoc _ _ _))⟩)));try go_wp2_with (first|((with_reducible refine gate_dst (N:=1) rfl ?_);(try (refine gate_guard (by rfl) ?_;dsimp only));refine box_event ?hg (N:=1) ?hd (cs:=#[.int .i64 a0_0,.slice A0_1 l0_1.length c0_1]) (t:=28) ?hr ?_;(case hd=>rfl);(case hg=>rfl);(case hr=>first|(go_simp;done)|(go_simp;rfl));intro gb255 hg w8 hbox hb;have BK255:=A_ (hbox);have GW255:=A_ ((by rw [hg];exact (below_size bb_) : w.heap.size ≤ gb255));have GE255:=A_ ((by rw [hg];exact (below_size bb_) : w.heap.size ≤ gb255));replace HB:=A_ (below_step bb_ hb);clear hb hbox hg;have hcz9_0 : w8.cell? ⟨gb255,0,none⟩ = some (.int .i64 a0_0):=blk_cell BK255.out 0;have hcz9_1 : w8.cell? ⟨gb255,1,none⟩ = some (.slice A0_1 l0_1.length c0_1):=blk_cell BK255.out 1;have hfz9_0:=blk_frozen BK255.out 0;have hfz9_1:=blk_frozen BK255.out 1)|(go_at_call 121;(with_reducible refine (impl_within.calls a0_0 0 10 true _ A2.out).mono ?_);rintro e w' ⟨rfl,⟨nd,rfl⟩⟩;(try first|exact ⟨rfl,_,World.drewN_drewN _ _ _⟩|exact ⟨rfl,_,Eq.trans (World.drewN_drewN _ _ _) (congrArg (World.drewN _) (Nat.add_assoc _ _ _))⟩))|(go_at_call 199;(with_reducible refine (impl_allWithin.calls k _ _ l0_1 0 (wrap64 ((ji6) - 1)) t257 _ ?side1 ?side2 A7.out).mono ?_);(case side1=>exact cl_ (Kd.C_below HR0_1.out bb_));(case side2=>exact HC0_1.out);rintro e w' ⟨rfl,⟨nd,rfl⟩⟩;(try first|exact ⟨rfl,_,World.drewN_drewN _ _ _⟩|exact ⟨rfl,_,Eq.trans (World.drewN_drewN _ _ _) (congrArg (World.drewN _) (Nat.add_assoc _ _ _))⟩))))
    go_ret
    exact ⟨by first|rfl|(simp [errW_none,errW_some] <;> rfl)|(simp only [← hji6];first|rfl|(simp [errW_none,errW_some] <;> rfl))|(simp [*,errW_none,errW_some] <;> rfl),bb_⟩
   ·rw [if_neg c5] at H;exact absurd H (by simp)
  ·rw [if_neg c4] at H;have c4b0 : ((l0_1.length : Int) == a0_0) = false:=beq_eq_false_iff_ne.mpr c4;have c4b1 : ((l0_1.length : Int) != a0_0) = true:=bne_iff_ne.mpr c4;obtain rfl:=Option.some.inj H;go_enter Tryd.func122,Tryd.ntmps122
   go_wp2_with (first|((with_reducible refine gate_dst (N:=1) rfl ?_);(try (refine gate_guard (by rfl) ?_;dsimp only));refine box_event ?hg (N:=1) ?hd (cs:=#[.int .i64 a0_0,.slice A0_1 l0_1.length c0_1]) (t:=28) ?hr ?_;(case hd=>rfl);(case hg=>rfl);(case hr=>first|(go_simp;done)|(go_simp;rfl));intro gb255 hg w10 hbox hb;have BK255:=A_ (hbox);have GW255:=A_ ((by rw [hg];exact (below_size bb_) : w.heap.size ≤ gb255));have GE255:=A_ ((by rw [hg];exact (below_size bb_) : w.heap.size ≤ gb255));replace HB:=A_ (below_step bb_ hb);clear hb hbox hg;have hcz11_0 : w10.cell? ⟨gb255,0,none⟩ = some (.int .i64 a0_0):=blk_cell BK255.out 0;have hcz11_1 : w10.cell? ⟨gb255,1,none⟩ = some (.slice A0_1 l0_1.length c0_1):=blk_cell BK255.out 1;have hfz11_0:=blk_frozen BK255.out 0;have hfz11_1:=blk_frozen BK255.out 1)|(go_at_call 121;(with_reducible refine (impl_within.calls a0_0 0 10 true _ A2.out).mono ?_);rintro e w' ⟨rfl,⟨nd,rfl⟩⟩;(try first|exact ⟨rfl,_,World.drewN_drewN _ _ _⟩|exact ⟨rfl,_,Eq.trans (World.drewN_drewN _ _ _) (congrArg (World.drewN _) (Nat.add_assoc _ _ _))⟩)))
   repeat (go_quiet (first|((with_reducible refine gate_dst (N:=1) rfl ?_);(try (refine gate_guard (by rfl) ?_;dsimp only));refine box_event ?hg (N:=1) ?hd (cs:=#[.int .i64 a0_0,.slice A0_1 l0_1.length c0_1]) (t:=28) ?hr ?_;(case hd=>rfl);(case hg=>rfl);(case hr=>first|(go_simp;done)|(go_simp;rfl));intro gb255 hg w10 hbox hb;have BK255:=A_ (hbox);have GW255:=A_ ((by rw [hg];exact (below_size bb_) : w.heap.size ≤ gb255));have GE255:=A_ ((by rw [hg];exact (below_size bb_) : w.heap.size ≤ gb255));replace HB:=A_ (below_step bb_ hb);clear hb hbox hg;have hcz11_0 : w10.cell? ⟨gb255,0,none⟩ = some (.int .i64 a0_0):=blk_cell BK255.out 0;have hcz11_1 : w10.cell? ⟨gb255,1,none⟩ = some (.slice A0_1 l0_1.length c0_1):=blk_cell BK255.out 1;have hfz11_0:=blk_frozen BK255.out 0;have hfz11_1:=blk_frozen BK255.out 1)|(go_at_call 121;(with_reducible refine (impl_within.calls a0_0 0 10 true _ A2.out).mono ?_);rintro e w' ⟨rfl,⟨nd,rfl⟩⟩;(try first|exact ⟨rfl,_,World.drewN_drewN _ _ _⟩|exact ⟨rfl,_,Eq.trans (World.drewN_drewN _ _ _) (congrArg (World.drewN _) (Nat.add_assoc _ _ _))⟩)));try go_wp2_with (first|((with_reducible refine gate_dst (N:=1) rfl ?_);(try (refine gate_guard (by rfl) ?_;dsimp only));refine box_event ?hg (N:=1) ?hd (cs:=#[.int .i64 a0_0,.slice A0_1 l0_1.length c0_1]) (t:=28) ?hr ?_;(case hd=>rfl);(case hg=>rfl);(case hr=>first|(go_simp;done)|(go_simp;rfl));intro gb255 hg w10 hbox hb;have BK255:=A_ (hbox);have GW255:=A_ ((by rw [hg];exact (below_size bb_) : w.heap.size ≤ gb255));have GE255:=A_ ((by rw [hg];exact (below_size bb_) : w.heap.size ≤ gb255));replace HB:=A_ (below_step bb_ hb);clear hb hbox hg;have hcz11_0 : w10.cell? ⟨gb255,0,none⟩ = some (.int .i64 a0_0):=blk_cell BK255.out 0;have hcz11_1 : w10.cell? ⟨gb255,1,none⟩ = some (.slice A0_1 l0_1.length c0_1):=blk_cell BK255.out 1;have hfz11_0:=blk_frozen BK255.out 0;have hfz11_1:=blk_frozen BK255.out 1)|(go_at_call 121;(with_reducible refine (impl_within.calls a0_0 0 10 true _ A2.out).mono ?_);rintro e w' ⟨rfl,⟨nd,rfl⟩⟩;(try first|exact ⟨rfl,_,World.drewN_drewN _ _ _⟩|exact ⟨rfl,_,Eq.trans (World.drewN_drewN _ _ _) (congrArg (World.drewN _) (Nat.add_assoc _ _ _))⟩))))
   go_ret
   exact ⟨by first|rfl|(simp [errW_none,errW_some] <;> rfl)|(simp [*,errW_none,errW_some] <;> rfl),bb_⟩
 ·replace c3:=Bool.eq_false_iff.mpr c3;subst c3;have H1 : (some false) = some r:=by rw [if_neg (show ¬ (false = true) by decide)] at H;exact H
  clear H;have H:=H1;clear H1;obtain rfl:=Option.some.inj H;go_enter Tryd.func122,Tryd.ntmps122
  go_wp2_with (first|((with_reducible refine gate_dst (N:=1) rfl ?_);(try (refine gate_guard (by rfl) ?_;dsimp only));refine box_event ?hg (N:=1) ?hd (cs:=#[.int .i64 a0_0,.slice A0_1 l0_1.length c0_1]) (t:=28) ?hr ?_;(case hd=>rfl);(case hg=>rfl);(case hr=>first|(go_simp;done)|(go_simp;rfl));intro gb255 hg w12 hbox hb;have BK255:=A_ (hbox);have GW255:=A_ ((by rw [hg];exact (below_size bb_) : w.heap.size ≤ gb255));have GE255:=A_ ((by rw [hg];exact (below_size bb_) : w.heap.size ≤ gb255));replace HB:=A_ (below_step bb_ hb);clear hb hbox hg;have hcz13_0 : w12.cell? ⟨gb255,0,none⟩ = some (.int .i64 a0_0):=blk_cell BK255.out 0;have hcz13_1 : w12.cell? ⟨gb255,1,none⟩ = some (.slice A0_1 l0_1.length c0_1):=blk_cell BK255.out 1;have hfz13_0:=blk_frozen BK255.out 0;have hfz13_1:=blk_frozen BK255.out 1)|(go_at_call 121;(with_reducible refine (impl_within.calls a0_0 0 10 false _ A2.out).mono ?_);rintro e w' ⟨rfl,⟨nd,rfl⟩⟩;(try first|exact ⟨rfl,_,World.drewN_drewN _ _ _⟩|exact ⟨rfl,_,Eq.trans (World.drewN_drewN _ _ _) (congrArg (World.drewN _) (Nat.add_assoc _ _ _))⟩)))
  repeat (go_quiet (first|((with_reducible refine gate_dst (N:=1) rfl ?_);(try (refine gate_guard (by rfl) ?_;dsimp only));refine box_event ?hg (N:=1) ?hd (cs:=#[.int .i64 a0_0,.slice A0_1 l0_1.length c0_1]) (t:=28) ?hr ?_;(case hd=>rfl);(case hg=>rfl);(case hr=>first|(go_simp;done)|(go_simp;rfl));intro gb255 hg w12 hbox hb;have BK255:=A_ (hbox);have GW255:=A_ ((by rw [hg];exact (below_size bb_) : w.heap.size ≤ gb255));have GE255:=A_ ((by rw [hg];exact (below_size bb_) : w.heap.size ≤ gb255));replace HB:=A_ (below_step bb_ hb);clear hb hbox hg;have hcz13_0 : w12.cell? ⟨gb255,0,none⟩ = some (.int .i64 a0_0):=blk_cell BK255.out 0;have hcz13_1 : w12.cell? ⟨gb255,1,none⟩ = some (.slice A0_1 l0_1.length c0_1):=blk_cell BK255.out 1;have hfz13_0:=blk_frozen BK255.out 0;have hfz13_1:=blk_frozen BK255.out 1)|(go_at_call 121;(with_reducible refine (impl_within.calls a0_0 0 10 false _ A2.out).mono ?_);rintro e w' ⟨rfl,⟨nd,rfl⟩⟩;(try first|exact ⟨rfl,_,World.drewN_drewN _ _ _⟩|exact ⟨rfl,_,Eq.trans (World.drewN_drewN _ _ _) (congrArg (World.drewN _) (Nat.add_assoc _ _ _))⟩)));try go_wp2_with (first|((with_reducible refine gate_dst (N:=1) rfl ?_);(try (refine gate_guard (by rfl) ?_;dsimp only));refine box_event ?hg (N:=1) ?hd (cs:=#[.int .i64 a0_0,.slice A0_1 l0_1.length c0_1]) (t:=28) ?hr ?_;(case hd=>rfl);(case hg=>rfl);(case hr=>first|(go_simp;done)|(go_simp;rfl));intro gb255 hg w12 hbox hb;have BK255:=A_ (hbox);have GW255:=A_ ((by rw [hg];exact (below_size bb_) : w.heap.size ≤ gb255));have GE255:=A_ ((by rw [hg];exact (below_size bb_) : w.heap.size ≤ gb255));replace HB:=A_ (below_step bb_ hb);clear hb hbox hg;have hcz13_0 : w12.cell? ⟨gb255,0,none⟩ = some (.int .i64 a0_0):=blk_cell BK255.out 0;have hcz13_1 : w12.cell? ⟨gb255,1,none⟩ = some (.slice A0_1 l0_1.length c0_1):=blk_cell BK255.out 1;have hfz13_0:=blk_frozen BK255.out 0;have hfz13_1:=blk_frozen BK255.out 1)|(go_at_call 121;(with_reducible refine (impl_within.calls a0_0 0 10 false _ A2.out).mono ?_);rintro e w' ⟨rfl,⟨nd,rfl⟩⟩;(try first|exact ⟨rfl,_,World.drewN_drewN _ _ _⟩|exact ⟨rfl,_,Eq.trans (World.drewN_drewN _ _ _) (congrArg (World.drewN _) (Nat.add_assoc _ _ _))⟩))))
  go_ret
  exact ⟨by first|rfl|(simp [errW_none,errW_some] <;> rfl)|(simp [*,errW_none,errW_some] <;> rfl),bb_⟩
def bits_TrailingZeros64.f (a0 : Int) : Option Int := if 0 ≤ a0 ∧ a0 < 18446744073709551616 then some ((Lib.ctz 64 a0.toNat : Nat) : Int) else none
set_option maxHeartbeats 1000000 in
theorem tz64_core (x k idx : Nat) (w : World) (hx0 : ((x : Int) == 0) = false)
 (key : IntKind.u64.wrap (bits BinOp.and IntKind.u64 (x : Int) (IntKind.u64.wrap (-(x : Int))) * 285870213051353865) / 288230376151711744 = (idx : Int))
 (hi : idx < 64) (hk : k < 64) (hcell : w.cell? ⟨1,idx,none⟩ = some (.int .u8 k)) :
 Calls Tryd.prog 238 #[.int .u64 x] w fun e w'=>e = .returned (.int .i64 k) ∧ w = w':=by
 go_enter Tryd.func238,Tryd.ntmps238
 go_wp2_with (simp only [key])
 go_ret
 exact ⟨rfl,rfl⟩
theorem tz64_zero (w : World) :
 Calls Tryd.prog 238 #[.int .u64 0] w fun e w'=>e = .returned (.int .i64 64) ∧ w = w':=by
 go_enter Tryd.func238,Tryd.ntmps238
 go_wp2
 go_ret
 exact ⟨rfl,rfl⟩
theorem bits_TrailingZeros64.calls (a0 : Int) (r : Int) (w : World) (hT : TabOK w) (h : bits_TrailingZeros64.f a0 = some r) :
 Calls Tryd.prog 238 #[.int .u64 a0] w fun e w'=>e = .returned (.int .i64 r) ∧ Drawn0 w w':=by
 unfold bits_TrailingZeros64.f at h
 split at h
 ·rename_i hb
  obtain ⟨x,rfl⟩:=Int.eq_ofNat_of_zero_le hb.1;injection h with h;subst h;rw [Int.toNat_natCast];by_cases hx0 : x = 0
  ·subst hx0;refine (tz64_zero w).mono ?_
   rintro e w' ⟨rfl,rfl⟩
   exact ⟨rfl,Drawn0.refl _⟩
  ·obtain ⟨hlow,hk⟩:=Lib.lowest_bit 64 x hx0 (by omega);obtain ⟨hi,htab⟩:=Lib.deBruijn64_at _ hk;have hcell:=hT _ hi;rw [htab] at hcell;refine (tz64_core x _ _ w (by simp;omega) (tz64_key x _ (by omega) hx0 hlow) hi hk hcell).mono ?_
   rintro e w' ⟨rfl,rfl⟩
   exact ⟨rfl,Drawn0.refl _⟩
 ·cases h
def bits_TrailingZeros.f (a0 : Int) : Option (Int) := (bits_TrailingZeros64.f a0).bind fun t258 => (some t258)
set_option maxHeartbeats 8000000 in
set_option maxRecDepth 100000 in
theorem bits_TrailingZeros.calls (a0 : Int) (r : Int) (w : World) (hT : TabOK w) (h : bits_TrailingZeros.f a0 = some r) :
 Calls Tryd.prog 200 #[.int .u64 a0] w fun e w'=>e = .returned (.int .i64 r) ∧ Drawn0 w w':=by
 have HT:=A_ hT;clear hT;have H : ((bits_TrailingZeros64.f a0).bind fun t258=>(some t258)) = some r:=h;clear h;replace H:=Option.bind_eq_some_iff.mp H;obtain ⟨t258,A20,H⟩:=H;replace H : (some t258) = some r:=H;have A2:=A_ A20;clear A20;obtain rfl:=Option.some.inj H;go_enter Tryd.func200,Tryd.ntmps200
 go_wp2_with (first|((with_reducible refine gate_callee (f:=238) rfl ?_);refine goesL_ (some 7) rfl rfl Tryd.func238 (by kernel_rfl) rfl #[.int .u64 a0] rfl au_ ?_;(with_reducible refine (bits_TrailingZeros64.calls a0 t258 _ ?side1 A2.out).mono ?_);(case side1=>first|exact HT.out|(repeat (first|exact HT.out|apply TabOK.drewN|apply TabOK.drew|apply TabOK.alloc)));rintro e w' ⟨rfl,⟨nd,rfl⟩⟩;refine ⟨_,rfl,?_⟩))
 go_ret
 exact ⟨by first|rfl|(simp;done)|(simp [*];done),by repeat (first|exact Drawn0.refl _|apply Drawn0.step)⟩
def impl_members.l0 : Nat → Int → List Int → Option (List Int)
 | 0,_,_=>none
 | k + 1,x0,x3=>if x0 = 0 then (some x3) else ((bits_TrailingZeros.f (IntKind.u64.wrap (x0))).bind fun t262=>(if x3.length < 17592186044416 then (impl_members.l0 k (Go.bits .and .i64 x0 (wrap64 (x0 - 1))) (x3 ++ [t262])) else (none)))
def impl_members.f (k : Nat) (a0 : Int) : Option (List Int) := impl_members.l0 k a0 (([] : List Int))
set_option maxHeartbeats 8000000 in
set_option maxRecDepth 100000 in
theorem impl_members.calls (k : Nat) (a0 : Int) (r : List Int) (w : World) (hT : TabOK w) (h : impl_members.f k a0 = some r) :
 Calls Tryd.prog 124 #[.int .i64 a0] w fun e w'=>∃ v0_ : Value,e = .returned (v0_) ∧ Kd.R (Kd.int .i64) 3 w' w.heap.size (fun _=>True) v0_ r ∧ Below w.heap.size w w':=by
 have HT:=A_ hT;clear hT;have HB:=A_ (Below.refl w.heap.size w);have H : (impl_members.l0 k a0 (([] : List Int))) = some r:=h;clear h;obtain ⟨y259,hy259⟩ : ∃ y_ : List Int,y_ = (([] : List Int)):=⟨_,rfl⟩;replace H : (impl_members.l0 k a0 y259) = some r:=by first|(rw [hy259];with_reducible exact H)|(have H2_:=(Option.bind_some _ _).symm.trans H;rw [hy259];with_reducible exact H2_)|(have H2_:=(Option.bind_some _ _).symm.trans H;with_reducible exact H2_)|with_reducible exact H|(rw [hy259];exact H)|exact H
 have Ny259:=A_ hy259;clear hy259;have H':=A_ H;clear H;go_enter Tryd.func124,Tryd.ntmps124
 go_wp2_with (first|((with_reducible refine gate_dst (N:=4) rfl ?_);refine Kd.R_lit (Kd.int .i64) _ 3 ?hg (N:=4) ?hd (xs:=([] : List Int)) (inner:=[]) (ok:=fun _=>True) (okp:=fun _=>True) ?hr ?hp (fun _ hk=>hk) trivial (Below.refl _ _) (Nat.le_refl _) (by simp) ?_;(case hd=>rfl);(case hg=>rfl);(case hr=>first|(go_simp;done)|(go_simp;rfl));(case hp=>exact (Reps.none _ _));intro v260 w2 ho3 hb hg_ hnew_;clear hg_ hnew_;(first|rw [← Ny259.out] at ho3|(simp only [Int.reduceToNat] at ho3;rw [← Ny259.out] at ho3));have HO261:=A_ (Kd.R_lower ho3 (below_size bb_));replace HB:=A_ (below_step bb_ hb);clear hb ho3))
 go_loopg [0,3] k (fun kq v0 v3 w'=>∃ (x0_1 : Int) (x3_1 : List Int),v0 = .int .i64 x0_1 ∧ Aside0 (impl_members.l0 kq x0_1 x3_1 = some r) ∧ Aside0 (kq ≤ k) ∧ Aside0 (Kd.R (Kd.int .i64) 3 w' w.heap.size (fun _=>True) v3 x3_1) ∧ Aside0 (Below w.heap.size w w'))
 case atStart=>exact ⟨(a0),(y259),(by first|rfl|(simp;done)|(simp [*];done)),H',⟨Nat.le_refl _⟩,⟨by (with_reducible repeat (first|apply Kd.R_alloc|apply Kd.R_drewN|apply Kd.R_drew));exact HO261.out⟩,⟨bb_⟩⟩
 case round =>
  clear H';try clear c1
  try clear p2
  obtain ⟨x0_1,x3_1,rfl,HA,HK1,HO_3,HB⟩:=hrel;cases gk with
  | zero => exact absurd HA.out (by simp [impl_members.l0])
  | succ k1 =>
   have H:=HA.out;clear HA;simp only [impl_members.l0] at H
   by_cases c4 : x0_1 = 0
   ·rw [if_pos c4] at H;have c4b0 : (x0_1 == 0) = true:=beq_iff_eq.mpr c4;have c4b1 : (x0_1 != 0) = false:=bne_eq_false_iff_eq.mpr c4;clear c4;obtain rfl:=Option.some.inj H;go_wp2
    go_ret
    exact ⟨_,by first|rfl|(simp [errW_none,errW_some] <;> rfl)|(simp [*,errW_none,errW_some] <;> rfl),by (with_reducible repeat (first|apply Kd.R_alloc|apply Kd.R_drewN|apply Kd.R_drew));exact HO_3.out,bb_⟩
   ·rw [if_neg c4] at H;have c4b0 : (x0_1 == 0) = false:=beq_eq_false_iff_ne.mpr c4;have c4b1 : (x0_1 != 0) = true:=bne_iff_ne.mpr c4;replace H:=Option.bind_eq_some_iff.mp H;obtain ⟨t262,A50,H⟩:=H;replace H : (if x3_1.length < 17592186044416 then (impl_members.l0 k1 (Go.bits .and .i64 x0_1 (wrap64 (x0_1 - 1))) (x3_1 ++ [t262])) else (none)) = some r:=H;have A5:=A_ A50;clear A50;by_cases c6 : x3_1.length < 17592186044416
    ·rw [if_pos c6] at H;have LMc6:=A_ c6;clear c6;obtain ⟨y263,hy263⟩ : ∃ y_ : List Int,y_ = (x3_1 ++ [t262]):=⟨_,rfl⟩;replace H : (impl_members.l0 k1 (Go.bits .and .i64 x0_1 (wrap64 (x0_1 - 1))) y263) = some r:=by first|(rw [hy263];with_reducible exact H)|(have H2_:=(Option.bind_some _ _).symm.trans H;rw [hy263];with_reducible exact H2_)|(have H2_:=(Option.bind_some _ _).symm.trans H;with_reducible exact H2_)|with_reducible exact H|(rw [hy263];exact H)|exact H
     have Ny263:=A_ hy263;clear hy263;have H':=A_ H;clear H;go_wp2_with (first|((with_reducible refine gate_callee (f:=200) rfl ?_);refine goesL_ (some 14) rfl rfl Tryd.func200 (by kernel_rfl) rfl #[.int .u64 (IntKind.u64.wrap (x0_1))] rfl au_ ?_;(with_reducible refine (bits_TrailingZeros.calls (IntKind.u64.wrap (x0_1)) t262 _ ?side1 A5.out).mono ?_);(case side1=>first|exact HT.out|exact HT.out.below bb_|(repeat (first|exact HT.out|apply TabOK.drewN|apply TabOK.drew|apply TabOK.alloc)));rintro e w' ⟨rfl,⟨nd,rfl⟩⟩;refine ⟨_,rfl,?_⟩)|((with_reducible refine gate_builtin (b:=.append) (xs:=#[.tmp 11,.tmp 15]) rfl ?_);at_builtin;refine Kd.R_append (Kd.int .i64) (w0:=w) w.heap.size rfl (.tmp 11) (.tmp 15) 22 3 (.int .i64 0) 8 rfl Tryd.underlying22 info3 rfl (by decide) (by omega) u3 x3_1 t262 [.int .i64 t262] (fun _=>True) (fun _=>False) rfl rfl ?aP (fun _ hk=>hk.elim) ?aF ?aO ?aB ?aS ?aL ?_;(case aP=>exact rfl);(case aB=>exact bb_);(case aF=>exact (fun _ _=>trivial));(case aO=>exact (rl_ HO_3));(case aS=>exact (below_size bb_));(case aL=>have:=LMc6.out;omega);intro v264 w7 ho hb hg hat;rw [← Ny263.out] at ho;replace HB:=A_ (hb);have HO265:=A_ (ho);clear HO_3;clear ho hb hg hat))
     go_roundg k1
     case measure=>have:=HK1.out;omega
     case rel=>exact ⟨(Go.bits .and .i64 x0_1 (wrap64 (x0_1 - 1))),(y263),(by first|rfl|(simp;done)|(simp [*];done)),H',⟨by have:=HK1.out;omega⟩,⟨by (with_reducible repeat (first|apply Kd.R_alloc|apply Kd.R_drewN|apply Kd.R_drew));exact HO265.out⟩,⟨bb_⟩⟩
    ·rw [if_neg c6] at H;exact absurd H (by simp)
mutual
def impl_IsOrder.l0 : Nat → List Int → Int → Int → Int → List Int → Option (Bool)
 | 0,_,_,_,_,_=>none
 | k + 1,x11,x12,x13,x269000,x269001=>if x13 < x12 then (if 0 ≤ x13 then (if x13 < (x11.length : Int) then ((impl_Order_better.f x269000 x269001 x13 x13).bind fun t271=>(if t271 = true then (some false) else ((impl_members.f k (rd x11 x13)).bind fun t272=>(impl_IsOrder.l1 k (rd x11 x13) x11 x12 x13 t272 (t272.length : Int) 0 x269000 x269001)))) else (none)) else (none)) else (some true)
def impl_IsOrder.l1 : Nat → Int → List Int → Int → Int → List Int → Int → Int → Int → List Int → Option (Bool)
 | 0,_,_,_,_,_,_,_,_,_=>none
 | k + 1,x4,x11,x12,x13,x23,x24,x25,x269000,x269001=>if x25 < x24 then (if 0 ≤ x25 then (if x25 < (x23.length : Int) then (if 0 ≤ (rd x23 x25) then (if (rd x23 x25) < (x269001.length : Int) then (if (Go.bits .andNot .i64 (rd x269001 (rd x23 x25)) x4) = 0 then (impl_IsOrder.l1 k x4 x11 x12 x13 x23 x24 (wrap64 (x25 + 1)) x269000 x269001) else (some false)) else (none)) else (none)) else (none)) else (none)) else (impl_IsOrder.l0 k x11 x12 (wrap64 (x13 + 1)) x269000 x269001)
end
def impl_IsOrder.f (k : Nat) (a0_0 : Int) (l0_1 : List Int) : Option (Bool) := (impl_IsRelation.f k a0_0 l0_1).bind fun t269 => (if t269 = true then (impl_IsOrder.l0 k l0_1 (l0_1.length : Int) 0 a0_0 l0_1) else (some false))
set_option maxHeartbeats 8000000 in
set_option maxRecDepth 100000 in
theorem impl_IsOrder.calls (k : Nat) (a0_0 : Int) (A0_1 : Option Addr) (c0_1 : Nat) (l0_1 : List Int) (r : Bool) (w : World) (hr0_1 : Kd.C (Kd.int .i64) w A0_1 l0_1.length l0_1) (hc0_1 : l0_1.length ≤ c0_1) (hT : TabOK w) (h : impl_IsOrder.f k a0_0 l0_1 = some r) :
 Calls Tryd.prog 61 #[.agg #[.int .i64 a0_0,.slice A0_1 l0_1.length c0_1]] w fun e w'=>e = .returned (.bool r) ∧ Below w.heap.size w w':=by
 have hu28:=Tryd.underlying28;have HT:=A_ hT;clear hT;have HR0_1:=A_ hr0_1;have HC0_1:=A_ hc0_1;clear hr0_1 hc0_1;have HB:=A_ (Below.refl w.heap.size w);have H : ((impl_IsRelation.f k a0_0 l0_1).bind fun t269=>(if t269 = true then (impl_IsOrder.l0 k l0_1 (l0_1.length : Int) 0 a0_0 l0_1) else (some false))) = some r:=h;clear h;replace H:=Option.bind_eq_some_iff.mp H;obtain ⟨t269,A20,H⟩:=H;replace H : (if t269 = true then (impl_IsOrder.l0 k l0_1 (l0_1.length : Int) 0 a0_0 l0_1) else (some false)) = some r:=H;have A2:=A_ A20;clear A20;by_cases c3 : t269 = true
 ·subst c3;have H1 : (impl_IsOrder.l0 k l0_1 (l0_1.length : Int) 0 a0_0 l0_1) = some r:=by rw [if_pos rfl] at H;exact H
  clear H;have H:=H1;clear H1;have H':=A_ H;clear H;go_enter Tryd.func61,Tryd.ntmps61
  go_wp2_with (first|((with_reducible refine gate_dst (N:=1) rfl ?_);refine box_event ?hg (N:=1) ?hd (cs:=#[.int .i64 a0_0,.slice A0_1 l0_1.length c0_1]) (t:=28) ?hr ?_;(case hd=>rfl);(case hg=>rfl);(case hr=>first|(go_simp;done)|(go_simp;rfl));intro gb268 hg w4 hbox hb;have BK268:=A_ (hbox);have GW268:=A_ ((by rw [hg];exact (below_size bb_) : w.heap.size ≤ gb268));have GE268:=A_ ((by rw [hg];exact (below_size bb_) : w.heap.size ≤ gb268));replace HB:=A_ (below_step bb_ hb);clear hb hbox hg;have hcz5_0 : w4.cell? ⟨gb268,0,none⟩ = some (.int .i64 a0_0):=blk_cell BK268.out 0;have hcz5_1 : w4.cell? ⟨gb268,1,none⟩ = some (.slice A0_1 l0_1.length c0_1):=blk_cell BK268.out 1;have hfz5_0:=blk_frozen BK268.out 0;have hfz5_1:=blk_frozen BK268.out 1)|((with_reducible refine gate_callee (f:=122) rfl ?_);refine goesL_ (some 8) rfl rfl Tryd.func122 (by kernel_rfl) rfl #[.agg #[.int .i64 a0_0,.slice A0_1 l0_1.length c0_1]] rfl au_ ?_;(with_reducible refine (impl_IsRelation.calls k a0_0 _ _ l0_1 true _ ?side1 ?side2 A2.out).mono ?_);(case side1=>exact cl_ (Kd.C_below HR0_1.out HB.out));(case side2=>exact HC0_1.out);rintro e w6 ⟨rfl,hb⟩;refine ⟨_,rfl,?_⟩;replace BK268:=bz BK268 hb;replace HB:=A_ (below_step bb_ hb);(try clear hb);(try clear hb2);(try clear hk);(try clear hi);have hcz7_0 : w6.cell? ⟨gb268,0,none⟩ = some (.int .i64 a0_0):=blk_cell BK268.out 0;have hcz7_1 : w6.cell? ⟨gb268,1,none⟩ = some (.slice A0_1 l0_1.length c0_1):=blk_cell BK268.out 1;have hfz7_0:=blk_frozen BK268.out 0;have hfz7_1:=blk_frozen BK268.out 1))
  go_loopg [13] k (fun kq v13 w'=>∃ (x13_1 : Int),v13 = .int .i64 x13_1 ∧ Aside0 (impl_IsOrder.l0 kq l0_1 (l0_1.length : Int) x13_1 a0_0 l0_1 = some r) ∧ Aside0 (kq ≤ k) ∧ Aside0 (w'.heap[gb268]? = some (.cells #[.int .i64 a0_0,(.slice A0_1 l0_1.length c0_1)] 28 (0,0))) ∧ Aside0 (Below w.heap.size w w'))
  case atStart=>exact ⟨(0),(by first|rfl|(simp;done)|(simp [*];done)),H',⟨Nat.le_refl _⟩,⟨bl_ BK268⟩,⟨bb_⟩⟩
  case round =>
   clear H';try clear c1
   try clear p2
   try clear c3
   try clear c6
   try clear hcz5_0
   try clear hcz5_1
   try clear hcz7_0
   try clear hcz7_1
   try clear hfz5_0
   try clear hfz5_1
   try clear hfz7_0
   try clear hfz7_1
   obtain ⟨x13_1,rfl,HA,HK1,BK268,HB⟩:=hrel;cases gk with
   | zero=>exact absurd HA.out (by simp [impl_IsOrder.l0])
   | succ k1 =>
    have H:=HA.out;clear HA;simp only [impl_IsOrder.l0] at H
    by_cases c8 : x13_1 < (l0_1.length : Int)
    ·rw [if_pos c8] at H;have c8b0 : decide (x13_1 < (l0_1.length : Int)) = true:=decide_eq_true c8;clear c8;by_cases c9 : 0 ≤ x13_1
     ·rw [if_pos c9] at H;have c9b0 : decide (0 ≤ x13_1) = true:=decide_eq_true c9;clear c9;by_cases c10 : x13_1 < (l0_1.length : Int)
      ·rw [if_pos c10] at H;have c10b0 : decide (x13_1 < (l0_1.length : Int)) = true:=decide_eq_true c10;clear c10;replace H:=Option.bind_eq_some_iff.mp H;obtain ⟨t271,A110,H⟩:=H;replace H : (if t271 = true then (some false) else ((impl_members.f k1 (rd l0_1 x13_1)).bind fun t272=>(impl_IsOrder.l1 k1 (rd l0_1 x13_1) l0_1 (l0_1.length : Int) x13_1 t272 (t272.length : Int) 0 a0_0 l0_1))) = some r:=H;have A11:=A_ A110;clear A110;by_cases c12 : t271 = true
       ·subst c12;have H1 : (some false) = some r:=by rw [if_pos rfl] at H;exact H
        clear H;have H:=H1;clear H1;obtain rfl:=Option.some.inj H;have p270 : 0 ≤ (x13_1 : Int):=of_decide_eq_true (by first|(with_reducible assumption)|assumption);have q270 : x13_1 < (l0_1.length : Int):=of_decide_eq_true (by first|(with_reducible assumption)|assumption);obtain ⟨ad270,e270,hx270_0⟩:=Kd.at_int HR0_1.out x13_1 p270 q270;cases e270
        (try replace hx270_0:=(HB.out.cell (World.block_lt_of_cell? w _ hx270_0)).trans hx270_0);replace p270:=eq_true p270;replace q270:=eq_true q270;have hcz13_0 : wr.cell? ⟨gb268,0,none⟩ = some (.int .i64 a0_0):=blk_cell BK268.out 0;have hcz13_1 : wr.cell? ⟨gb268,1,none⟩ = some (.slice (some ad270) l0_1.length c0_1):=blk_cell BK268.out 1;have hfz13_0:=blk_frozen BK268.out 0;have hfz13_1:=blk_frozen BK268.out 1;go_wp2_with (first|((with_reducible refine gate_callee (f:=146) rfl ?_);refine goesL_ (some 21) rfl rfl Tryd.func146 (by kernel_rfl) rfl #[.agg #[.int .i64 a0_0,.slice (some ad270) l0_1.length c0_1],.int .i64 x13_1,.int .i64 x13_1] rfl au_ ?_;(with_reducible refine (impl_Order_better.calls a0_0 _ _ l0_1 x13_1 x13_1 true _ ?side1 ?side2 A11.out).mono ?_);(case side1=>exact cl_ (Kd.C_below HR0_1.out HB.out));(case side2=>exact HC0_1.out);rintro e w14 ⟨rfl,hb⟩;refine ⟨_,rfl,?_⟩;replace BK268:=bz BK268 hb;replace HB:=A_ (below_step bb_ hb);(try clear hb);(try clear hb2);(try clear hk);(try clear hi)))
        go_ret
        exact ⟨by first|rfl|(simp [errW_none,errW_some] <;> rfl)|(simp [*,errW_none,errW_some] <;> rfl),bb_⟩
       ·replace c12:=Bool.eq_false_iff.mpr c12;subst c12;have H1 : ((impl_members.f k1 (rd l0_1 x13_1)).bind fun t272=>(impl_IsOrder.l1 k1 (rd l0_1 x13_1) l0_1 (l0_1.length : Int) x13_1 t272 (t272.length : Int) 0 a0_0 l0_1)) = some r:=by rw [if_neg (show ¬ (false = true) by decide)] at H;exact H
        clear H;have H:=H1;clear H1;replace H:=Option.bind_eq_some_iff.mp H;obtain ⟨t272,A150,H⟩:=H;replace H : (impl_IsOrder.l1 k1 (rd l0_1 x13_1) l0_1 (l0_1.length : Int) x13_1 t272 (t272.length : Int) 0 a0_0 l0_1) = some r:=H;have A15:=A_ A150;clear A150;have H':=A_ H;clear H;have p270 : 0 ≤ (x13_1 : Int):=of_decide_eq_true (by first|(with_reducible assumption)|assumption);have q270 : x13_1 < (l0_1.length : Int):=of_decide_eq_true (by first|(with_reducible assumption)|assumption);obtain ⟨ad270,e270,hx270_0⟩:=Kd.at_int HR0_1.out x13_1 p270 q270;cases e270
        (try replace hx270_0:=(HB.out.cell (World.block_lt_of_cell? w _ hx270_0)).trans hx270_0);replace p270:=eq_true p270;replace q270:=eq_true q270;have hcz16_0 : wr.cell? ⟨gb268,0,none⟩ = some (.int .i64 a0_0):=blk_cell BK268.out 0;have hcz16_1 : wr.cell? ⟨gb268,1,none⟩ = some (.slice (some ad270) l0_1.length c0_1):=blk_cell BK268.out 1;have hfz16_0:=blk_frozen BK268.out 0;have hfz16_1:=blk_frozen BK268.out 1;go_wp2_with (first|((with_reducible refine gate_callee (f:=146) rfl ?_);refine goesL_ (some 21) rfl rfl Tryd.func146 (by kernel_rfl) rfl #[.agg #[.int .i64 a0_0,.slice (some ad270) l0_1.length c0_1],.int .i64 x13_1,.int .i64 x13_1] rfl au_ ?_;(with_reducible refine (impl_Order_better.calls a0_0 _ _ l0_1 x13_1 x13_1 false _ ?side1 ?side2 A11.out).mono ?_);(case side1=>exact cl_ (Kd.C_below HR0_1.out HB.out));(case side2=>exact HC0_1.out);rintro e w17 ⟨rfl,hb⟩;refine ⟨_,rfl,?_⟩;replace BK268:=bz BK268 hb;replace HB:=A_ (below_step bb_ hb);(try clear hb);(try clear hb2);(try clear hk);(try clear hi))|((with_reducible refine gate_callee (f:=124) rfl ?_);refine goesL_ (some 23) rfl rfl Tryd.func124 (by kernel_rfl) rfl #[.int .i64 (rd l0_1 x13_1)] rfl au_ ?_;(with_reducible refine (impl_members.calls k1 (rd l0_1 x13_1) t272 _ ?side1 A15.out).mono ?_);(case side1=>first|exact HT.out|exact HT.out.below bb_|(repeat (first|exact HT.out|apply TabOK.drewN|apply TabOK.drew|apply TabOK.alloc)));rintro e w18 ⟨v273,rfl,ho0,hb⟩;refine ⟨_,rfl,?_⟩;have HO274:=A_ (Kd.R_lower ho0 (below_size bb_));replace BK268:=bz BK268 hb;replace HB:=A_ (below_step bb_ hb);(try clear hb);(try clear hb2);(try clear hk);(try clear hi);(try clear ho0);obtain ⟨Ao19,co19,eo19⟩:=Kd.R_slice HO274.out;subst eo19))
        go_loopg [25] k1 (fun kq v25 w'=>∃ (x25_2 : Int),v25 = .int .i64 x25_2 ∧ Aside0 (impl_IsOrder.l1 kq (rd l0_1 x13_1) l0_1 (l0_1.length : Int) x13_1 t272 (t272.length : Int) x25_2 a0_0 l0_1 = some r) ∧ Aside0 (kq ≤ k1) ∧ Aside0 (Kd.R (Kd.int .i64) 3 w' w.heap.size (fun _=>True) (.slice Ao19 t272.length co19) t272) ∧ Aside0 (w'.heap[gb268]? = some (.cells #[.int .i64 a0_0,(.slice (some ad270) l0_1.length c0_1)] 28 (0,0))) ∧ Aside0 (Below w.heap.size w w'))
        case atStart=>exact ⟨(0),(by first|rfl|(simp;done)|(simp [*];done)),H',⟨Nat.le_refl _⟩,⟨by (with_reducible repeat (first|apply Kd.R_alloc|apply Kd.R_drewN|apply Kd.R_drew));exact HO274.out⟩,⟨bl_ BK268⟩,⟨bb_⟩⟩
        case round =>
         clear H';try clear c1
         try clear p2
         try clear q2
         try clear hx2
         try clear c3
         try clear c6
         try clear c8
         try clear c8b0
         try clear c9
         try clear c9b0
         try clear c10
         try clear c10b0
         try clear c12
         try clear c14
         try clear hcz13_0
         try clear hcz13_1
         try clear hcz16_0
         try clear hcz16_1
         try clear hcz5_0
         try clear hcz5_1
         try clear hcz7_0
         try clear hcz7_1
         try clear hfz13_0
         try clear hfz13_1
         try clear hfz16_0
         try clear hfz16_1
         try clear hfz5_0
         try clear hfz5_1
         try clear hfz7_0
         try clear hfz7_1
         try clear hx270_0
         try clear p2
         try clear p270
         try clear q270
         obtain ⟨x25_2,rfl,HA,HK2,HO_23,BK268,HB⟩:=hrel;cases gk with
         | zero=>exact absurd HA.out (by simp [impl_IsOrder.l1])
         | succ k2 =>
          have H:=HA.out;clear HA;simp only [impl_IsOrder.l1] at H
          by_cases c20 : x25_2 < (t272.length : Int)
          ·rw [if_pos c20] at H;have c20b0 : decide (x25_2 < (t272.length : Int)) = true:=decide_eq_true c20;clear c20;by_cases c21 : 0 ≤ x25_2
           ·rw [if_pos c21] at H;have c21b0 : decide (0 ≤ x25_2) = true:=decide_eq_true c21;clear c21;by_cases c22 : x25_2 < (t272.length : Int)
            ·rw [if_pos c22] at H;have c22b0 : decide (x25_2 < (t272.length : Int)) = true:=decide_eq_true c22;clear c22;by_cases c23 : 0 ≤ (rd t272 x25_2)
             ·rw [if_pos c23] at H;have c23b0 : decide (0 ≤ (rd t272 x25_2)) = true:=decide_eq_true c23;clear c23;by_cases c24 : (rd t272 x25_2) < (l0_1.length : Int)
              ·rw [if_pos c24] at H;have c24b0 : decide ((rd t272 x25_2) < (l0_1.length : Int)) = true:=decide_eq_true c24;clear c24;by_cases c25 : (Go.bits .andNot .i64 (rd l0_1 (rd t272 x25_2)) (rd l0_1 x13_1)) = 0
               ·rw [if_pos c25] at H;have c25b0 : ((Go.bits .andNot .i64 (rd l0_1 (rd t272 x25_2)) (rd l0_1 x13_1)) == 0) = true:=beq_iff_eq.mpr c25;have c25b1 : ((Go.bits .andNot .i64 (rd l0_1 (rd t272 x25_2)) (rd l0_1 x13_1)) != 0) = false:=bne_eq_false_iff_eq.mpr c25;clear c25;have H':=A_ H;clear H;have p275 : 0 ≤ (x25_2 : Int):=of_decide_eq_true (by first|(with_reducible assumption)|assumption);have q275 : x25_2 < (t272.length : Int):=of_decide_eq_true (by first|(with_reducible assumption)|assumption);obtain ⟨ad275,e275,hx275_0⟩:=Kd.at_int (Kd.R_reads' HO_23.out).2.2 x25_2 p275 q275;cases e275
                replace p275:=eq_true p275;replace q275:=eq_true q275;have hcz26_0 : wr.cell? ⟨gb268,0,none⟩ = some (.int .i64 a0_0):=blk_cell BK268.out 0;have hcz26_1 : wr.cell? ⟨gb268,1,none⟩ = some (.slice (some ad270) l0_1.length c0_1):=blk_cell BK268.out 1;have hfz26_0:=blk_frozen BK268.out 0;have hfz26_1:=blk_frozen BK268.out 1;have p276 : 0 ≤ ((rd t272 x25_2) : Int):=of_decide_eq_true (by first|(with_reducible assumption)|assumption);have q276 : (rd t272 x25_2) < (l0_1.length : Int):=of_decide_eq_true (by first|(with_reducible assumption)|assumption);obtain ⟨ad276,e276,hx276_0⟩:=Kd.at_int HR0_1.out (rd t272 x25_2) p276 q276;obtain rfl : ad270 = ad276:=(by injection e276);(try replace hx276_0:=(HB.out.cell (World.block_lt_of_cell? w _ hx276_0)).trans hx276_0);replace p276:=eq_true p276;replace q276:=eq_true q276;go_wp2
                go_roundg k2
                case measure=>have:=HK1.out;have:=HK2.out;omega
                case rel=>exact ⟨(wrap64 (x25_2 + 1)),(by first|rfl|(simp;done)|(simp [*];done)),H',⟨by have:=HK1.out;have:=HK2.out;omega⟩,⟨by (with_reducible repeat (first|apply Kd.R_alloc|apply Kd.R_drewN|apply Kd.R_drew));exact HO_23.out⟩,⟨bl_ BK268⟩,⟨bb_⟩⟩
               ·rw [if_neg c25] at H;have c25b0 : ((Go.bits .andNot .i64 (rd l0_1 (rd t272 x25_2)) (rd l0_1 x13_1)) == 0) = false:=beq_eq_false_iff_ne.mpr c25;have c25b1 : ((Go.bits .andNot .i64 (rd l0_1 (rd t272 x25_2)) (rd l0_1 x13_1)) != 0) = true:=bne_iff_ne.mpr c25;obtain rfl:=Option.some.inj H;have p275 : 0 ≤ (x25_2 : Int):=of_decide_eq_true (by first|(with_reducible assumption)|assumption);have q275 : x25_2 < (t272.length : Int):=of_decide_eq_true (by first|(with_reducible assumption)|assumption);obtain ⟨ad275,e275,hx275_0⟩:=Kd.at_int (Kd.R_reads' HO_23.out).2.2 x25_2 p275 q275;cases e275
                replace p275:=eq_true p275;replace q275:=eq_true q275;have hcz27_0 : wr.cell? ⟨gb268,0,none⟩ = some (.int .i64 a0_0):=blk_cell BK268.out 0;have hcz27_1 : wr.cell? ⟨gb268,1,none⟩ = some (.slice (some ad270) l0_1.length c0_1):=blk_cell BK268.out 1;have hfz27_0:=blk_frozen BK268.out 0;have hfz27_1:=blk_frozen BK268.out 1;have p276 : 0 ≤ ((rd t272 x25_2) : Int):=of_decide_eq_true (by first|(with_reducible assumption)|assumption);have q276 : (rd t272 x25_2) < (l0_1.length : Int):=of_decide_eq_true (by first|(with_reducible assumption)|assumption);obtain ⟨ad276,e276,hx276_0⟩:=Kd.at_int HR0_1.out (rd t272 x25_2) p276 q276;obtain rfl : ad270 = ad276:=(by injection e276);(try replace hx276_0:=(HB.out.cell (World.block_lt_of_cell? w _ hx276_0)).trans hx276_0);replace p276:=eq_true p276;replace q276:=eq_true q276;go_wp2
                go_ret
                exact ⟨by first|rfl|(simp [errW_none,errW_some] <;> rfl)|(simp [*,errW_none,errW_some] <;> rfl),bb_⟩
              ·rw [if_neg c24] at H;exact absurd H (by simp)
             ·rw [if_neg c23] at H;exact absurd H (by simp)
            ·rw [if_neg c22] at H;exact absurd H (by simp)
           ·rw [if_neg c21] at H;exact absurd H (by simp)
          ·rw [if_neg c20] at H;have c20b0 : decide (x25_2 < (t272.length : Int)) = false:=decide_eq_false c20;clear c20;have H':=A_ H;clear H;go_wp2
           go_roundg k2
           case measure=>have:=HK1.out;have:=HK2.out;omega
           case rel=>exact ⟨(wrap64 (x13_1 + 1)),(by first|rfl|(simp;done)|(simp [*];done)),H',⟨by have:=HK1.out;have:=HK2.out;omega⟩,⟨bl_ BK268⟩,⟨bb_⟩⟩
      ·rw [if_neg c10] at H;exact absurd H (by simp)
     ·rw [if_neg c9] at H;exact absurd H (by simp)
    ·rw [if_neg c8] at H;have c8b0 : decide (x13_1 < (l0_1.length : Int)) = false:=decide_eq_false c8;clear c8;obtain rfl:=Option.some.inj H;go_wp2
     go_ret
     exact ⟨by first|rfl|(simp [errW_none,errW_some] <;> rfl)|(simp [*,errW_none,errW_some] <;> rfl),bb_⟩
 ·replace c3:=Bool.eq_false_iff.mpr c3;subst c3;have H1 : (some false) = some r:=by rw [if_neg (show ¬ (false = true) by decide)] at H;exact H
  clear H;have H:=H1;clear H1;obtain rfl:=Option.some.inj H;go_enter Tryd.func61,Tryd.ntmps61
  go_wp2_with (first|((with_reducible refine gate_dst (N:=1) rfl ?_);refine box_event ?hg (N:=1) ?hd (cs:=#[.int .i64 a0_0,.slice A0_1 l0_1.length c0_1]) (t:=28) ?hr ?_;(case hd=>rfl);(case hg=>rfl);(case hr=>first|(go_simp;done)|(go_simp;rfl));intro gb268 hg w28 hbox hb;have BK268:=A_ (hbox);have GW268:=A_ ((by rw [hg];exact (below_size bb_) : w.heap.size ≤ gb268));have GE268:=A_ ((by rw [hg];exact (below_size bb_) : w.heap.size ≤ gb268));replace HB:=A_ (below_step bb_ hb);clear hb hbox hg;have hcz29_0 : w28.cell? ⟨gb268,0,none⟩ = some (.int .i64 a0_0):=blk_cell BK268.out 0;have hcz29_1 : w28.cell? ⟨gb268,1,none⟩ = some (.slice A0_1 l0_1.length c0_1):=blk_cell BK268.out 1;have hfz29_0:=blk_frozen BK268.out 0;have hfz29_1:=blk_frozen BK268.out 1)|((with_reducible refine gate_callee (f:=122) rfl ?_);refine goesL_ (some 8) rfl rfl Tryd.func122 (by kernel_rfl) rfl #[.agg #[.int .i64 a0_0,.slice A0_1 l0_1.length c0_1]] rfl au_ ?_;(with_reducible refine (impl_IsRelation.calls k a0_0 _ _ l0_1 false _ ?side1 ?side2 A2.out).mono ?_);(case side1=>exact cl_ (Kd.C_below HR0_1.out HB.out));(case side2=>exact HC0_1.out);rintro e w30 ⟨rfl,hb⟩;refine ⟨_,rfl,?_⟩;replace BK268:=bz BK268 hb;replace HB:=A_ (below_step bb_ hb);(try clear hb);(try clear hb2);(try clear hk);(try clear hi)))
  go_ret
  exact ⟨by first|rfl|(simp [errW_none,errW_some] <;> rfl)|(simp [*,errW_none,errW_some] <;> rfl),bb_⟩
end Go.Proofs.YtimjblnglhmakaaDoor.P

