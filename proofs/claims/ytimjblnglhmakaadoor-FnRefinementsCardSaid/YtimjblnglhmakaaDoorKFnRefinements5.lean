/- A part of the proof that the law FnRefinements holds at every input. Written by wip/pack.py: the kit's printed words that are used, the functions' walks as wip/gen.py prints them, and hand proofs. -/
import Derived.Test.YtimjblnglhmakaaDoorKFnRefinements4
namespace Go.Proofs.YtimjblnglhmakaaDoor.P
open Go.RowKit Go.Proofs.YtimjblnglhmakaaDoorW.PrintWords Go.Proofs.YtimjblnglhmakaaDoorW.PrintLast Go.Proofs.YtimjblnglhmakaaDoorW.PrintMore
open Bool renaming true → T, false → F
open List renaming setIfInBounds_toArray → L_, set_cons_zero → M_, set_cons_succ → N_, map_toArray → P_, map_cons → Q_, map_nil → R_, length_drop → S_, length_take → U_
open Aside0 renaming mk → A_
attribute [local go_sem] max2_int min2_int max_two min_two max_three min_three max_four min_four
set_option linter.unusedVariables false
set_option linter.unusedSimpArgs false
attribute [local go_sem] fldOrder_0 fldOrder_1
mutual
def Aam.j0 : Nat → Bool → Int → List Int → Int → List Int → Option (Bool × Bool)
 | 0,_,_,_,_,_=>none
 | k + 1,x22,x984000,x984001,x985000,x985001=>if x22 = true then (some (false,false)) else (Aam.l0 k x985001 (x985001.length : Int) 0 x984000 x984001)
def Aam.l0 : Nat → List Int → Int → Int → Int → List Int → Option (Bool × Bool)
 | 0,_,_,_,_,_=>none
 | k + 1,x24,x25,x26,x984000,x984001=>if x26 < x25 then (if 0 ≤ x26 then (if x26 < (x24.length : Int) then (if x26 < (x984001.length : Int) then (if (Go.bits .andNot .i64 (rd x24 x26) (rd x984001 x26)) = 0 then (Aam.l0 k x24 x25 (wrap64 (x26 + 1)) x984000 x984001) else (some (false,true))) else (none)) else (none)) else (none)) else (some (true,true))
end
def Aam.f (k : Nat) (a0_0 : Int) (l0_1 : List Int) (a1_0 : Int) (l1_1 : List Int) : Option (Bool × Bool) := (Aan.f k a0_0 l0_1).bind fun t985 => (if t985 = true then ((Aan.f k a1_0 l1_1).bind fun t986 => (if t986 = true then (Aam.j0 k (a0_0 != a1_0) a0_0 l0_1 a1_0 l1_1) else (Aam.j0 k true a0_0 l0_1 a1_0 l1_1))) else (Aam.j0 k true a0_0 l0_1 a1_0 l1_1))
set_option maxHeartbeats 8000000 in
set_option maxRecDepth 100000 in
theorem Aam.calls (k : Nat) (a0_0 : Int) (A0_1 : Option Addr) (c0_1 : Nat) (l0_1 : List Int) (a1_0 : Int) (A1_1 : Option Addr) (c1_1 : Nat) (l1_1 : List Int) (r1 : Bool) (r2 : Bool) (w : World) (hr0_1 : Kd.C (Kd.int .i64) w A0_1 l0_1.length l0_1) (hc0_1 : l0_1.length ≤ c0_1) (hr1_1 : Kd.C (Kd.int .i64) w A1_1 l1_1.length l1_1) (hc1_1 : l1_1.length ≤ c1_1) (h : Aam.f k a0_0 l0_1 a1_0 l1_1 = some (r1,r2)) :
 Calls Tryd.prog 85 #[.agg #[.int .i64 a0_0,.slice A0_1 l0_1.length c0_1],.agg #[.int .i64 a1_0,.slice A1_1 l1_1.length c1_1]] w fun e w'=>e = .returned (.tuple #[.bool r1,.bool r2]) ∧ Below w.heap.size w w':=by
 have hu28:=Tryd.underlying28;have HR0_1:=A_ hr0_1;have HC0_1:=A_ hc0_1;clear hr0_1 hc0_1;have HR1_1:=A_ hr1_1;have HC1_1:=A_ hc1_1;clear hr1_1 hc1_1;have HB:=A_ (Below.refl w.heap.size w);have H : ((Aan.f k a0_0 l0_1).bind fun An=>(if An = true then ((Aan.f k a1_0 l1_1).bind fun Ai=>(if Ai = true then (Aam.j0 k (a0_0 != a1_0) a0_0 l0_1 a1_0 l1_1) else (Aam.j0 k true a0_0 l0_1 a1_0 l1_1))) else (Aam.j0 k true a0_0 l0_1 a1_0 l1_1))) = some (r1,r2):=h;clear h;have HC3:=A_ H;clear H;go_enter Tryd.func85,Tryd.ntmps85
 go_upto_region 1 with (first|((with_reducible refine gate_dst (N:=2) rfl ?_);refine box_event ?hg (N:=2) ?hd (cs:=#[.int .i64 a0_0,.slice A0_1 l0_1.length c0_1]) (t:=28) ?hr ?_;(case hd=>rfl);(case hg=>rfl);(case hr=>go_simp;try rfl);intro Ac hg w4 hbox hb;have Aa:=A_ (hbox);have As:=A_ (gw_ (w:=w) hg bb_);have At:=A_ (gw_ (w:=w) hg bb_);replace HB:=A_ (below_step bb_ hb);clear hb hbox hg)|((with_reducible refine gate_dst (N:=3) rfl ?_);refine box_event ?hg (N:=3) ?hd (cs:=#[.int .i64 a1_0,.slice A1_1 l1_1.length c1_1]) (t:=28) ?hr ?_;(case hd=>rfl);(case hg=>rfl);(case hr=>go_simp;try rfl);intro Ah hg w5 hbox hb;have Ab:=A_ (hbox);have Au:=A_ (gw_ (w:=w) hg bb_);have Av:=A_ (gw_ (w:=w) hg bb_);replace HB:=A_ (below_step bb_ hb);have Ad:=A_ (nl_ hg Aa);have Ae:=A_ (ng_ hg Aa);replace Aa:=bz Aa hb;clear hb hbox hg))
 (try simp only [Act.put,L_,M_,N_]);go_cut [22] (fun v22 wc=>∃ (kq : Nat) (x22_2 : Bool),v22 = .bool x22_2 ∧ Aside0 (Aam.j0 kq x22_2 a0_0 l0_1 a1_0 l1_1 = some (r1,r2)) ∧ Aside0 (kq ≤ k) ∧ Aside0 (wc.heap[Ac]? = some (.cells #[.int .i64 a0_0,(.slice A0_1 l0_1.length c0_1)] 28 (0,0))) ∧ Aside0 (wc.heap[Ah]? = some (.cells #[.int .i64 a1_0,(.slice A1_1 l1_1.length c1_1)] 28 (0,0))) ∧ Aside0 (Below w.heap.size w wc))
 case first =>
  have H:=HC3.out;clear HC3;replace H:=Option.bind_eq_some_iff.mp H;obtain ⟨An,A60,H⟩:=H;replace H : (if An = true then ((Aan.f k a1_0 l1_1).bind fun Ai=>(if Ai = true then (Aam.j0 k (a0_0 != a1_0) a0_0 l0_1 a1_0 l1_1) else (Aam.j0 k true a0_0 l0_1 a1_0 l1_1))) else (Aam.j0 k true a0_0 l0_1 a1_0 l1_1)) = some (r1,r2):=H;have A6:=A_ A60;clear A60;by_cases c7 : An = true
  ·subst c7;have H1 : ((Aan.f k a1_0 l1_1).bind fun Ai=>(if Ai = true then (Aam.j0 k (a0_0 != a1_0) a0_0 l0_1 a1_0 l1_1) else (Aam.j0 k true a0_0 l0_1 a1_0 l1_1))) = some (r1,r2):=by rw [if_pos rfl] at H;exact H
   clear H;have H:=H1;clear H1;replace H:=Option.bind_eq_some_iff.mp H;obtain ⟨Ai,A80,H⟩:=H;replace H : (if Ai = true then (Aam.j0 k (a0_0 != a1_0) a0_0 l0_1 a1_0 l1_1) else (Aam.j0 k true a0_0 l0_1 a1_0 l1_1)) = some (r1,r2):=H;have A8:=A_ A80;clear A80;by_cases c9 : Ai = true
   ·subst c9;have H1 : (Aam.j0 k (a0_0 != a1_0) a0_0 l0_1 a1_0 l1_1) = some (r1,r2):=by rw [if_pos rfl] at H;exact H
    clear H;have H:=H1;clear H1;have H':=A_ H;clear H;have hnb10:=Ad.out;have hnc10:=Ae.out;have hcz11_0 : w5.cell? ⟨Ac,0,none⟩ = some (.int .i64 a0_0):=blk_cell Aa.out 0;have hcz11_1 : w5.cell? ⟨Ac,1,none⟩ = some (.slice A0_1 l0_1.length c0_1):=blk_cell Aa.out 1;have hfz11_0:=blk_frozen Aa.out 0;have hfz11_1:=blk_frozen Aa.out 1;go_wp2_with (first|((with_reducible refine gate_callee (f:=142) rfl ?_);refine goesL_ (some 9) rfl rfl Tryd.func142 (by kernel_rfl) rfl #[.agg #[.int .i64 a0_0,.slice A0_1 l0_1.length c0_1]] rfl au_ ?_;(with_reducible refine (Aan.calls k a0_0 _ _ l0_1 true _ ?side1 ?side2 A6.out).mono ?_);(case side1=>exact cl_ (Kd.C_below HR0_1.out HB.out));(case side2=>exact HC0_1.out);rintro e w12 ⟨rfl,hb⟩;refine ⟨_,rfl,?_⟩;replace Aa:=bz Aa hb;replace Ab:=bz Ab hb;replace HB:=A_ (below_step bb_ hb);(try clear hb);(try clear hb2);(try clear hk);(try clear hi);have hcz13_0 : w12.cell? ⟨Ah,0,none⟩ = some (.int .i64 a1_0):=blk_cell Ab.out 0;have hcz13_1 : w12.cell? ⟨Ah,1,none⟩ = some (.slice A1_1 l1_1.length c1_1):=blk_cell Ab.out 1;have hfz13_0:=blk_frozen Ab.out 0;have hfz13_1:=blk_frozen Ab.out 1)|(go_at_call 142;(with_reducible refine (Aan.calls k a1_0 _ _ l1_1 true _ ?side1 ?side2 A8.out).mono ?_);(case side1=>exact cl_ (Kd.C_below HR1_1.out HB.out));(case side2=>exact HC1_1.out);rintro e w14 ⟨rfl,hb⟩;replace Aa:=bz Aa hb;replace Ab:=bz Ab hb;replace HB:=A_ (below_step bb_ hb);(try clear hb);(try clear hb2);(try clear hk);(try clear hi);have hcz15_0 : w14.cell? ⟨Ac,0,none⟩ = some (.int .i64 a0_0):=blk_cell Aa.out 0;have hcz15_1 : w14.cell? ⟨Ac,1,none⟩ = some (.slice A0_1 l0_1.length c0_1):=blk_cell Aa.out 1;have hfz15_0:=blk_frozen Aa.out 0;have hfz15_1:=blk_frozen Aa.out 1;have hcz16_0 : w14.cell? ⟨Ah,0,none⟩ = some (.int .i64 a1_0):=blk_cell Ab.out 0;have hcz16_1 : w14.cell? ⟨Ah,1,none⟩ = some (.slice A1_1 l1_1.length c1_1):=blk_cell Ab.out 1;have hfz16_0:=blk_frozen Ab.out 0;have hfz16_1:=blk_frozen Ab.out 1))
    go_meet
    case rel=>exact ⟨_,((a0_0 != a1_0)),(by first|rfl|(simp;done)|(simp [*];done)),H',⟨by first|omega|exact Nat.le_refl _⟩,⟨bl_ Aa⟩,⟨bl_ Ab⟩,⟨bb_⟩⟩
   ·replace c9:=Bool.eq_false_iff.mpr c9;subst c9;have H1 : (Aam.j0 k true a0_0 l0_1 a1_0 l1_1) = some (r1,r2):=by rw [if_neg (show ¬ (false = true) by decide)] at H;exact H
    clear H;have H:=H1;clear H1;have H':=A_ H;clear H;have hnb17:=Ad.out;have hnc17:=Ae.out;have hcz18_0 : w5.cell? ⟨Ac,0,none⟩ = some (.int .i64 a0_0):=blk_cell Aa.out 0;have hcz18_1 : w5.cell? ⟨Ac,1,none⟩ = some (.slice A0_1 l0_1.length c0_1):=blk_cell Aa.out 1;have hfz18_0:=blk_frozen Aa.out 0;have hfz18_1:=blk_frozen Aa.out 1;go_wp2_with (first|((with_reducible refine gate_callee (f:=142) rfl ?_);refine goesL_ (some 9) rfl rfl Tryd.func142 (by kernel_rfl) rfl #[.agg #[.int .i64 a0_0,.slice A0_1 l0_1.length c0_1]] rfl au_ ?_;(with_reducible refine (Aan.calls k a0_0 _ _ l0_1 true _ ?side1 ?side2 A6.out).mono ?_);(case side1=>exact cl_ (Kd.C_below HR0_1.out HB.out));(case side2=>exact HC0_1.out);rintro e w19 ⟨rfl,hb⟩;refine ⟨_,rfl,?_⟩;replace Aa:=bz Aa hb;replace Ab:=bz Ab hb;replace HB:=A_ (below_step bb_ hb);(try clear hb);(try clear hb2);(try clear hk);(try clear hi);have hcz20_0 : w19.cell? ⟨Ah,0,none⟩ = some (.int .i64 a1_0):=blk_cell Ab.out 0;have hcz20_1 : w19.cell? ⟨Ah,1,none⟩ = some (.slice A1_1 l1_1.length c1_1):=blk_cell Ab.out 1;have hfz20_0:=blk_frozen Ab.out 0;have hfz20_1:=blk_frozen Ab.out 1)|(go_at_call 142;(with_reducible refine (Aan.calls k a1_0 _ _ l1_1 false _ ?side1 ?side2 A8.out).mono ?_);(case side1=>exact cl_ (Kd.C_below HR1_1.out HB.out));(case side2=>exact HC1_1.out);rintro e w21 ⟨rfl,hb⟩;replace Aa:=bz Aa hb;replace Ab:=bz Ab hb;replace HB:=A_ (below_step bb_ hb);(try clear hb);(try clear hb2);(try clear hk);(try clear hi)))
    go_meet
    case rel=>exact ⟨_,(true),(by first|rfl|(simp;done)|(simp [*];done)),H',⟨by first|omega|exact Nat.le_refl _⟩,⟨bl_ Aa⟩,⟨bl_ Ab⟩,⟨bb_⟩⟩
  ·replace c7:=Bool.eq_false_iff.mpr c7;subst c7;have H1 : (Aam.j0 k true a0_0 l0_1 a1_0 l1_1) = some (r1,r2):=by rw [if_neg (show ¬ (false = true) by decide)] at H;exact H
   clear H;have H:=H1;clear H1;have H':=A_ H;clear H;have hnb22:=Ad.out;have hnc22:=Ae.out;have hcz23_0 : w5.cell? ⟨Ac,0,none⟩ = some (.int .i64 a0_0):=blk_cell Aa.out 0;have hcz23_1 : w5.cell? ⟨Ac,1,none⟩ = some (.slice A0_1 l0_1.length c0_1):=blk_cell Aa.out 1;have hfz23_0:=blk_frozen Aa.out 0;have hfz23_1:=blk_frozen Aa.out 1;go_wp2_with (first|((with_reducible refine gate_callee (f:=142) rfl ?_);refine goesL_ (some 9) rfl rfl Tryd.func142 (by kernel_rfl) rfl #[.agg #[.int .i64 a0_0,.slice A0_1 l0_1.length c0_1]] rfl au_ ?_;(with_reducible refine (Aan.calls k a0_0 _ _ l0_1 false _ ?side1 ?side2 A6.out).mono ?_);(case side1=>exact cl_ (Kd.C_below HR0_1.out HB.out));(case side2=>exact HC0_1.out);rintro e w24 ⟨rfl,hb⟩;refine ⟨_,rfl,?_⟩;replace Aa:=bz Aa hb;replace Ab:=bz Ab hb;replace HB:=A_ (below_step bb_ hb);(try clear hb);(try clear hb2);(try clear hk);(try clear hi)))
   go_meet
   case rel=>exact ⟨_,(true),(by first|rfl|(simp;done)|(simp [*];done)),H',⟨by first|omega|exact Nat.le_refl _⟩,⟨bl_ Aa⟩,⟨bl_ Ab⟩,⟨bb_⟩⟩
 case rest =>
  clear HC3;try clear c1
  try clear c2
  try clear p2
  try clear c7
  try clear c8
  try clear c9
  try clear c10
  try clear c14
  try clear c17
  try clear c22
  try clear hcz11_0
  try clear hcz11_1
  try clear hcz13_0
  try clear hcz13_1
  try clear hcz15_0
  try clear hcz15_1
  try clear hcz16_0
  try clear hcz16_1
  try clear hcz18_0
  try clear hcz18_1
  try clear hcz20_0
  try clear hcz20_1
  try clear hcz23_0
  try clear hcz23_1
  try clear hfz11_0
  try clear hfz11_1
  try clear hfz13_0
  try clear hfz13_1
  try clear hfz15_0
  try clear hfz15_1
  try clear hfz16_0
  try clear hfz16_1
  try clear hfz18_0
  try clear hfz18_1
  try clear hfz20_0
  try clear hfz20_1
  try clear hfz23_0
  try clear hfz23_1
  obtain ⟨kq,x22_2,rfl,HA,HJ2,Aa,Ab,HB⟩:=hcut;cases kq with
  | zero => exact absurd HA.out (by simp [Aam.j0])
  | succ kj2 =>
   have H:=HA.out;clear HA;simp only [Aam.j0] at H
   by_cases c25 : x22_2 = true
   ·subst c25;have H1 : (some (false,false)) = some (r1,r2):=by rw [if_pos rfl] at H;exact H
    clear H;have H:=H1;clear H1;simp only [Option.some.injEq,Prod.mk.injEq] at H
    obtain ⟨rfl,rfl⟩:=H;go_wp2
    go_ret2
    exact ⟨by first|rfl|(simp [errW_none,errW_some] <;> rfl)|(simp [*,errW_none,errW_some] <;> rfl),bb_⟩
   ·replace c25:=Bool.eq_false_iff.mpr c25;subst c25;have H1 : (Aam.l0 kj2 l1_1 (l1_1.length : Int) 0 a0_0 l0_1) = some (r1,r2):=by rw [if_neg (show ¬ (false = true) by decide)] at H;exact H
    clear H;have H:=H1;clear H1;have H':=A_ H;clear H;have hnb26:=Ae.out;have hnc26:=Ad.out;have hcz27_0 : wc.cell? ⟨Ah,0,none⟩ = some (.int .i64 a1_0):=blk_cell Ab.out 0;have hcz27_1 : wc.cell? ⟨Ah,1,none⟩ = some (.slice A1_1 l1_1.length c1_1):=blk_cell Ab.out 1;have hfz27_0:=blk_frozen Ab.out 0;have hfz27_1:=blk_frozen Ab.out 1;go_wp2
    go_loopg [26] kj2 (fun kq v26 w'=>∃ (x26_2 : Int),v26 = .int .i64 x26_2 ∧ Aside0 (Aam.l0 kq l1_1 (l1_1.length : Int) x26_2 a0_0 l0_1 = some (r1,r2)) ∧ Aside0 (kq ≤ kj2) ∧ Aside0 (w'.heap[Ac]? = some (.cells #[.int .i64 a0_0,(.slice A0_1 l0_1.length c0_1)] 28 (0,0))) ∧ Aside0 (w'.heap[Ah]? = some (.cells #[.int .i64 a1_0,(.slice A1_1 l1_1.length c1_1)] 28 (0,0))) ∧ Aside0 (Below w.heap.size w w'))
    case atStart=>exact ⟨(0),(by first|rfl|(simp;done)|(simp [*];done)),H',⟨Nat.le_refl _⟩,⟨bl_ Aa⟩,⟨bl_ Ab⟩,⟨bb_⟩⟩
    case round =>
     clear H';try clear c1
     try clear c2
     try clear p2
     try clear c7
     try clear c8
     try clear c9
     try clear c10
     try clear c14
     try clear c17
     try clear c22
     try clear c25
     try clear c26
     try clear hcz11_0
     try clear hcz11_1
     try clear hcz13_0
     try clear hcz13_1
     try clear hcz15_0
     try clear hcz15_1
     try clear hcz16_0
     try clear hcz16_1
     try clear hcz18_0
     try clear hcz18_1
     try clear hcz20_0
     try clear hcz20_1
     try clear hcz23_0
     try clear hcz23_1
     try clear hcz27_0
     try clear hcz27_1
     try clear hfz11_0
     try clear hfz11_1
     try clear hfz13_0
     try clear hfz13_1
     try clear hfz15_0
     try clear hfz15_1
     try clear hfz16_0
     try clear hfz16_1
     try clear hfz18_0
     try clear hfz18_1
     try clear hfz20_0
     try clear hfz20_1
     try clear hfz23_0
     try clear hfz23_1
     try clear hfz27_0
     try clear hfz27_1
     try clear p2
     obtain ⟨x26_2,rfl,HA,HK2,Aa,Ab,HB⟩:=hrel;cases gk with
     | zero=>exact absurd HA.out (by simp [Aam.l0])
     | succ k2 =>
      have H:=HA.out;clear HA;simp only [Aam.l0] at H
      by_cases c28 : x26_2 < (l1_1.length : Int)
      ·rw [if_pos c28] at H;have c28b0 : decide (x26_2 < (l1_1.length : Int)) = true:=decide_eq_true c28;clear c28;by_cases c29 : 0 ≤ x26_2
       ·rw [if_pos c29] at H;have c29b0 : decide (0 ≤ x26_2) = true:=decide_eq_true c29;clear c29;by_cases c30 : x26_2 < (l1_1.length : Int)
        ·rw [if_pos c30] at H;have c30b0 : decide (x26_2 < (l1_1.length : Int)) = true:=decide_eq_true c30;clear c30;by_cases c31 : x26_2 < (l0_1.length : Int)
         ·rw [if_pos c31] at H;have c31b0 : decide (x26_2 < (l0_1.length : Int)) = true:=decide_eq_true c31;clear c31;by_cases c32 : (Go.bits .andNot .i64 (rd l1_1 x26_2) (rd l0_1 x26_2)) = 0
          ·rw [if_pos c32] at H;have c32b0 : ((Go.bits .andNot .i64 (rd l1_1 x26_2) (rd l0_1 x26_2)) == 0) = true:=beq_iff_eq.mpr c32;have c32b1 : ((Go.bits .andNot .i64 (rd l1_1 x26_2) (rd l0_1 x26_2)) != 0) = false:=bne_eq_false_iff_eq.mpr c32;clear c32;have H':=A_ H;clear H;have Aj : 0 ≤ (x26_2 : Int):=of_decide_eq_true (by first|(with_reducible assumption)|assumption);have Ak : x26_2 < (l1_1.length : Int):=of_decide_eq_true (by first|(with_reducible assumption)|assumption);obtain ⟨Aq,Ao,Af⟩:=Kd.at_int HR1_1.out x26_2 Aj Ak;cases Ao
           (try replace Af:=(HB.out.cell (World.block_lt_of_cell? w _ Af)).trans Af);replace Aj:=eq_true Aj;replace Ak:=eq_true Ak;have hnb33:=Ad.out;have hnc33:=Ae.out;have hcz34_0 : wr.cell? ⟨Ac,0,none⟩ = some (.int .i64 a0_0):=blk_cell Aa.out 0;have hcz34_1 : wr.cell? ⟨Ac,1,none⟩ = some (.slice A0_1 l0_1.length c0_1):=blk_cell Aa.out 1;have hfz34_0:=blk_frozen Aa.out 0;have hfz34_1:=blk_frozen Aa.out 1;have Al : 0 ≤ (x26_2 : Int):=of_decide_eq_true (by first|(with_reducible assumption)|assumption);have Am : x26_2 < (l0_1.length : Int):=of_decide_eq_true (by first|(with_reducible assumption)|assumption);obtain ⟨Ar,Ap,Ag⟩:=Kd.at_int HR0_1.out x26_2 Al Am;cases Ap
           (try replace Ag:=(HB.out.cell (World.block_lt_of_cell? w _ Ag)).trans Ag);replace Al:=eq_true Al;replace Am:=eq_true Am;go_wp2
           go_roundg k2
           case measure=>have:=HJ2.out;have:=HK2.out;omega
           case rel=>exact ⟨(wrap64 (x26_2 + 1)),(by first|rfl|(simp;done)|(simp [*];done)),H',⟨by have:=HJ2.out;have:=HK2.out;omega⟩,⟨bl_ Aa⟩,⟨bl_ Ab⟩,⟨bb_⟩⟩
          ·rw [if_neg c32] at H;have c32b0 : ((Go.bits .andNot .i64 (rd l1_1 x26_2) (rd l0_1 x26_2)) == 0) = false:=beq_eq_false_iff_ne.mpr c32;have c32b1 : ((Go.bits .andNot .i64 (rd l1_1 x26_2) (rd l0_1 x26_2)) != 0) = true:=bne_iff_ne.mpr c32;simp only [Option.some.injEq,Prod.mk.injEq] at H
           obtain ⟨rfl,rfl⟩:=H;have Aj : 0 ≤ (x26_2 : Int):=of_decide_eq_true (by first|(with_reducible assumption)|assumption);have Ak : x26_2 < (l1_1.length : Int):=of_decide_eq_true (by first|(with_reducible assumption)|assumption);obtain ⟨Aq,Ao,Af⟩:=Kd.at_int HR1_1.out x26_2 Aj Ak;cases Ao
           (try replace Af:=(HB.out.cell (World.block_lt_of_cell? w _ Af)).trans Af);replace Aj:=eq_true Aj;replace Ak:=eq_true Ak;have hnb35:=Ad.out;have hnc35:=Ae.out;have hcz36_0 : wr.cell? ⟨Ac,0,none⟩ = some (.int .i64 a0_0):=blk_cell Aa.out 0;have hcz36_1 : wr.cell? ⟨Ac,1,none⟩ = some (.slice A0_1 l0_1.length c0_1):=blk_cell Aa.out 1;have hfz36_0:=blk_frozen Aa.out 0;have hfz36_1:=blk_frozen Aa.out 1;have Al : 0 ≤ (x26_2 : Int):=of_decide_eq_true (by first|(with_reducible assumption)|assumption);have Am : x26_2 < (l0_1.length : Int):=of_decide_eq_true (by first|(with_reducible assumption)|assumption);obtain ⟨Ar,Ap,Ag⟩:=Kd.at_int HR0_1.out x26_2 Al Am;cases Ap
           (try replace Ag:=(HB.out.cell (World.block_lt_of_cell? w _ Ag)).trans Ag);replace Al:=eq_true Al;replace Am:=eq_true Am;go_wp2
           go_ret2
           exact ⟨by first|rfl|(simp [errW_none,errW_some] <;> rfl)|(simp [*,errW_none,errW_some] <;> rfl),bb_⟩
         ·rw [if_neg c31] at H;exact absurd H (by simp)
        ·rw [if_neg c30] at H;exact absurd H (by simp)
       ·rw [if_neg c29] at H;exact absurd H (by simp)
      ·rw [if_neg c28] at H;have c28b0 : decide (x26_2 < (l1_1.length : Int)) = false:=decide_eq_false c28;clear c28;simp only [Option.some.injEq,Prod.mk.injEq] at H
       obtain ⟨rfl,rfl⟩:=H;go_wp2
       go_ret2
       exact ⟨by first|rfl|(simp [errW_none,errW_some] <;> rfl)|(simp [*,errW_none,errW_some] <;> rfl),bb_⟩
def Aa1.f (s0_0 : List Int) (s0_1 : Int) (s0_2 : Int) : Option (Int × Int × Int) := (Aas.f s0_0 s0_1 s0_2 15).bind fun bt989 => (if bt989.1 = true then ((Aat.f s0_0 bt989.2.1 bt989.2.2 (([0, 10, 11] : List Int))).bind fun bt995 => (some (bt995.1, bt995.2.1, bt995.2.2))) else ((Aaf.f s0_0 bt989.2.1 bt989.2.2 7).bind fun bt998 => (some (bt998.1, bt998.2.1, bt998.2.2))))
set_option maxHeartbeats 8000000 in
set_option maxRecDepth 100000 in
theorem Aa1.calls (g : Nat) (s0_0 : List Int) (s0_1 : Int) (s0_2 : Int) (r1 : Int) (r2 : Int) (r3 : Int) (w0 w : World) (hI : Aaa w0 w g s0_0 s0_1 s0_2) (hB : Below w0.heap.size w0 w) (h : Aa1.f s0_0 s0_1 s0_2 = some (r1,r2,r3)) :
 Calls Tryd.prog 172 #[.pointer (some ⟨g,0,none⟩)] w fun e w'=>e = .returned (.int .i64 r1) ∧ Aaa w0 w' g s0_0 r2 r3 ∧ Below w0.heap.size w0 w' ∧ KeepBut w w' g none:=by
 have HI0:=A_ hI;have HK:=A_ (KeepBut.refl w g none);have HL:=A_ hB.size;clear hI;have HW0:=A_ hB.size;have HB:=A_ hB;clear hB;have H : ((Aas.f s0_0 s0_1 s0_2 15).bind fun Af=>(if Af.1 = true then ((Aat.f s0_0 Af.2.1 Af.2.2 (([0,10,11] : List Int))).bind fun Aa=>(some (Aa.1,Aa.2.1,Aa.2.2))) else ((Aaf.f s0_0 Af.2.1 Af.2.2 7).bind fun Ab=>(some (Ab.1,Ab.2.1,Ab.2.2))))) = some (r1,r2,r3):=h;clear h;replace H:=Option.bind_eq_some_iff.mp H;obtain ⟨⟨Ak,Ac,Ad⟩,A20,H⟩:=H;replace H : (if Ak = true then ((Aat.f s0_0 Ac Ad (([0,10,11] : List Int))).bind fun Aa=>(some (Aa.1,Aa.2.1,Aa.2.2))) else ((Aaf.f s0_0 Ac Ad 7).bind fun Ab=>(some (Ab.1,Ab.2.1,Ab.2.2)))) = some (r1,r2,r3):=H;have A2:=A_ A20;clear A20;by_cases c3 : Ak = true
 ·subst c3;have H1 : ((Aat.f s0_0 Ac Ad (([0,10,11] : List Int))).bind fun Aa=>(some (Aa.1,Aa.2.1,Aa.2.2))) = some (r1,r2,r3):=by rw [if_pos rfl] at H;exact H
  clear H;have H:=H1;clear H1;obtain ⟨Ah,Ag⟩ : ∃ y_ : List Int,y_ = (([0,10,11] : List Int)):=⟨_,rfl⟩;replace H : ((Aat.f s0_0 Ac Ad Ah).bind fun Aa=>(some (Aa.1,Aa.2.1,Aa.2.2))) = some (r1,r2,r3):=by first|(rw [Ag];with_reducible exact H)|(have H2_:=(Option.bind_some _ _).symm.trans H;rw [Ag];with_reducible exact H2_)|(have H2_:=(Option.bind_some _ _).symm.trans H;with_reducible exact H2_)|with_reducible exact H|(rw [Ag];exact H)|exact H
  have Ai:=A_ Ag;clear Ag;replace H:=Option.bind_eq_some_iff.mp H;obtain ⟨⟨Al,Am,An⟩,A40,H⟩:=H;replace H : (some (Al,Am,An)) = some (r1,r2,r3):=H;have A4:=A_ A40;clear A40;simp only [Option.some.injEq,Prod.mk.injEq] at H
  obtain ⟨rfl,rfl,rfl⟩:=H;go_enter Tryd.func172,Tryd.ntmps172
  go_wp2_with (first|((with_reducible refine gate_callee (f:=173) rfl ?_);refine goesL_ (some 4) rfl rfl Tryd.func173 (by kernel_rfl) rfl #[.pointer (some ⟨g,0,none⟩),.int .i64 15] rfl au_ ?_;(with_reducible refine (Aas.calls g s0_0 s0_1 s0_2 15 true Ac Ad w0 _ ?side1 ?side2 A2.out).mono ?_);(case side1=>exact is_);(case side2=>repeat (first|(with_reducible first|exact HB.out|apply below_alloc|apply pw_below_drewN|apply below_drew1|refine below_set ?_ (Aaa.ge HI0.out))|exact HB.out));rintro e w5 ⟨rfl,hi,hb,hk⟩;refine ⟨_,rfl,?_⟩;replace HK:=A_ (KeepBut.trans (by repeat (with_reducible first|exact HK.out|apply KeepBut.set_|apply keep_drewN|apply keep_drew|apply keep_alloc)) hk (.inl rfl));replace HB:=A_ (hb);replace HI0:=A_ (hi);(try clear hb);(try clear hb2);(try clear hk);(try clear hi))|((with_reducible refine gate_dst (N:=6) rfl ?_);refine Kd.R_lit (Kd.int .i64) _ 3 ?hg (N:=6) ?hd (xs:=([0,10,11] : List Int)) (inner:=[.int .i64 0,.int .i64 10,.int .i64 11]) (ok:=fun _=>True) (okp:=fun _=>True) ?hr ?hp (fun _ hk=>hk) trivial (Below.refl _ _) (Nat.le_refl _) (by simp) ?_;(case hd=>rfl);(case hg=>rfl);(case hr=>go_simp;try rfl);(case hp=>exact (Reps.one (show Kd.M (Kd.int .i64) _ _ _ 0 [.int .i64 0] from rfl) (Reps.one (show Kd.M (Kd.int .i64) _ _ _ 10 [.int .i64 10] from rfl) (Reps.one (show Kd.M (Kd.int .i64) _ _ _ 11 [.int .i64 11] from rfl) (Reps.none _ _)))));intro Ar w6 ho7 hb hg_ hnew_;clear hg_ hnew_;(first|rw [← Ai.out] at ho7|(simp only [Int.reduceToNat] at ho7;rw [← Ai.out] at ho7));have Ae:=A_ (Kd.R_lower ho7 (keep_size (w:=w) (g:=g) (row:=none) (by repeat (with_reducible first|exact HK.out|apply KeepBut.set_|apply keep_drewN|apply keep_drew|apply keep_alloc))));replace HK:=A_ (KeepBut.trans (by repeat (with_reducible first|exact HK.out|apply KeepBut.set_|apply keep_drewN|apply keep_drew|apply keep_alloc)) (KeepBut.of_below hb g none) (.inl rfl));replace HB:=A_ (below_step (by repeat (with_reducible first|exact HB.out|apply below_alloc|apply pw_below_drewN|apply below_drew1|refine below_set ?_ (Aaa.ge HI0.out))) hb);replace HI0:=A_ (Aaa.below (is_) hb);clear hb ho7;obtain ⟨Ao8,co8,eo8⟩:=Kd.R_slice Ae.out;subst eo8)|((with_reducible refine gate_callee (f:=125) rfl ?_);refine goesL_ (some 7) rfl rfl Tryd.func125 (by kernel_rfl) rfl #[.pointer (some ⟨g,0,none⟩),.slice Ao8 Ah.length co8] rfl au_ ?_;(with_reducible refine (Aat.calls g s0_0 Ac Ad _ _ Ah Al Am An w0 _ ?side1 ?side2 ?side3 ?side4 ?side5 A4.out).mono ?_);(case side1=>exact is_);(case side2=>repeat (first|(with_reducible first|exact HB.out|apply below_alloc|apply pw_below_drewN|apply below_drew1|refine below_set ?_ (Aaa.ge HI0.out))|exact HB.out));(case side3=>exact cl_ (Kd.R_reads' Ae.out).2.2);(case side4=>exact (Kd.R_reads' Ae.out).2.1);(case side5=>exact far_slice (Aaa.own_ne HI0.out Ae.out (by decide)));rintro e w9 ⟨rfl,hi,hb,hk⟩;refine ⟨_,rfl,?_⟩;replace Ae:=A_ (Kd.R_mono (Kd.R_keep (Aaa.apart (show Aaa w0 _ g s0_0 Ac Ad from is_) (rl_ Ae) (by decide)) hk (fun _ h=>h.2)) (fun _ h=>h.1));replace HK:=A_ (KeepBut.trans (by repeat (with_reducible first|exact HK.out|apply KeepBut.set_|apply keep_drewN|apply keep_drew|apply keep_alloc)) hk (.inl rfl));replace HB:=A_ (hb);replace HI0:=A_ (hi);(try clear hb);(try clear hb2);(try clear hk);(try clear hi)))
  go_ret
  exact ⟨by first|rfl|(simp [errW_none,errW_some] <;> rfl)|(simp [*,errW_none,errW_some] <;> rfl),is_,by repeat (first|(with_reducible first|exact HB.out|apply below_alloc|apply pw_below_drewN|apply below_drew1|refine below_set ?_ (Aaa.ge HI0.out))|exact HB.out),by repeat (first|(with_reducible first|exact HK.out|apply KeepBut.set_|apply keep_drewN|apply keep_drew|apply keep_alloc)|exact HK.out)⟩
 ·replace c3:=Bool.eq_false_iff.mpr c3;subst c3;have H1 : ((Aaf.f s0_0 Ac Ad 7).bind fun Ab=>(some (Ab.1,Ab.2.1,Ab.2.2))) = some (r1,r2,r3):=by rw [if_neg (show ¬ (false = true) by decide)] at H;exact H
  clear H;have H:=H1;clear H1;replace H:=Option.bind_eq_some_iff.mp H;obtain ⟨⟨Ao,Ap,Aj⟩,Aq,H⟩:=H;replace H : (some (Ao,Ap,Aj)) = some (r1,r2,r3):=H;have A10:=A_ Aq;clear Aq;simp only [Option.some.injEq,Prod.mk.injEq] at H
  obtain ⟨rfl,rfl,rfl⟩:=H;go_enter Tryd.func172,Tryd.ntmps172
  go_wp2_with (first|((with_reducible refine gate_callee (f:=173) rfl ?_);refine goesL_ (some 4) rfl rfl Tryd.func173 (by kernel_rfl) rfl #[.pointer (some ⟨g,0,none⟩),.int .i64 15] rfl au_ ?_;(with_reducible refine (Aas.calls g s0_0 s0_1 s0_2 15 false Ac Ad w0 _ ?side1 ?side2 A2.out).mono ?_);(case side1=>exact is_);(case side2=>repeat (first|(with_reducible first|exact HB.out|apply below_alloc|apply pw_below_drewN|apply below_drew1|refine below_set ?_ (Aaa.ge HI0.out))|exact HB.out));rintro e w11 ⟨rfl,hi,hb,hk⟩;refine ⟨_,rfl,?_⟩;replace HK:=A_ (KeepBut.trans (by repeat (with_reducible first|exact HK.out|apply KeepBut.set_|apply keep_drewN|apply keep_drew|apply keep_alloc)) hk (.inl rfl));replace HB:=A_ (hb);replace HI0:=A_ (hi);(try clear hb);(try clear hb2);(try clear hk);(try clear hi))|((with_reducible refine gate_callee (f:=150) rfl ?_);refine goesL_ (some 9) rfl rfl Tryd.func150 (by kernel_rfl) rfl #[.pointer (some ⟨g,0,none⟩),.int .i64 7] rfl au_ ?_;(with_reducible refine (Aaf.calls g s0_0 Ac Ad 7 Ao Ap Aj w0 _ ?side1 ?side2 A10.out).mono ?_);(case side1=>exact is_);(case side2=>repeat (first|(with_reducible first|exact HB.out|apply below_alloc|apply pw_below_drewN|apply below_drew1|refine below_set ?_ (Aaa.ge HI0.out))|exact HB.out));rintro e w12 ⟨rfl,hi,hb,hk⟩;refine ⟨_,rfl,?_⟩;replace HK:=A_ (KeepBut.trans (by repeat (with_reducible first|exact HK.out|apply KeepBut.set_|apply keep_drewN|apply keep_drew|apply keep_alloc)) hk (.inl rfl));replace HB:=A_ (hb);replace HI0:=A_ (hi);(try clear hb);(try clear hb2);(try clear hk);(try clear hi)))
  go_ret
  exact ⟨by first|rfl|(simp [errW_none,errW_some] <;> rfl)|(simp [*,errW_none,errW_some] <;> rfl),is_,by repeat (first|(with_reducible first|exact HB.out|apply below_alloc|apply pw_below_drewN|apply below_drew1|refine below_set ?_ (Aaa.ge HI0.out))|exact HB.out),by repeat (first|(with_reducible first|exact HK.out|apply KeepBut.set_|apply keep_drewN|apply keep_drew|apply keep_alloc)|exact HK.out)⟩
def Abp.f (k : Nat) (l0 : List Int) : Option (List Int × List Int) := (Aa1.f l0 0 0).bind fun bt1002 => ((Aas.f l0 bt1002.2.1 bt1002.2.2 12).bind fun bt1005 => (if bt1005.1 = true then ((Aad.f k l0 bt1005.2.1 bt1005.2.2 bt1002.1).bind fun bt1008 => ((Aa1.f l0 bt1008.2.1 bt1008.2.2).bind fun bt1013 => ((Aad.f k l0 bt1013.2.1 bt1013.2.2 bt1013.1).bind fun bt1016 => (some (bt1008.1, bt1016.1))))) else ((Aad.f k l0 bt1005.2.1 bt1005.2.2 bt1002.1).bind fun bt1021 => ((Aad.f k l0 bt1021.2.1 bt1021.2.2 bt1002.1).bind fun bt1026 => (some (bt1021.1, bt1026.1))))))
set_option maxHeartbeats 8000000 in
set_option maxRecDepth 100000 in
theorem Abp.calls (k : Nat) (A0 : Option Addr) (c0 : Nat) (l0 : List Int) (r1 : List Int) (r2 : List Int) (w : World) (hr0 : Kd.C (Kd.int .u8) w A0 l0.length l0) (hc0 : l0.length ≤ c0) (h : Abp.f k l0 = some (r1,r2)) :
 Calls Tryd.prog 86 #[.slice A0 l0.length c0] w fun e w'=>∃ v0_ v1_ : Value,e = .returned (.tuple #[v0_,v1_]) ∧ Kd.R (Kd.int .i64) 3 w' w.heap.size (fun k_=>some k_ ≠ (v1_ : Value).ownBlock) v0_ r1 ∧ Kd.R (Kd.int .i64) 3 w' w.heap.size (fun k_=>some k_ ≠ (v0_ : Value).ownBlock) v1_ r2 ∧ Below w.heap.size w w':=by
 have Bm:=Tryd.underlying103;have HR0:=A_ hr0;have HC0:=A_ hc0;clear hr0 hc0;have HB:=A_ (Below.refl w.heap.size w);have H : ((Aa1.f l0 0 0).bind fun Am=>((Aas.f l0 Am.2.1 Am.2.2 12).bind fun Ag=>(if Ag.1 = true then ((Aad.f k l0 Ag.2.1 Ag.2.2 Am.1).bind fun Ad=>((Aa1.f l0 Ad.2.1 Ad.2.2).bind fun Ac=>((Aad.f k l0 Ac.2.1 Ac.2.2 Ac.1).bind fun Ah=>(some (Ad.1,Ah.1))))) else ((Aad.f k l0 Ag.2.1 Ag.2.2 Am.1).bind fun Ae=>((Aad.f k l0 Ae.2.1 Ae.2.2 Am.1).bind fun Ai=>(some (Ae.1,Ai.1))))))) = some (r1,r2):=h;clear h;replace H:=Option.bind_eq_some_iff.mp H;obtain ⟨⟨Af,An,Ao⟩,A20,H⟩:=H;replace H : ((Aas.f l0 An Ao 12).bind fun Ag=>(if Ag.1 = true then ((Aad.f k l0 Ag.2.1 Ag.2.2 Af).bind fun Ad=>((Aa1.f l0 Ad.2.1 Ad.2.2).bind fun Ac=>((Aad.f k l0 Ac.2.1 Ac.2.2 Ac.1).bind fun Ah=>(some (Ad.1,Ah.1))))) else ((Aad.f k l0 Ag.2.1 Ag.2.2 Af).bind fun Ae=>((Aad.f k l0 Ae.2.1 Ae.2.2 Af).bind fun Ai=>(some (Ae.1,Ai.1)))))) = some (r1,r2):=H;have A2:=A_ A20;clear A20;replace H:=Option.bind_eq_some_iff.mp H;obtain ⟨⟨Az,Aj,Ak⟩,A30,H⟩:=H;replace H : (if Az = true then ((Aad.f k l0 Aj Ak Af).bind fun Ad=>((Aa1.f l0 Ad.2.1 Ad.2.2).bind fun Ac=>((Aad.f k l0 Ac.2.1 Ac.2.2 Ac.1).bind fun Ah=>(some (Ad.1,Ah.1))))) else ((Aad.f k l0 Aj Ak Af).bind fun Ae=>((Aad.f k l0 Ae.2.1 Ae.2.2 Af).bind fun Ai=>(some (Ae.1,Ai.1))))) = some (r1,r2):=H;have A3:=A_ A30;clear A30;by_cases c4 : Az = true
 ·subst c4;have H1 : ((Aad.f k l0 Aj Ak Af).bind fun Ad=>((Aa1.f l0 Ad.2.1 Ad.2.2).bind fun Ac=>((Aad.f k l0 Ac.2.1 Ac.2.2 Ac.1).bind fun Ah=>(some (Ad.1,Ah.1))))) = some (r1,r2):=by rw [if_pos rfl] at H;exact H
  clear H;have H:=H1;clear H1;replace H:=Option.bind_eq_some_iff.mp H;obtain ⟨⟨Aq,Ar,As⟩,A50,H⟩:=H;replace H : ((Aa1.f l0 Ar As).bind fun Ac=>((Aad.f k l0 Ac.2.1 Ac.2.2 Ac.1).bind fun Ah=>(some (Aq,Ah.1)))) = some (r1,r2):=H;have A5:=A_ A50;clear A50;replace H:=Option.bind_eq_some_iff.mp H;obtain ⟨⟨At,Au,Av⟩,A60,H⟩:=H;replace H : ((Aad.f k l0 Au Av At).bind fun Ah=>(some (Aq,Ah.1))) = some (r1,r2):=H;have A6:=A_ A60;clear A60;replace H:=Option.bind_eq_some_iff.mp H;obtain ⟨⟨Ba,Bi,Bj⟩,A70,H⟩:=H;replace H : (some (Aq,Ba)) = some (r1,r2):=H;have A7:=A_ A70;clear A70;simp only [Option.some.injEq,Prod.mk.injEq] at H
  obtain ⟨rfl,rfl⟩:=H;go_enter Tryd.func86,Tryd.ntmps86
  go_wp2_with (first|((with_reducible refine gate_dst (N:=8) rfl ?_);refine box_event ?hg (N:=8) ?hd (cs:=#[.slice A0 l0.length c0,.int .i64 0,.int .u64 0]) (t:=103) ?hr ?_;(case hd=>rfl);(case hg=>rfl);(case hr=>go_simp;try rfl);intro Ab hg w8 hbox hb;have Aa:=A_ ((show Aaa w _ Ab l0 0 0 from ⟨_,_,hbox,(by rw [hg];exact (below_size bb_) : w.heap.size ≤ Ab),HR0.out⟩));have Bc:=A_ (gw_ (w:=w) hg bb_);have Bd:=A_ (gw_ (w:=w) hg bb_);replace HB:=A_ (below_step bb_ hb);clear hb hbox hg)|((with_reducible refine gate_callee (f:=172) rfl ?_);refine goesL_ (some 10) rfl rfl Tryd.func172 (by kernel_rfl) rfl #[.pointer (some ⟨Ab,0,none⟩)] rfl au_ ?_;(with_reducible refine (Aa1.calls Ab l0 0 0 Af An Ao w _ ?side1 ?side2 A2.out).mono ?_);(case side1=>repeat (first|(with_reducible first|exact Aa.out|apply Aaa.alloc|apply Aaa.drewN|apply Aaa.drew|apply Aaa.set_1|apply Aaa.set_2)|exact Aa.out));(case side2=>repeat (first|(with_reducible first|exact HB.out|apply below_alloc|apply pw_below_drewN|apply below_drew1|refine below_set ?_ (Aaa.ge Aa.out))|exact HB.out));rintro e w9 ⟨rfl,hi,hb,hk⟩;refine ⟨_,rfl,?_⟩;replace HB:=A_ (hb);replace Aa:=A_ (hi);(try clear hb);(try clear hb2);(try clear hk);(try clear hi))|((with_reducible refine gate_callee (f:=173) rfl ?_);refine goesL_ (some 12) rfl rfl Tryd.func173 (by kernel_rfl) rfl #[.pointer (some ⟨Ab,0,none⟩),.int .i64 12] rfl au_ ?_;(with_reducible refine (Aas.calls Ab l0 An Ao 12 true Aj Ak w _ ?side1 ?side2 A3.out).mono ?_);(case side1=>repeat (first|(with_reducible first|exact Aa.out|apply Aaa.alloc|apply Aaa.drewN|apply Aaa.drew|apply Aaa.set_1|apply Aaa.set_2)|exact Aa.out));(case side2=>repeat (first|(with_reducible first|exact HB.out|apply below_alloc|apply pw_below_drewN|apply below_drew1|refine below_set ?_ (Aaa.ge Aa.out))|exact HB.out));rintro e w10 ⟨rfl,hi,hb,hk⟩;refine ⟨_,rfl,?_⟩;replace HB:=A_ (hb);replace Aa:=A_ (hi);(try clear hb);(try clear hb2);(try clear hk);(try clear hi))|((with_reducible refine gate_callee (f:=161) rfl ?_);refine goesL_ (some 15) rfl rfl Tryd.func161 (by kernel_rfl) rfl #[.pointer (some ⟨Ab,0,none⟩),.int .i64 Af] rfl au_ ?_;(with_reducible refine (Aad.calls k Ab l0 Aj Ak Af Aq Ar As w _ ?side1 ?side2 A5.out).mono ?_);(case side1=>repeat (first|(with_reducible first|exact Aa.out|apply Aaa.alloc|apply Aaa.drewN|apply Aaa.drew|apply Aaa.set_1|apply Aaa.set_2)|exact Aa.out));(case side2=>repeat (first|(with_reducible first|exact HB.out|apply below_alloc|apply pw_below_drewN|apply below_drew1|refine below_set ?_ (Aaa.ge Aa.out))|exact HB.out));rintro e w11 ⟨Bn,rfl,ho0,hi,hb,hk⟩;refine ⟨_,rfl,?_⟩;have Al:=A_ (Kd.R_lower ho0 (below_size (by repeat (with_reducible first|exact HB.out|apply below_alloc|apply pw_below_drewN|apply below_drew1|refine below_set ?_ (Aaa.ge Aa.out)))));replace HB:=A_ (hb);replace Aa:=A_ (hi);(try clear hb);(try clear hb2);(try clear hk);(try clear hi);(try clear ho0))|((with_reducible refine gate_callee (f:=172) rfl ?_);refine goesL_ (some 18) rfl rfl Tryd.func172 (by kernel_rfl) rfl #[.pointer (some ⟨Ab,0,none⟩)] rfl au_ ?_;(with_reducible refine (Aa1.calls Ab l0 Ar As At Au Av w _ ?side1 ?side2 A6.out).mono ?_);(case side1=>repeat (first|(with_reducible first|exact Aa.out|apply Aaa.alloc|apply Aaa.drewN|apply Aaa.drew|apply Aaa.set_1|apply Aaa.set_2)|exact Aa.out));(case side2=>repeat (first|(with_reducible first|exact HB.out|apply below_alloc|apply pw_below_drewN|apply below_drew1|refine below_set ?_ (Aaa.ge Aa.out))|exact HB.out));rintro e w12 ⟨rfl,hi,hb,hk⟩;refine ⟨_,rfl,?_⟩;replace Al:=A_ (Kd.R_mono (Kd.R_keep (Aaa.apart (show Aaa w _ Ab l0 Ar As from by repeat (first|(with_reducible first|exact Aa.out|apply Aaa.alloc|apply Aaa.drewN|apply Aaa.drew|apply Aaa.set_1|apply Aaa.set_2)|exact Aa.out)) (rl_ Al) (by decide)) hk (fun _ h=>h.2)) (fun _ h=>h.1));replace HB:=A_ (hb);replace Aa:=A_ (hi);(try clear hb);(try clear hb2);(try clear hk);(try clear hi))|((with_reducible refine gate_callee (f:=161) rfl ?_);refine goesL_ (some 19) rfl rfl Tryd.func161 (by kernel_rfl) rfl #[.pointer (some ⟨Ab,0,none⟩),.int .i64 At] rfl au_ ?_;(with_reducible refine (Aad.calls k Ab l0 Au Av At Ba Bi Bj w _ ?side1 ?side2 A7.out).mono ?_);(case side1=>repeat (first|(with_reducible first|exact Aa.out|apply Aaa.alloc|apply Aaa.drewN|apply Aaa.drew|apply Aaa.set_1|apply Aaa.set_2)|exact Aa.out));(case side2=>repeat (first|(with_reducible first|exact HB.out|apply below_alloc|apply pw_below_drewN|apply below_drew1|refine below_set ?_ (Aaa.ge Aa.out))|exact HB.out));rintro e w13 ⟨Bo,rfl,ho0,hi,hb,hk⟩;refine ⟨_,rfl,?_⟩;have Be:=A_ (Kd.R_lower (Kd.R_new' ho0 (Kd.R_lt (rl_ Al))) (below_size (by repeat (with_reducible first|exact HB.out|apply below_alloc|apply pw_below_drewN|apply below_drew1|refine below_set ?_ (Aaa.ge Aa.out)))));replace Al:=A_ (Kd.R_mono (Kd.R_told (Kd.R_oldK (Aaa.apart (show Aaa w _ Ab l0 Au Av from by repeat (first|(with_reducible first|exact Aa.out|apply Aaa.alloc|apply Aaa.drewN|apply Aaa.drew|apply Aaa.set_1|apply Aaa.set_2)|exact Aa.out)) (rl_ Al) (by decide)) hk) (Kd.R_base ho0)) (fun _ h_=>h_.1));replace HB:=A_ (hb);replace Aa:=A_ (hi);(try clear hb);(try clear hb2);(try clear hk);(try clear hi);(try clear ho0)))
  go_ret2
  exact ⟨_,_,by first|rfl|(simp [errW_none,errW_some] <;> rfl)|(simp [*,errW_none,errW_some] <;> rfl),rq_ (Kd.R_mono Al.out (fun _ hk=>hk.2)),rq_ (Kd.R_mono Be.out (fun _ hk=>hk.2)),by repeat (first|(with_reducible first|exact HB.out|apply below_alloc|apply pw_below_drewN|apply below_drew1|refine below_set ?_ (Aaa.ge Aa.out))|exact HB.out)⟩
 ·replace c4:=Bool.eq_false_iff.mpr c4;subst c4;have H1 : ((Aad.f k l0 Aj Ak Af).bind fun Ae=>((Aad.f k l0 Ae.2.1 Ae.2.2 Af).bind fun Ai=>(some (Ae.1,Ai.1)))) = some (r1,r2):=by rw [if_neg (show ¬ (false = true) by decide)] at H;exact H
  clear H;have H:=H1;clear H1;replace H:=Option.bind_eq_some_iff.mp H;obtain ⟨⟨Ay,Aw,Ax⟩,Bf,H⟩:=H;replace H : ((Aad.f k l0 Aw Ax Af).bind fun Ai=>(some (Ay,Ai.1))) = some (r1,r2):=H;have A14:=A_ Bf;clear Bf;replace H:=Option.bind_eq_some_iff.mp H;obtain ⟨⟨Bb,Bk,Bl⟩,Bg,H⟩:=H;replace H : (some (Ay,Bb)) = some (r1,r2):=H;have A15:=A_ Bg;clear Bg;simp only [Option.some.injEq,Prod.mk.injEq] at H
  obtain ⟨rfl,rfl⟩:=H;go_enter Tryd.func86,Tryd.ntmps86
  go_wp2_with (first|((with_reducible refine gate_dst (N:=8) rfl ?_);refine box_event ?hg (N:=8) ?hd (cs:=#[.slice A0 l0.length c0,.int .i64 0,.int .u64 0]) (t:=103) ?hr ?_;(case hd=>rfl);(case hg=>rfl);(case hr=>go_simp;try rfl);intro Ab hg w16 hbox hb;have Aa:=A_ ((show Aaa w _ Ab l0 0 0 from ⟨_,_,hbox,(by rw [hg];exact (below_size bb_) : w.heap.size ≤ Ab),HR0.out⟩));have Bc:=A_ (gw_ (w:=w) hg bb_);have Bd:=A_ (gw_ (w:=w) hg bb_);replace HB:=A_ (below_step bb_ hb);clear hb hbox hg)|((with_reducible refine gate_callee (f:=172) rfl ?_);refine goesL_ (some 10) rfl rfl Tryd.func172 (by kernel_rfl) rfl #[.pointer (some ⟨Ab,0,none⟩)] rfl au_ ?_;(with_reducible refine (Aa1.calls Ab l0 0 0 Af An Ao w _ ?side1 ?side2 A2.out).mono ?_);(case side1=>repeat (first|(with_reducible first|exact Aa.out|apply Aaa.alloc|apply Aaa.drewN|apply Aaa.drew|apply Aaa.set_1|apply Aaa.set_2)|exact Aa.out));(case side2=>repeat (first|(with_reducible first|exact HB.out|apply below_alloc|apply pw_below_drewN|apply below_drew1|refine below_set ?_ (Aaa.ge Aa.out))|exact HB.out));rintro e w17 ⟨rfl,hi,hb,hk⟩;refine ⟨_,rfl,?_⟩;replace HB:=A_ (hb);replace Aa:=A_ (hi);(try clear hb);(try clear hb2);(try clear hk);(try clear hi))|((with_reducible refine gate_callee (f:=173) rfl ?_);refine goesL_ (some 12) rfl rfl Tryd.func173 (by kernel_rfl) rfl #[.pointer (some ⟨Ab,0,none⟩),.int .i64 12] rfl au_ ?_;(with_reducible refine (Aas.calls Ab l0 An Ao 12 false Aj Ak w _ ?side1 ?side2 A3.out).mono ?_);(case side1=>repeat (first|(with_reducible first|exact Aa.out|apply Aaa.alloc|apply Aaa.drewN|apply Aaa.drew|apply Aaa.set_1|apply Aaa.set_2)|exact Aa.out));(case side2=>repeat (first|(with_reducible first|exact HB.out|apply below_alloc|apply pw_below_drewN|apply below_drew1|refine below_set ?_ (Aaa.ge Aa.out))|exact HB.out));rintro e w18 ⟨rfl,hi,hb,hk⟩;refine ⟨_,rfl,?_⟩;replace HB:=A_ (hb);replace Aa:=A_ (hi);(try clear hb);(try clear hb2);(try clear hk);(try clear hi))|((with_reducible refine gate_callee (f:=161) rfl ?_);refine goesL_ (some 22) rfl rfl Tryd.func161 (by kernel_rfl) rfl #[.pointer (some ⟨Ab,0,none⟩),.int .i64 Af] rfl au_ ?_;(with_reducible refine (Aad.calls k Ab l0 Aj Ak Af Ay Aw Ax w _ ?side1 ?side2 A14.out).mono ?_);(case side1=>repeat (first|(with_reducible first|exact Aa.out|apply Aaa.alloc|apply Aaa.drewN|apply Aaa.drew|apply Aaa.set_1|apply Aaa.set_2)|exact Aa.out));(case side2=>repeat (first|(with_reducible first|exact HB.out|apply below_alloc|apply pw_below_drewN|apply below_drew1|refine below_set ?_ (Aaa.ge Aa.out))|exact HB.out));rintro e w19 ⟨Bp,rfl,ho0,hi,hb,hk⟩;refine ⟨_,rfl,?_⟩;have Ap:=A_ (Kd.R_lower ho0 (below_size (by repeat (with_reducible first|exact HB.out|apply below_alloc|apply pw_below_drewN|apply below_drew1|refine below_set ?_ (Aaa.ge Aa.out)))));replace HB:=A_ (hb);replace Aa:=A_ (hi);(try clear hb);(try clear hb2);(try clear hk);(try clear hi);(try clear ho0))|((with_reducible refine gate_callee (f:=161) rfl ?_);refine goesL_ (some 25) rfl rfl Tryd.func161 (by kernel_rfl) rfl #[.pointer (some ⟨Ab,0,none⟩),.int .i64 Af] rfl au_ ?_;(with_reducible refine (Aad.calls k Ab l0 Aw Ax Af Bb Bk Bl w _ ?side1 ?side2 A15.out).mono ?_);(case side1=>repeat (first|(with_reducible first|exact Aa.out|apply Aaa.alloc|apply Aaa.drewN|apply Aaa.drew|apply Aaa.set_1|apply Aaa.set_2)|exact Aa.out));(case side2=>repeat (first|(with_reducible first|exact HB.out|apply below_alloc|apply pw_below_drewN|apply below_drew1|refine below_set ?_ (Aaa.ge Aa.out))|exact HB.out));rintro e w20 ⟨Bq,rfl,ho0,hi,hb,hk⟩;refine ⟨_,rfl,?_⟩;have Bh:=A_ (Kd.R_lower (Kd.R_new' ho0 (Kd.R_lt (rl_ Ap))) (below_size (by repeat (with_reducible first|exact HB.out|apply below_alloc|apply pw_below_drewN|apply below_drew1|refine below_set ?_ (Aaa.ge Aa.out)))));replace Ap:=A_ (Kd.R_mono (Kd.R_told (Kd.R_oldK (Aaa.apart (show Aaa w _ Ab l0 Aw Ax from by repeat (first|(with_reducible first|exact Aa.out|apply Aaa.alloc|apply Aaa.drewN|apply Aaa.drew|apply Aaa.set_1|apply Aaa.set_2)|exact Aa.out)) (rl_ Ap) (by decide)) hk) (Kd.R_base ho0)) (fun _ h_=>h_.1));replace HB:=A_ (hb);replace Aa:=A_ (hi);(try clear hb);(try clear hb2);(try clear hk);(try clear hi);(try clear ho0)))
  go_ret2
  exact ⟨_,_,by first|rfl|(simp [errW_none,errW_some] <;> rfl)|(simp [*,errW_none,errW_some] <;> rfl),rq_ (Kd.R_mono Ap.out (fun _ hk=>hk.2)),rq_ (Kd.R_mono Bh.out (fun _ hk=>hk.2)),by repeat (first|(with_reducible first|exact HB.out|apply below_alloc|apply pw_below_drewN|apply below_drew1|refine below_set ?_ (Aaa.ge Aa.out))|exact HB.out)⟩
def Aa9.f (l0 : List Int) (a1 : Int) : Option (Int × Bool) := if l0.length < 17592186043904 ∧ l0.Pairwise (· ≤ ·) then some (((l0.countP fun y => decide (y < a1) : Nat) : Int), l0.contains a1) else none
theorem Aa9.calls (A0 : Option Addr) (c0 : Nat) (l0 : List Int) (a1 : Int) (r1 : Int) (r2 : Bool) (w : World) (hr0 : Kd.C (Kd.int .i64) w A0 l0.length l0) (hc0 : l0.length ≤ c0) (h : Aa9.f l0 a1 = some (r1,r2)) :
 Calls Tryd.prog 224 #[.slice A0 l0.length c0,.int .i64 a1] w fun e w'=>e = .returned (.tuple #[.int .i64 r1,.bool r2]) ∧ Drawn0 w w':=by
 clear hc0;unfold Aa9.f at h
 split at h
 ·rename_i hz
  injection h with h;injection h with h1 h2;subst h1 h2;refine (HD.search_calls A0 c0 l0 a1 w hz.1 hz.2 hr0).mono ?_
  rintro e w' ⟨rfl,q,rfl⟩
  exact ⟨rfl,q,rfl⟩
 ·cases h
def Aa7.l0 : Nat → List Int → List Int → List Int → Int → Int → Option (List Int)
 | 0,_,_,_,_,_=>none
 | k + 1,x3,x4,x12,x13,x14=>if x14 < x13 then (if 0 ≤ x14 then (if x14 < (x12.length : Int) then ((Aa9.f x4 (rd x12 x14)).bind fun bt1038=>(if x3.length < 17592186044416 then (Aa7.l0 k (x3 ++ [bt1038.1]) x4 x12 x13 (wrap64 (x14 + 1))) else (none))) else (none)) else (none)) else (some x3)
def Aa7.f (k : Nat) (l0 : List Int) : Option (List Int) := (Abj.f l0).bind fun t1034 => (Aa7.l0 k (([] : List Int)) t1034 l0 (l0.length : Int) 0)
set_option maxHeartbeats 8000000 in
set_option maxRecDepth 100000 in
theorem Aa7.calls (k : Nat) (A0 : Option Addr) (c0 : Nat) (l0 : List Int) (r : List Int) (w : World) (hr0 : Kd.C (Kd.int .i64) w A0 l0.length l0) (hc0 : l0.length ≤ c0) (h : Aa7.f k l0 = some r) :
 Calls Tryd.prog 174 #[.slice A0 l0.length c0] w fun e w'=>∃ v0_ : Value,e = .returned (v0_) ∧ Kd.R (Kd.int .i64) 3 w' w.heap.size (fun _=>True) v0_ r ∧ Below w.heap.size w w':=by
 have HR0:=A_ hr0;have HC0:=A_ hc0;clear hr0 hc0;have HB:=A_ (Below.refl w.heap.size w);have H : ((Abj.f l0).bind fun Aa=>(Aa7.l0 k (([] : List Int)) Aa l0 (l0.length : Int) 0)) = some r:=h;clear h;obtain ⟨Ag,Ab⟩ : ∃ y_ : List Int,y_ = (([] : List Int)):=⟨_,rfl⟩;replace H : ((Abj.f l0).bind fun Aa=>(Aa7.l0 k Ag Aa l0 (l0.length : Int) 0)) = some r:=by first|(rw [Ab];with_reducible exact H)|(have H2_:=(Option.bind_some _ _).symm.trans H;rw [Ab];with_reducible exact H2_)|(have H2_:=(Option.bind_some _ _).symm.trans H;with_reducible exact H2_)|with_reducible exact H|(rw [Ab];exact H)|exact H
 have Aj:=A_ Ab;clear Ab;replace H:=Option.bind_eq_some_iff.mp H;obtain ⟨Aa,A20,H⟩:=H;replace H : (Aa7.l0 k Ag Aa l0 (l0.length : Int) 0) = some r:=H;have A2:=A_ A20;clear A20;have H':=A_ H;clear H;go_enter Tryd.func174,Tryd.ntmps174
 go_wp2_with (first|((with_reducible refine gate_dst (N:=9) rfl ?_);refine Kd.R_lit (Kd.int .i64) _ 3 ?hg (N:=9) ?hd (xs:=([] : List Int)) (inner:=[]) (ok:=fun _=>True) (okp:=fun _=>True) ?hr ?hp (fun _ hk=>hk) trivial (Below.refl _ _) (Nat.le_refl _) (by simp) ?_;(case hd=>rfl);(case hg=>rfl);(case hr=>go_simp;try rfl);(case hp=>exact (Reps.none _ _));intro As w3 ho4 hb hg_ hnew_;clear hg_ hnew_;(first|rw [← Aj.out] at ho4|(simp only [Int.reduceToNat] at ho4;rw [← Aj.out] at ho4));have Ae:=A_ (Kd.R_lower ho4 (below_size bb_));replace HB:=A_ (below_step bb_ hb);clear hb ho4)|((with_reducible refine gate_callee (f:=196) rfl ?_);refine goesL_ (some 11) rfl rfl Tryd.func196 (by kernel_rfl) rfl #[.slice A0 l0.length c0] rfl au_ ?_;(with_reducible refine (Abj.calls _ _ l0 Aa _ ?side1 ?side2 A2.out).mono ?_);(case side1=>exact cl_ (Kd.C_below HR0.out HB.out));(case side2=>exact HC0.out);rintro e w5 ⟨Ak,rfl,ho0,hb⟩;refine ⟨_,rfl,?_⟩;have Am:=A_ (Kd.R_lower (Kd.R_new' ho0 (Kd.R_lt (rl_ Ae))) (below_size bb_));replace Ae:=A_ (Kd.R_elder' (rl_ Ae) (Kd.R_base ho0) hb);replace HB:=A_ (below_step bb_ hb);(try clear hb);(try clear hb2);(try clear hk);(try clear hi);(try clear ho0)))
 go_loopg [3,14] k (fun kq v3 v14 w'=>∃ (x3_1 : List Int) (x14_1 : Int),v14 = .int .i64 x14_1 ∧ Aside0 (Aa7.l0 kq x3_1 Aa l0 (l0.length : Int) x14_1 = some r) ∧ Aside0 (kq ≤ k) ∧ Aside0 (Kd.R (Kd.int .i64) 3 w' w.heap.size (fun k_=>some k_ ≠ (Ak : Value).ownBlock) v3 x3_1) ∧ Aside0 (Kd.R (Kd.int .i64) 3 w' w.heap.size (fun k_=>some k_ ≠ (v3 : Value).ownBlock) Ak Aa) ∧ Aside0 (Below w.heap.size w w'))
 case atStart=>exact ⟨(Ag),(0),(by first|rfl|(simp;done)|(simp [*];done)),H',⟨Nat.le_refl _⟩,⟨rq_ (Kd.R_mono Ae.out (fun _ hk=>hk.2))⟩,⟨rq_ (Kd.R_mono Am.out (fun _ hk=>hk.2))⟩,⟨bb_⟩⟩
 case round =>
  clear H';try clear c1
  try clear p2
  obtain ⟨x3_1,x14_1,rfl,HA,HK1,HO_3,HO_4,HB⟩:=hrel;cases gk with
  | zero => exact absurd HA.out (by simp [Aa7.l0])
  | succ k1 =>
   have H:=HA.out;clear HA;simp only [Aa7.l0] at H
   by_cases c6 : x14_1 < (l0.length : Int)
   ·rw [if_pos c6] at H;have c6b0 : decide (x14_1 < (l0.length : Int)) = true:=decide_eq_true c6;clear c6;by_cases c7 : 0 ≤ x14_1
    ·rw [if_pos c7] at H;have c7b0 : decide (0 ≤ x14_1) = true:=decide_eq_true c7;clear c7;by_cases c8 : x14_1 < (l0.length : Int)
     ·rw [if_pos c8] at H;have c8b0 : decide (x14_1 < (l0.length : Int)) = true:=decide_eq_true c8;clear c8;replace H:=Option.bind_eq_some_iff.mp H;obtain ⟨⟨Af,Ap⟩,A90,H⟩:=H;replace H : (if x3_1.length < 17592186044416 then (Aa7.l0 k1 (x3_1 ++ [Af]) Aa l0 (l0.length : Int) (wrap64 (x14_1 + 1))) else (none)) = some r:=H;have A9:=A_ A90;clear A90;by_cases c10 : x3_1.length < 17592186044416
      ·rw [if_pos c10] at H;have LMc10:=A_ c10;clear c10;obtain ⟨Al,Ac⟩ : ∃ y_ : List Int,y_ = (x3_1 ++ [Af]):=⟨_,rfl⟩;replace H : (Aa7.l0 k1 Al Aa l0 (l0.length : Int) (wrap64 (x14_1 + 1))) = some r:=by first|(rw [Ac];with_reducible exact H)|(have H2_:=(Option.bind_some _ _).symm.trans H;rw [Ac];with_reducible exact H2_)|(have H2_:=(Option.bind_some _ _).symm.trans H;with_reducible exact H2_)|with_reducible exact H|(rw [Ac];exact H)|exact H
       have An:=A_ Ac;clear Ac;have H':=A_ H;clear H;have Ah : 0 ≤ (x14_1 : Int):=of_decide_eq_true (by first|(with_reducible assumption)|assumption);have Ai : x14_1 < (l0.length : Int):=of_decide_eq_true (by first|(with_reducible assumption)|assumption);obtain ⟨Ar,Aq,Ad⟩:=Kd.at_int HR0.out x14_1 Ah Ai;cases Aq
       (try replace Ad:=(HB.out.cell (World.block_lt_of_cell? w _ Ad)).trans Ad);replace Ah:=eq_true Ah;replace Ai:=eq_true Ai;obtain ⟨Ao11,co11,eo11⟩:=Kd.R_slice HO_4.out;subst eo11;go_wp2_with (first|((with_reducible refine gate_callee (f:=224) rfl ?_);refine goesL_ (some 21) rfl rfl Tryd.func224 (by kernel_rfl) rfl #[.slice Ao11 Aa.length co11,.int .i64 (rd l0 x14_1)] rfl au_ ?_;(with_reducible refine (Aa9.calls _ _ Aa (rd l0 x14_1) Af Ap _ ?side1 ?side2 A9.out).mono ?_);(case side1=>exact cl_ (Kd.R_reads' HO_4.out).2.2);(case side2=>exact (Kd.R_reads' HO_4.out).2.1);rintro e w' ⟨rfl,⟨nd,rfl⟩⟩;refine ⟨_,rfl,?_⟩)|((with_reducible refine gate_builtin (b:=.append) (xs:=#[.tmp 24,.tmp 26]) rfl ?_);at_builtin;refine Kd.R_append (Kd.int .i64) (w0:=w) w.heap.size rfl (.tmp 24) (.tmp 26) 22 3 (.int .i64 0) 8 rfl Tryd.underlying22 info3 rfl (by decide) (by omega) u3 x3_1 Af [.int .i64 Af] (fun k_=>some k_ ≠ (.slice Ao11 Aa.length co11 : Value).ownBlock) (fun _=>False) rfl rfl ?aP (fun _ hk=>hk.elim) ?aF ?aO ?aB ?aS ?aL ?_;(case aP=>exact rfl);(case aB=>exact bb_);(case aF=>exact (fun k_ hk=>Kd.fresh' (Kd.R_lt (rl_ HO_4)) k_ hk));(case aO=>exact (rl_ HO_3));(case aS=>exact (below_size bb_));(case aL=>have:=LMc10.out;omega);intro At w12 ho hb hg hat;rw [← An.out] at ho;replace HO_4:=A_ (Kd.R_after (ok:=(fun _=>True)) (rq_ (Kd.R_mono HO_4.out (fun _ hk=>⟨trivial,hk⟩))) hg hat);replace HB:=A_ (hb);have Ao:=A_ (ho);clear HO_3;clear ho hb hg hat))
       go_roundg k1
       case measure=>have:=HK1.out;omega
       case rel=>exact ⟨(Al),(wrap64 (x14_1 + 1)),(by first|rfl|(simp;done)|(simp [*];done)),H',⟨by have:=HK1.out;omega⟩,⟨rl_ Ao⟩,⟨rq_ (Kd.R_mono HO_4.out (fun _ hk=>hk.2))⟩,⟨bb_⟩⟩
      ·rw [if_neg c10] at H;exact absurd H (by simp)
     ·rw [if_neg c8] at H;exact absurd H (by simp)
    ·rw [if_neg c7] at H;exact absurd H (by simp)
   ·rw [if_neg c6] at H;have c6b0 : decide (x14_1 < (l0.length : Int)) = false:=decide_eq_false c6;clear c6;obtain rfl:=Option.some.inj H;go_wp2
    go_ret
    exact ⟨_,by first|rfl|(simp [errW_none,errW_some] <;> rfl)|(simp [*,errW_none,errW_some] <;> rfl),rq_ (Kd.R_mono HO_3.out (fun _ hk=>trivial)),bb_⟩
mutual
def Aak.j0 : Nat → List Int → List Int → Bool → Option (List Int × Bool)
 | 0,_,_,_=>none
 | k + 1,x0,x1,x23=>if x23 = true then (some (([] : List Int),false)) else (Aak.l0 k x1 (([] : List Int)) x0 (x0.length : Int) 0)
def Aak.l0 : Nat → List Int → List Int → List Int → Int → Int → Option (List Int × Bool)
 | 0,_,_,_,_,_=>none
 | k + 1,x1,x6,x25,x26,x27=>if x27 < x26 then (if 0 ≤ x27 then (if x27 < (x25.length : Int) then (if x27 < (x1.length : Int) then (if x6.length < 17592186044416 then (Aak.l0 k x1 (x6 ++ [wrap64 ((wrap64 ((rd x25 x27) * 11)) + (rd x1 x27))]) x25 x26 (wrap64 (x27 + 1))) else (none)) else (none)) else (none)) else (none)) else ((Aa7.f k x6).bind fun t1053=>(some (t1053,true)))
end
def Aak.f (k : Nat) (l0 : List Int) (l1 : List Int) : Option (List Int × Bool) := (Aau.f k l0).bind fun t1043 => (if t1043 = true then ((Aau.f k l1).bind fun t1044 => (if t1044 = true then (Aak.j0 k l0 l1 ((l0.length : Int) != (l1.length : Int))) else (Aak.j0 k l0 l1 true))) else (Aak.j0 k l0 l1 true))
set_option maxHeartbeats 8000000 in
set_option maxRecDepth 100000 in
theorem Aak.calls (k : Nat) (A0 : Option Addr) (c0 : Nat) (l0 : List Int) (A1 : Option Addr) (c1 : Nat) (l1 : List Int) (r1 : List Int) (r2 : Bool) (w : World) (hr0 : Kd.C (Kd.int .i64) w A0 l0.length l0) (hc0 : l0.length ≤ c0) (hr1 : Kd.C (Kd.int .i64) w A1 l1.length l1) (hc1 : l1.length ≤ c1) (h : Aak.f k l0 l1 = some (r1,r2)) :
 Calls Tryd.prog 87 #[.slice A0 l0.length c0,.slice A1 l1.length c1] w fun e w'=>∃ v0_ : Value,e = .returned (.tuple #[v0_,.bool r2]) ∧ Kd.R (Kd.int .i64) 3 w' w.heap.size (fun _=>True) v0_ r1 ∧ Below w.heap.size w w':=by
 have HR0:=A_ hr0;have HC0:=A_ hc0;clear hr0 hc0;have HR1:=A_ hr1;have HC1:=A_ hc1;clear hr1 hc1;have HB:=A_ (Below.refl w.heap.size w);have H : ((Aau.f k l0).bind fun Af=>(if Af = true then ((Aau.f k l1).bind fun Aa=>(if Aa = true then (Aak.j0 k l0 l1 ((l0.length : Int) != (l1.length : Int))) else (Aak.j0 k l0 l1 true))) else (Aak.j0 k l0 l1 true))) = some (r1,r2):=h;clear h;have HC3:=A_ H;clear H;go_enter Tryd.func87,Tryd.ntmps87
 go_upto_region 1 with (fail)
 go_cut [23] (fun v23 wc=>∃ (kq : Nat) (x23_2 : Bool),v23 = .bool x23_2 ∧ Aside0 (Aak.j0 kq l0 l1 x23_2 = some (r1,r2)) ∧ Aside0 (kq ≤ k) ∧ Aside0 (Below w.heap.size w wc))
 case first =>
  have H:=HC3.out;clear HC3;replace H:=Option.bind_eq_some_iff.mp H;obtain ⟨Af,A40,H⟩:=H;replace H : (if Af = true then ((Aau.f k l1).bind fun Aa=>(if Aa = true then (Aak.j0 k l0 l1 ((l0.length : Int) != (l1.length : Int))) else (Aak.j0 k l0 l1 true))) else (Aak.j0 k l0 l1 true)) = some (r1,r2):=H;have A4:=A_ A40;clear A40;by_cases c5 : Af = true
  ·subst c5;have H1 : ((Aau.f k l1).bind fun Aa=>(if Aa = true then (Aak.j0 k l0 l1 ((l0.length : Int) != (l1.length : Int))) else (Aak.j0 k l0 l1 true))) = some (r1,r2):=by rw [if_pos rfl] at H;exact H
   clear H;have H:=H1;clear H1;replace H:=Option.bind_eq_some_iff.mp H;obtain ⟨Aa,A60,H⟩:=H;replace H : (if Aa = true then (Aak.j0 k l0 l1 ((l0.length : Int) != (l1.length : Int))) else (Aak.j0 k l0 l1 true)) = some (r1,r2):=H;have A6:=A_ A60;clear A60;by_cases c7 : Aa = true
   ·subst c7;have H1 : (Aak.j0 k l0 l1 ((l0.length : Int) != (l1.length : Int))) = some (r1,r2):=by rw [if_pos rfl] at H;exact H
    clear H;have H:=H1;clear H1;have H':=A_ H;clear H;go_wp2_with (first|((with_reducible refine gate_callee (f:=153) rfl ?_);refine goesL_ (some 10) rfl rfl Tryd.func153 (by kernel_rfl) rfl #[.slice A0 l0.length c0] rfl au_ ?_;(with_reducible refine (Aau.calls k _ _ l0 true _ ?side1 ?side2 A4.out).mono ?_);(case side1=>exact cl_ (Kd.C_below HR0.out HB.out));(case side2=>exact HC0.out);rintro e w8 ⟨rfl,hb⟩;refine ⟨_,rfl,?_⟩;replace HB:=A_ (below_step bb_ hb);(try clear hb);(try clear hb2);(try clear hk);(try clear hi))|(go_at_call 153;(with_reducible refine (Aau.calls k _ _ l1 true _ ?side1 ?side2 A6.out).mono ?_);(case side1=>exact cl_ (Kd.C_below HR1.out HB.out));(case side2=>exact HC1.out);rintro e w9 ⟨rfl,hb⟩;replace HB:=A_ (below_step bb_ hb);(try clear hb);(try clear hb2);(try clear hk);(try clear hi)))
    go_meet
    case rel=>exact ⟨_,(((l0.length : Int) != (l1.length : Int))),(by first|rfl|(simp;done)|(simp [*];done)),H',⟨by first|omega|exact Nat.le_refl _⟩,⟨bb_⟩⟩
   ·replace c7:=Bool.eq_false_iff.mpr c7;subst c7;have H1 : (Aak.j0 k l0 l1 true) = some (r1,r2):=by rw [if_neg (show ¬ (false = true) by decide)] at H;exact H
    clear H;have H:=H1;clear H1;have H':=A_ H;clear H;go_wp2_with (first|((with_reducible refine gate_callee (f:=153) rfl ?_);refine goesL_ (some 10) rfl rfl Tryd.func153 (by kernel_rfl) rfl #[.slice A0 l0.length c0] rfl au_ ?_;(with_reducible refine (Aau.calls k _ _ l0 true _ ?side1 ?side2 A4.out).mono ?_);(case side1=>exact cl_ (Kd.C_below HR0.out HB.out));(case side2=>exact HC0.out);rintro e w10 ⟨rfl,hb⟩;refine ⟨_,rfl,?_⟩;replace HB:=A_ (below_step bb_ hb);(try clear hb);(try clear hb2);(try clear hk);(try clear hi))|(go_at_call 153;(with_reducible refine (Aau.calls k _ _ l1 false _ ?side1 ?side2 A6.out).mono ?_);(case side1=>exact cl_ (Kd.C_below HR1.out HB.out));(case side2=>exact HC1.out);rintro e w11 ⟨rfl,hb⟩;replace HB:=A_ (below_step bb_ hb);(try clear hb);(try clear hb2);(try clear hk);(try clear hi)))
    go_meet
    case rel=>exact ⟨_,(true),(by first|rfl|(simp;done)|(simp [*];done)),H',⟨by first|omega|exact Nat.le_refl _⟩,⟨bb_⟩⟩
  ·replace c5:=Bool.eq_false_iff.mpr c5;subst c5;have H1 : (Aak.j0 k l0 l1 true) = some (r1,r2):=by rw [if_neg (show ¬ (false = true) by decide)] at H;exact H
   clear H;have H:=H1;clear H1;have H':=A_ H;clear H;go_wp2_with (first|((with_reducible refine gate_callee (f:=153) rfl ?_);refine goesL_ (some 10) rfl rfl Tryd.func153 (by kernel_rfl) rfl #[.slice A0 l0.length c0] rfl au_ ?_;(with_reducible refine (Aau.calls k _ _ l0 false _ ?side1 ?side2 A4.out).mono ?_);(case side1=>exact cl_ (Kd.C_below HR0.out HB.out));(case side2=>exact HC0.out);rintro e w12 ⟨rfl,hb⟩;refine ⟨_,rfl,?_⟩;replace HB:=A_ (below_step bb_ hb);(try clear hb);(try clear hb2);(try clear hk);(try clear hi)))
   go_meet
   case rel=>exact ⟨_,(true),(by first|rfl|(simp;done)|(simp [*];done)),H',⟨by first|omega|exact Nat.le_refl _⟩,⟨bb_⟩⟩
 case rest =>
  clear HC3;try clear c1
  try clear p2
  try clear c5
  try clear c7
  try clear c8
  obtain ⟨kq,x23_2,rfl,HA,HJ2,HB⟩:=hcut;cases kq with
  | zero => exact absurd HA.out (by simp [Aak.j0])
  | succ kj2 =>
   have H:=HA.out;clear HA;simp only [Aak.j0] at H
   by_cases c13 : x23_2 = true
   ·subst c13;have H1 : (some (([] : List Int),false)) = some (r1,r2):=by rw [if_pos rfl] at H;exact H
    clear H;have H:=H1;clear H1;simp only [Option.some.injEq,Prod.mk.injEq] at H
    obtain ⟨rfl,rfl⟩:=H;go_wp2
    go_ret2
    exact ⟨_,by first|rfl|(simp [errW_none,errW_some] <;> rfl)|(simp [*,errW_none,errW_some] <;> rfl),by first|exact Kd.R_nil _ _ _ _ _|exact Kd.N_nil _ _ _ _ _|exact Kd.V_nil _ _ _ _ _|exact Kd.Q_nil _ _ _ _ _|exact Kd.S_nil _ _ _ _ _,bb_⟩
   ·replace c13:=Bool.eq_false_iff.mpr c13;subst c13;have H1 : (Aak.l0 kj2 l1 (([] : List Int)) l0 (l0.length : Int) 0) = some (r1,r2):=by rw [if_neg (show ¬ (false = true) by decide)] at H;exact H
    clear H;have H:=H1;clear H1;obtain ⟨Al,Ab⟩ : ∃ y_ : List Int,y_ = (([] : List Int)):=⟨_,rfl⟩;replace H : (Aak.l0 kj2 l1 Al l0 (l0.length : Int) 0) = some (r1,r2):=by first|(rw [Ab];with_reducible exact H)|(have H2_:=(Option.bind_some _ _).symm.trans H;rw [Ab];with_reducible exact H2_)|(have H2_:=(Option.bind_some _ _).symm.trans H;with_reducible exact H2_)|with_reducible exact H|(rw [Ab];exact H)|exact H
    have Ak:=A_ Ab;clear Ab;have H':=A_ H;clear H;go_wp2_with (first|((with_reducible refine gate_dst (N:=24) rfl ?_);(try (refine gate_guard (by rfl) ?_;dsimp only));refine Kd.R_lit (Kd.int .i64) _ 3 ?hg (N:=24) ?hd (xs:=([] : List Int)) (inner:=[]) (ok:=fun _=>True) (okp:=fun _=>True) ?hr ?hp (fun _ hk=>hk) trivial (Below.refl _ _) (Nat.le_refl _) (by simp) ?_;(case hd=>rfl);(case hg=>rfl);(case hr=>go_simp;try rfl);(case hp=>exact (Reps.none _ _));intro Ax w14 ho15 hb hg_ hnew_;clear hg_ hnew_;(first|rw [← Ak.out] at ho15|(simp only [Int.reduceToNat] at ho15;rw [← Ak.out] at ho15));have Ao:=A_ (Kd.R_lower ho15 (below_size bb_));replace HB:=A_ (below_step bb_ hb);clear hb ho15))
    go_loopg [6,27] kj2 (fun kq v6 v27 w'=>∃ (x6_2 : List Int) (x27_2 : Int),v27 = .int .i64 x27_2 ∧ Aside0 (Aak.l0 kq l1 x6_2 l0 (l0.length : Int) x27_2 = some (r1,r2)) ∧ Aside0 (kq ≤ kj2) ∧ Aside0 (Kd.R (Kd.int .i64) 3 w' w.heap.size (fun _=>True) v6 x6_2) ∧ Aside0 (Below w.heap.size w w'))
    case atStart=>exact ⟨(Al),(0),(by first|rfl|(simp;done)|(simp [*];done)),H',⟨Nat.le_refl _⟩,⟨rl_ Ao⟩,⟨bb_⟩⟩
    case round =>
     clear H';try clear c1
     try clear p2
     try clear c5
     try clear c7
     try clear c8
     try clear c13
     try clear c15
     try clear p2
     obtain ⟨x6_2,x27_2,rfl,HA,HK2,HO_6,HB⟩:=hrel;cases gk with
     | zero=>exact absurd HA.out (by simp [Aak.l0])
     | succ k2 =>
      have H:=HA.out;clear HA;simp only [Aak.l0] at H
      by_cases c16 : x27_2 < (l0.length : Int)
      ·rw [if_pos c16] at H;have c16b0 : decide (x27_2 < (l0.length : Int)) = true:=decide_eq_true c16;clear c16;by_cases c17 : 0 ≤ x27_2
       ·rw [if_pos c17] at H;have c17b0 : decide (0 ≤ x27_2) = true:=decide_eq_true c17;clear c17;by_cases c18 : x27_2 < (l0.length : Int)
        ·rw [if_pos c18] at H;have c18b0 : decide (x27_2 < (l0.length : Int)) = true:=decide_eq_true c18;clear c18;by_cases c19 : x27_2 < (l1.length : Int)
         ·rw [if_pos c19] at H;have c19b0 : decide (x27_2 < (l1.length : Int)) = true:=decide_eq_true c19;clear c19;by_cases c20 : x6_2.length < 17592186044416
          ·rw [if_pos c20] at H;have LMc20:=A_ c20;clear c20;obtain ⟨Am,Ac⟩ : ∃ y_ : List Int,y_ = (x6_2 ++ [wrap64 ((wrap64 ((rd l0 x27_2) * 11)) + (rd l1 x27_2))]):=⟨_,rfl⟩;replace H : (Aak.l0 k2 l1 Am l0 (l0.length : Int) (wrap64 (x27_2 + 1))) = some (r1,r2):=by first|(rw [Ac];with_reducible exact H)|(have H2_:=(Option.bind_some _ _).symm.trans H;rw [Ac];with_reducible exact H2_)|(have H2_:=(Option.bind_some _ _).symm.trans H;with_reducible exact H2_)|with_reducible exact H|(rw [Ac];exact H)|exact H
           have Ap:=A_ Ac;clear Ac;have H':=A_ H;clear H;have Ag : 0 ≤ (x27_2 : Int):=of_decide_eq_true (by first|(with_reducible assumption)|assumption);have Ah : x27_2 < (l0.length : Int):=of_decide_eq_true (by first|(with_reducible assumption)|assumption);obtain ⟨Av,At,Ad⟩:=Kd.at_int HR0.out x27_2 Ag Ah;cases At
           (try replace Ad:=(HB.out.cell (World.block_lt_of_cell? w _ Ad)).trans Ad);replace Ag:=eq_true Ag;replace Ah:=eq_true Ah;have Ai : 0 ≤ (x27_2 : Int):=of_decide_eq_true (by first|(with_reducible assumption)|assumption);have Aj : x27_2 < (l1.length : Int):=of_decide_eq_true (by first|(with_reducible assumption)|assumption);obtain ⟨Aw,Au,Ae⟩:=Kd.at_int HR1.out x27_2 Ai Aj;cases Au
           (try replace Ae:=(HB.out.cell (World.block_lt_of_cell? w _ Ae)).trans Ae);replace Ai:=eq_true Ai;replace Aj:=eq_true Aj;go_wp2_with (first|((with_reducible refine gate_builtin (b:=.append) (xs:=#[.tmp 32,.tmp 40]) rfl ?_);(try (refine gate_guard (by rfl) ?_;dsimp only));at_builtin;refine Kd.R_append (Kd.int .i64) (w0:=w) w.heap.size rfl (.tmp 32) (.tmp 40) 22 3 (.int .i64 0) 8 rfl Tryd.underlying22 info3 rfl (by decide) (by omega) u6 x6_2 (wrap64 ((wrap64 ((rd l0 x27_2) * 11)) + (rd l1 x27_2))) [.int .i64 (wrap64 ((wrap64 ((rd l0 x27_2) * 11)) + (rd l1 x27_2)))] (fun _=>True) (fun _=>False) rfl rfl ?aP (fun _ hk=>hk.elim) ?aF ?aO ?aB ?aS ?aL ?_;(case aP=>exact rfl);(case aB=>exact bb_);(case aF=>exact (fun _ _=>trivial));(case aO=>exact (rl_ HO_6));(case aS=>exact (below_size bb_));(case aL=>have:=LMc20.out;omega);intro Ay w21 ho hb hg hat;rw [← Ap.out] at ho;replace HB:=A_ (hb);have Aq:=A_ (ho);clear HO_6;clear ho hb hg hat))
           go_roundg k2
           case measure=>have:=HJ2.out;have:=HK2.out;omega
           case rel=>exact ⟨(Am),(wrap64 (x27_2 + 1)),(by first|rfl|(simp;done)|(simp [*];done)),H',⟨by have:=HJ2.out;have:=HK2.out;omega⟩,⟨rl_ Aq⟩,⟨bb_⟩⟩
          ·rw [if_neg c20] at H;exact absurd H (by simp)
         ·rw [if_neg c19] at H;exact absurd H (by simp)
        ·rw [if_neg c18] at H;exact absurd H (by simp)
       ·rw [if_neg c17] at H;exact absurd H (by simp)
      ·rw [if_neg c16] at H;have c16b0 : decide (x27_2 < (l0.length : Int)) = false:=decide_eq_false c16;clear c16;replace H:=Option.bind_eq_some_iff.mp H;obtain ⟨An,Ar,H⟩:=H;replace H : (some (An,true)) = some (r1,r2):=H;have A22:=A_ Ar;clear Ar;simp only [Option.some.injEq,Prod.mk.injEq] at H
       obtain ⟨rfl,rfl⟩:=H;obtain ⟨Ao23,co23,eo23⟩:=Kd.R_slice HO_6.out;subst eo23;go_wp2_with (first|((with_reducible refine gate_callee (f:=174) rfl ?_);refine goesL_ (some 44) rfl rfl Tryd.func174 (by kernel_rfl) rfl #[.slice Ao23 x6_2.length co23] rfl au_ ?_;(with_reducible refine (Aa7.calls k2 _ _ x6_2 An _ ?side1 ?side2 A22.out).mono ?_);(case side1=>exact cl_ (Kd.R_reads' HO_6.out).2.2);(case side2=>exact (Kd.R_reads' HO_6.out).2.1);rintro e w24 ⟨Az,rfl,ho0,hb⟩;refine ⟨_,rfl,?_⟩;have As:=A_ (Kd.R_lower (Kd.R_new' ho0 (Kd.R_lt (rl_ HO_6))) (below_size bb_));replace HO_6:=A_ (Kd.R_elder' (rl_ HO_6) (Kd.R_base ho0) hb);replace HB:=A_ (below_step bb_ hb);(try clear hb);(try clear hb2);(try clear hk);(try clear hi);(try clear ho0)))
       go_ret2
       exact ⟨_,by first|rfl|(simp [errW_none,errW_some] <;> rfl)|(simp [*,errW_none,errW_some] <;> rfl),rq_ (Kd.R_mono As.out (fun _ hk=>trivial)),bb_⟩
def Abh.l0 : Nat → Int → List Int → Int → Int → Option (Bool)
 | 0,_,_,_,_=>none
 | k + 1,x1,x7,x8,x9=>if x9 < x8 then (if 0 ≤ x9 then (if x9 < (x7.length : Int) then (if (rd x7 x9) = x1 then (some true) else (Abh.l0 k x1 x7 x8 (wrap64 (x9 + 1)))) else (none)) else (none)) else (some false)
def Abh.f (k : Nat) (l0 : List Int) (a1 : Int) : Option (Bool) := Abh.l0 k a1 l0 (l0.length : Int) 0
set_option maxHeartbeats 8000000 in
set_option maxRecDepth 100000 in
theorem Abh.calls (k : Nat) (A0 : Option Addr) (c0 : Nat) (l0 : List Int) (a1 : Int) (r : Bool) (w : World) (hr0 : Kd.C (Kd.int .i64) w A0 l0.length l0) (hc0 : l0.length ≤ c0) (h : Abh.f k l0 a1 = some r) :
 Calls Tryd.prog 215 #[.slice A0 l0.length c0,.int .i64 a1] w fun e w'=>e = .returned (.bool r) ∧ Drawn0 w w':=by
 have HR0:=A_ hr0;have HC0:=A_ hc0;clear hr0 hc0;have H : (Abh.l0 k a1 l0 (l0.length : Int) 0) = some r:=h;clear h;have H':=A_ H;clear H;go_enter Tryd.func215,Tryd.ntmps215
 go_wp2
 go_loopg [9] k (fun kq v9 w'=>∃ (x9_1 : Int),v9 = .int .i64 x9_1 ∧ Aside0 (Abh.l0 kq a1 l0 (l0.length : Int) x9_1 = some r) ∧ Aside0 (kq ≤ k) ∧ Drawn0 w w')
 case atStart=>exact ⟨(0),(by first|rfl|(simp;done)|(simp [*];done)),H',⟨Nat.le_refl _⟩,by repeat (first|exact Drawn0.refl _|apply Drawn0.step)⟩
 case round =>
  clear H';try clear c2
  try clear p2
  obtain ⟨x9_1,rfl,HA,HK1,⟨m1,rfl⟩⟩:=hrel;cases gk with
  | zero => exact absurd HA.out (by simp [Abh.l0])
  | succ k1 =>
   have H:=HA.out;clear HA;simp only [Abh.l0] at H
   by_cases c3 : x9_1 < (l0.length : Int)
   ·rw [if_pos c3] at H;have c3b0 : decide (x9_1 < (l0.length : Int)) = true:=decide_eq_true c3;clear c3;by_cases c4 : 0 ≤ x9_1
    ·rw [if_pos c4] at H;have c4b0 : decide (0 ≤ x9_1) = true:=decide_eq_true c4;clear c4;by_cases c5 : x9_1 < (l0.length : Int)
     ·rw [if_pos c5] at H;have c5b0 : decide (x9_1 < (l0.length : Int)) = true:=decide_eq_true c5;clear c5;by_cases c6 : (rd l0 x9_1) = a1
      ·rw [if_pos c6] at H;have c6b0 : ((rd l0 x9_1) == a1) = true:=beq_iff_eq.mpr c6;have c6b1 : ((rd l0 x9_1) != a1) = false:=bne_eq_false_iff_eq.mpr c6;clear c6;obtain rfl:=Option.some.inj H;have Aa : 0 ≤ (x9_1 : Int):=of_decide_eq_true (by first|(with_reducible assumption)|assumption);have Ab : x9_1 < (l0.length : Int):=of_decide_eq_true (by first|(with_reducible assumption)|assumption);obtain ⟨Ae,Ac,Ad⟩:=Kd.at_int HR0.out x9_1 Aa Ab;cases Ac
       replace Aa:=eq_true Aa;replace Ab:=eq_true Ab;go_wp2
       go_ret
       exact ⟨by first|rfl|(simp;done)|(simp [*];done),by repeat (first|exact Drawn0.refl _|apply Drawn0.step)⟩
      ·rw [if_neg c6] at H;have c6b0 : ((rd l0 x9_1) == a1) = false:=beq_eq_false_iff_ne.mpr c6;have c6b1 : ((rd l0 x9_1) != a1) = true:=bne_iff_ne.mpr c6;have H':=A_ H;clear H;have Aa : 0 ≤ (x9_1 : Int):=of_decide_eq_true (by first|(with_reducible assumption)|assumption);have Ab : x9_1 < (l0.length : Int):=of_decide_eq_true (by first|(with_reducible assumption)|assumption);obtain ⟨Ae,Ac,Ad⟩:=Kd.at_int HR0.out x9_1 Aa Ab;cases Ac
       replace Aa:=eq_true Aa;replace Ab:=eq_true Ab;go_wp2
       go_roundg k1
       case measure=>have:=HK1.out;omega
       case rel=>exact ⟨(wrap64 (x9_1 + 1)),(by first|rfl|(simp;done)|(simp [*];done)),H',⟨by have:=HK1.out;omega⟩,by repeat (first|exact Drawn0.refl _|apply Drawn0.step)⟩
     ·rw [if_neg c5] at H;exact absurd H (by simp)
    ·rw [if_neg c4] at H;exact absurd H (by simp)
   ·rw [if_neg c3] at H;have c3b0 : decide (x9_1 < (l0.length : Int)) = false:=decide_eq_false c3;clear c3;obtain rfl:=Option.some.inj H;go_wp2
    go_ret
    exact ⟨by first|rfl|(simp;done)|(simp [*];done),by repeat (first|exact Drawn0.refl _|apply Drawn0.step)⟩
mutual
def Aar.j0 : Nat → List Int → Bool → Option (Bool)
 | 0,_,_=>none
 | k + 1,x0,x12=>if x12 = true then (some false) else (Aar.l0 k x0 x0 (x0.length : Int) 0)
def Aar.l0 : Nat → List Int → List Int → Int → Int → Option (Bool)
 | 0,_,_,_,_=>none
 | k + 1,x0,x13,x14,x15=>if x15 < x14 then (if 0 ≤ x15 then (if x15 < (x13.length : Int) then (if (rd x13 x15) > 0 then ((Abh.f k x0 (wrap64 ((rd x13 x15) - 1))).bind fun t1059=>(if t1059 = true then (Aar.l0 k x0 x13 x14 (wrap64 (x15 + 1))) else (some false))) else (Aar.l0 k x0 x13 x14 (wrap64 (x15 + 1)))) else (none)) else (none)) else (some true)
end
def Aar.f (k : Nat) (l0 : List Int) : Option (Bool) := if (l0.length : Int) > 10 then (Aar.j0 k l0 true) else ((Aa3.f k l0 0 10).bind fun t1057 => (Aar.j0 k l0 (!t1057)))
set_option maxHeartbeats 8000000 in
set_option maxRecDepth 100000 in
theorem Aar.calls (k : Nat) (A0 : Option Addr) (c0 : Nat) (l0 : List Int) (r : Bool) (w : World) (hr0 : Kd.C (Kd.int .i64) w A0 l0.length l0) (hc0 : l0.length ≤ c0) (h : Aar.f k l0 = some r) :
 Calls Tryd.prog 158 #[.slice A0 l0.length c0] w fun e w'=>e = .returned (.bool r) ∧ Drawn0 w w':=by
 have HR0:=A_ hr0;have HC0:=A_ hc0;clear hr0 hc0;have H : (if (l0.length : Int) > 10 then (Aar.j0 k l0 true) else ((Aa3.f k l0 0 10).bind fun Ac=>(Aar.j0 k l0 (!Ac)))) = some r:=h;clear h;have HC2:=A_ H;clear H;go_enter Tryd.func158,Tryd.ntmps158
 go_upto_region 1 with (fail)
 go_cut [12] (fun v12 wc=>∃ (kq : Nat) (x12_1 : Bool),v12 = .bool x12_1 ∧ Aside0 (Aar.j0 kq l0 x12_1 = some r) ∧ Aside0 (kq ≤ k) ∧ Drawn0 w wc)
 case first =>
  have H:=HC2.out;clear HC2;by_cases c3 : (l0.length : Int) > 10
  ·rw [if_pos c3] at H;have c3b0 : decide (10 < (l0.length : Int)) = true:=decide_eq_true c3;have c3b1 : decide (10 < l0.length) = true:=decide_eq_true (by omega);clear c3;(first|rw [c3b0]|(simp only [i64_w,i32_w];rw [c3b0])|skip)
   have H':=A_ H;clear H;go_wp2
   go_meet
   case rel=>exact ⟨_,(true),(by first|rfl|(simp;done)|(simp [*];done)),H',⟨by first|omega|exact Nat.le_refl _⟩,by repeat (first|exact Drawn0.refl _|apply Drawn0.step)⟩
  ·rw [if_neg c3] at H;have c3b0 : decide (10 < (l0.length : Int)) = false:=decide_eq_false c3;have c3b1 : decide (10 < l0.length) = false:=decide_eq_false (by omega);clear c3;(first|rw [c3b0]|(simp only [i64_w,i32_w];rw [c3b0])|skip)
   replace H:=Option.bind_eq_some_iff.mp H;obtain ⟨Ac,A40,H⟩:=H;replace H : (Aar.j0 k l0 (!Ac)) = some r:=H;have A4:=A_ A40;clear A40;have H':=A_ H;clear H;go_wp2_with (first|(go_at_call 214;(with_reducible refine (Aa3.calls k _ _ l0 0 10 Ac _ ?side1 ?side2 A4.out).mono ?_);(case side1=>repeat (first|exact HR0.out|(with_reducible refine Kd.C_alloc ?_ _)|(with_reducible refine Kd.C_drewN ?_ _)|(with_reducible refine Kd.C_drew ?_)));(case side2=>exact HC0.out);rintro e w' ⟨rfl,⟨nd,rfl⟩⟩))
   go_meet
   case rel=>exact ⟨_,(!Ac),(by first|rfl|(simp;done)|(simp [*];done)),H',⟨by first|omega|exact Nat.le_refl _⟩,by repeat (first|exact Drawn0.refl _|apply Drawn0.step)⟩
 case rest =>
  clear HC2;try clear c1
  try clear p2
  try clear c3
  try clear c3b0
  try clear c3b1
  obtain ⟨kq,x12_1,rfl,HA,HJ1,⟨mc1,rfl⟩⟩:=hcut;cases kq with
  | zero => exact absurd HA.out (by simp [Aar.j0])
  | succ kj1 =>
   have H:=HA.out;clear HA;simp only [Aar.j0] at H
   by_cases c5 : x12_1 = true
   ·subst c5;have H1 : (some false) = some r:=by rw [if_pos rfl] at H;exact H
    clear H;have H:=H1;clear H1;obtain rfl:=Option.some.inj H;go_wp2
    go_ret
    exact ⟨by first|rfl|(simp;done)|(simp [*];done),by repeat (first|exact Drawn0.refl _|apply Drawn0.step)⟩
   ·replace c5:=Bool.eq_false_iff.mpr c5;subst c5;have H1 : (Aar.l0 kj1 l0 l0 (l0.length : Int) 0) = some r:=by rw [if_neg (show ¬ (false = true) by decide)] at H;exact H
    clear H;have H:=H1;clear H1;have H':=A_ H;clear H;go_wp2
    go_loopg [15] kj1 (fun kq v15 w'=>∃ (x15_2 : Int),v15 = .int .i64 x15_2 ∧ Aside0 (Aar.l0 kq l0 l0 (l0.length : Int) x15_2 = some r) ∧ Aside0 (kq ≤ kj1) ∧ Drawn0 w w')
    case atStart=>exact ⟨(0),(by first|rfl|(simp;done)|(simp [*];done)),H',⟨Nat.le_refl _⟩,by repeat (first|exact Drawn0.refl _|apply Drawn0.step)⟩
    case round =>
     clear H';try clear c1
     try clear p2
     try clear c3
     try clear c3b0
     try clear c3b1
     try clear c5
     try clear p2
     obtain ⟨x15_2,rfl,HA,HK2,⟨m2,rfl⟩⟩:=hrel;cases gk with
     | zero=>exact absurd HA.out (by simp [Aar.l0])
     | succ k2 =>
      have H:=HA.out;clear HA;simp only [Aar.l0] at H
      by_cases c6 : x15_2 < (l0.length : Int)
      ·rw [if_pos c6] at H;have c6b0 : decide (x15_2 < (l0.length : Int)) = true:=decide_eq_true c6;clear c6;by_cases c7 : 0 ≤ x15_2
       ·rw [if_pos c7] at H;have c7b0 : decide (0 ≤ x15_2) = true:=decide_eq_true c7;clear c7;by_cases c8 : x15_2 < (l0.length : Int)
        ·rw [if_pos c8] at H;have c8b0 : decide (x15_2 < (l0.length : Int)) = true:=decide_eq_true c8;clear c8;by_cases c9 : (rd l0 x15_2) > 0
         ·rw [if_pos c9] at H;have c9b0 : decide (0 < (rd l0 x15_2)) = true:=decide_eq_true c9;clear c9;replace H:=Option.bind_eq_some_iff.mp H;obtain ⟨Ag,Ah,H⟩:=H;replace H : (if Ag = true then (Aar.l0 k2 l0 l0 (l0.length : Int) (wrap64 (x15_2 + 1))) else (some false)) = some r:=H;have A10:=A_ Ah;clear Ah;by_cases c11 : Ag = true
          ·subst c11;have H1 : (Aar.l0 k2 l0 l0 (l0.length : Int) (wrap64 (x15_2 + 1))) = some r:=by rw [if_pos rfl] at H;exact H
           clear H;have H:=H1;clear H1;have H':=A_ H;clear H;have Aa : 0 ≤ (x15_2 : Int):=of_decide_eq_true (by first|(with_reducible assumption)|assumption);have Ab : x15_2 < (l0.length : Int):=of_decide_eq_true (by first|(with_reducible assumption)|assumption);obtain ⟨Af,Ad,Ae⟩:=Kd.at_int HR0.out x15_2 Aa Ab;cases Ad
           replace Aa:=eq_true Aa;replace Ab:=eq_true Ab;go_wp2_with (first|(go_at_call 215;(with_reducible refine (Abh.calls k2 _ _ l0 (wrap64 ((rd l0 x15_2) - 1)) true _ ?side1 ?side2 A10.out).mono ?_);(case side1=>repeat (first|exact HR0.out|(with_reducible refine Kd.C_alloc ?_ _)|(with_reducible refine Kd.C_drewN ?_ _)|(with_reducible refine Kd.C_drew ?_)));(case side2=>exact HC0.out);rintro e w' ⟨rfl,⟨nd,rfl⟩⟩))
           go_roundg k2
           case measure=>have:=HJ1.out;have:=HK2.out;omega
           case rel=>exact ⟨(wrap64 (x15_2 + 1)),(by first|rfl|(simp;done)|(simp [*];done)),H',⟨by have:=HJ1.out;have:=HK2.out;omega⟩,by repeat (first|exact Drawn0.refl _|apply Drawn0.step)⟩
          ·replace c11:=Bool.eq_false_iff.mpr c11;subst c11;have H1 : (some false) = some r:=by rw [if_neg (show ¬ (false = true) by decide)] at H;exact H
           clear H;have H:=H1;clear H1;obtain rfl:=Option.some.inj H;have Aa : 0 ≤ (x15_2 : Int):=of_decide_eq_true (by first|(with_reducible assumption)|assumption);have Ab : x15_2 < (l0.length : Int):=of_decide_eq_true (by first|(with_reducible assumption)|assumption);obtain ⟨Af,Ad,Ae⟩:=Kd.at_int HR0.out x15_2 Aa Ab;cases Ad
           replace Aa:=eq_true Aa;replace Ab:=eq_true Ab;go_wp2_with (first|(go_at_call 215;(with_reducible refine (Abh.calls k2 _ _ l0 (wrap64 ((rd l0 x15_2) - 1)) false _ ?side1 ?side2 A10.out).mono ?_);(case side1=>repeat (first|exact HR0.out|(with_reducible refine Kd.C_alloc ?_ _)|(with_reducible refine Kd.C_drewN ?_ _)|(with_reducible refine Kd.C_drew ?_)));(case side2=>exact HC0.out);rintro e w' ⟨rfl,⟨nd,rfl⟩⟩))
           go_ret
           exact ⟨by first|rfl|(simp;done)|(simp [*];done),by repeat (first|exact Drawn0.refl _|apply Drawn0.step)⟩
         ·rw [if_neg c9] at H;have c9b0 : decide (0 < (rd l0 x15_2)) = false:=decide_eq_false c9;clear c9;have H':=A_ H;clear H;have Aa : 0 ≤ (x15_2 : Int):=of_decide_eq_true (by first|(with_reducible assumption)|assumption);have Ab : x15_2 < (l0.length : Int):=of_decide_eq_true (by first|(with_reducible assumption)|assumption);obtain ⟨Af,Ad,Ae⟩:=Kd.at_int HR0.out x15_2 Aa Ab;cases Ad
          replace Aa:=eq_true Aa;replace Ab:=eq_true Ab;go_wp2
          go_roundg k2
          case measure=>have:=HJ1.out;have:=HK2.out;omega
          case rel=>exact ⟨(wrap64 (x15_2 + 1)),(by first|rfl|(simp;done)|(simp [*];done)),H',⟨by have:=HJ1.out;have:=HK2.out;omega⟩,by repeat (first|exact Drawn0.refl _|apply Drawn0.step)⟩
        ·rw [if_neg c8] at H;exact absurd H (by simp)
       ·rw [if_neg c7] at H;exact absurd H (by simp)
      ·rw [if_neg c6] at H;have c6b0 : decide (x15_2 < (l0.length : Int)) = false:=decide_eq_false c6;clear c6;obtain rfl:=Option.some.inj H;go_wp2
       go_ret
       exact ⟨by first|rfl|(simp;done)|(simp [*];done),by repeat (first|exact Drawn0.refl _|apply Drawn0.step)⟩
mutual
def Aal.j0 : Nat → List Int → List Int → Bool → Option (List Int × Bool)
 | 0,_,_,_=>none
 | k + 1,x0,x1,x23=>if x23 = true then (some (([] : List Int),false)) else (Aal.l0 k x1 ([] : List Int) x0 (x0.length : Int) 0)
def Aal.l0 : Nat → List Int → List Int → List Int → Int → Int → Option (List Int × Bool)
 | 0,_,_,_,_,_=>none
 | k + 1,x1,x6,x24,x25,x26=>if x26 < x25 then (if 0 ≤ x26 then (if x26 < (x24.length : Int) then (if x26 < (x1.length : Int) then (if x6.length < 17592186044416 then (Aal.l0 k x1 (x6 ++ [wrap64 ((wrap64 (100 * (rd x24 x26))) + (rd x1 x26))]) x24 x25 (wrap64 (x26 + 1))) else (none)) else (none)) else (none)) else (none)) else ((Aaq.f k x6).bind fun t1067=>(some (t1067,true)))
end
def Aal.f (k : Nat) (l0 : List Int) (l1 : List Int) : Option (List Int × Bool) := (Aar.f k l0).bind fun t1060 => (if t1060 = true then ((Aar.f k l1).bind fun t1061 => (if t1061 = true then (Aal.j0 k l0 l1 ((l0.length : Int) != (l1.length : Int))) else (Aal.j0 k l0 l1 true))) else (Aal.j0 k l0 l1 true))
set_option maxHeartbeats 8000000 in
set_option maxRecDepth 100000 in
theorem Aal.calls (k : Nat) (A0 : Option Addr) (c0 : Nat) (l0 : List Int) (A1 : Option Addr) (c1 : Nat) (l1 : List Int) (r1 : List Int) (r2 : Bool) (w : World) (hr0 : Kd.C (Kd.int .i64) w A0 l0.length l0) (hc0 : l0.length ≤ c0) (hr1 : Kd.C (Kd.int .i64) w A1 l1.length l1) (hc1 : l1.length ≤ c1) (h : Aal.f k l0 l1 = some (r1,r2)) :
 Calls Tryd.prog 88 #[.slice A0 l0.length c0,.slice A1 l1.length c1] w fun e w'=>∃ v0_ : Value,e = .returned (.tuple #[v0_,.bool r2]) ∧ Kd.R (Kd.int .i64) 3 w' w.heap.size (fun _=>True) v0_ r1 ∧ Below w.heap.size w w':=by
 have HR0:=A_ hr0;have HC0:=A_ hc0;clear hr0 hc0;have HR1:=A_ hr1;have HC1:=A_ hc1;clear hr1 hc1;have HB:=A_ (Below.refl w.heap.size w);have H : ((Aar.f k l0).bind fun Ae=>(if Ae = true then ((Aar.f k l1).bind fun Aa=>(if Aa = true then (Aal.j0 k l0 l1 ((l0.length : Int) != (l1.length : Int))) else (Aal.j0 k l0 l1 true))) else (Aal.j0 k l0 l1 true))) = some (r1,r2):=h;clear h;have HC3:=A_ H;clear H;go_enter Tryd.func88,Tryd.ntmps88
 go_upto_region 1 with (fail)
 go_cut [23] (fun v23 wc=>∃ (kq : Nat) (x23_2 : Bool),v23 = .bool x23_2 ∧ Aside0 (Aal.j0 kq l0 l1 x23_2 = some (r1,r2)) ∧ Aside0 (kq ≤ k) ∧ Aside0 (Below w.heap.size w wc))
 case first =>
  have H:=HC3.out;clear HC3;replace H:=Option.bind_eq_some_iff.mp H;obtain ⟨Ae,A40,H⟩:=H;replace H : (if Ae = true then ((Aar.f k l1).bind fun Aa=>(if Aa = true then (Aal.j0 k l0 l1 ((l0.length : Int) != (l1.length : Int))) else (Aal.j0 k l0 l1 true))) else (Aal.j0 k l0 l1 true)) = some (r1,r2):=H;have A4:=A_ A40;clear A40;by_cases c5 : Ae = true
  ·subst c5;have H1 : ((Aar.f k l1).bind fun Aa=>(if Aa = true then (Aal.j0 k l0 l1 ((l0.length : Int) != (l1.length : Int))) else (Aal.j0 k l0 l1 true))) = some (r1,r2):=by rw [if_pos rfl] at H;exact H
   clear H;have H:=H1;clear H1;replace H:=Option.bind_eq_some_iff.mp H;obtain ⟨Aa,A60,H⟩:=H;replace H : (if Aa = true then (Aal.j0 k l0 l1 ((l0.length : Int) != (l1.length : Int))) else (Aal.j0 k l0 l1 true)) = some (r1,r2):=H;have A6:=A_ A60;clear A60;by_cases c7 : Aa = true
   ·subst c7;have H1 : (Aal.j0 k l0 l1 ((l0.length : Int) != (l1.length : Int))) = some (r1,r2):=by rw [if_pos rfl] at H;exact H
    clear H;have H:=H1;clear H1;have H':=A_ H;clear H;go_wp2_with (first|((with_reducible refine gate_callee (f:=158) rfl ?_);refine goesL_ (some 10) rfl rfl Tryd.func158 (by kernel_rfl) rfl #[.slice A0 l0.length c0] rfl au_ ?_;(with_reducible refine (Aar.calls k _ _ l0 true _ ?side1 ?side2 A4.out).mono ?_);(case side1=>exact cl_ (Kd.C_below HR0.out HB.out));(case side2=>exact HC0.out);rintro e w' ⟨rfl,⟨nd,rfl⟩⟩;refine ⟨_,rfl,?_⟩)|(go_at_call 158;(with_reducible refine (Aar.calls k _ _ l1 true _ ?side1 ?side2 A6.out).mono ?_);(case side1=>exact cl_ (Kd.C_below HR1.out bb_));(case side2=>exact HC1.out);rintro e w' ⟨rfl,⟨nd,rfl⟩⟩))
    go_meet
    case rel=>exact ⟨_,(((l0.length : Int) != (l1.length : Int))),(by first|rfl|(simp;done)|(simp [*];done)),H',⟨by first|omega|exact Nat.le_refl _⟩,⟨bb_⟩⟩
   ·replace c7:=Bool.eq_false_iff.mpr c7;subst c7;have H1 : (Aal.j0 k l0 l1 true) = some (r1,r2):=by rw [if_neg (show ¬ (false = true) by decide)] at H;exact H
    clear H;have H:=H1;clear H1;have H':=A_ H;clear H;go_wp2_with (first|((with_reducible refine gate_callee (f:=158) rfl ?_);refine goesL_ (some 10) rfl rfl Tryd.func158 (by kernel_rfl) rfl #[.slice A0 l0.length c0] rfl au_ ?_;(with_reducible refine (Aar.calls k _ _ l0 true _ ?side1 ?side2 A4.out).mono ?_);(case side1=>exact cl_ (Kd.C_below HR0.out HB.out));(case side2=>exact HC0.out);rintro e w' ⟨rfl,⟨nd,rfl⟩⟩;refine ⟨_,rfl,?_⟩)|(go_at_call 158;(with_reducible refine (Aar.calls k _ _ l1 false _ ?side1 ?side2 A6.out).mono ?_);(case side1=>exact cl_ (Kd.C_below HR1.out bb_));(case side2=>exact HC1.out);rintro e w' ⟨rfl,⟨nd,rfl⟩⟩))
    go_meet
    case rel=>exact ⟨_,(true),(by first|rfl|(simp;done)|(simp [*];done)),H',⟨by first|omega|exact Nat.le_refl _⟩,⟨bb_⟩⟩
  ·replace c5:=Bool.eq_false_iff.mpr c5;subst c5;have H1 : (Aal.j0 k l0 l1 true) = some (r1,r2):=by rw [if_neg (show ¬ (false = true) by decide)] at H;exact H
   clear H;have H:=H1;clear H1;have H':=A_ H;clear H;go_wp2_with (first|((with_reducible refine gate_callee (f:=158) rfl ?_);refine goesL_ (some 10) rfl rfl Tryd.func158 (by kernel_rfl) rfl #[.slice A0 l0.length c0] rfl au_ ?_;(with_reducible refine (Aar.calls k _ _ l0 false _ ?side1 ?side2 A4.out).mono ?_);(case side1=>exact cl_ (Kd.C_below HR0.out HB.out));(case side2=>exact HC0.out);rintro e w' ⟨rfl,⟨nd,rfl⟩⟩;refine ⟨_,rfl,?_⟩))
   go_meet
   case rel=>exact ⟨_,(true),(by first|rfl|(simp;done)|(simp [*];done)),H',⟨by first|omega|exact Nat.le_refl _⟩,⟨bb_⟩⟩
 case rest =>
  clear HC3;try clear c1
  try clear p2
  try clear c5
  try clear c7
  obtain ⟨kq,x23_2,rfl,HA,HJ2,HB⟩:=hcut;cases kq with
  | zero => exact absurd HA.out (by simp [Aal.j0])
  | succ kj2 =>
   have H:=HA.out;clear HA;simp only [Aal.j0] at H
   by_cases c8 : x23_2 = true
   ·subst c8;have H1 : (some (([] : List Int),false)) = some (r1,r2):=by rw [if_pos rfl] at H;exact H
    clear H;have H:=H1;clear H1;simp only [Option.some.injEq,Prod.mk.injEq] at H
    obtain ⟨rfl,rfl⟩:=H;go_wp2
    go_ret2
    exact ⟨_,by first|rfl|(simp [errW_none,errW_some] <;> rfl)|(simp [*,errW_none,errW_some] <;> rfl),by first|exact Kd.R_nil _ _ _ _ _|exact Kd.N_nil _ _ _ _ _|exact Kd.V_nil _ _ _ _ _|exact Kd.Q_nil _ _ _ _ _|exact Kd.S_nil _ _ _ _ _,bb_⟩
   ·replace c8:=Bool.eq_false_iff.mpr c8;subst c8;have H1 : (Aal.l0 kj2 l1 ([] : List Int) l0 (l0.length : Int) 0) = some (r1,r2):=by rw [if_neg (show ¬ (false = true) by decide)] at H;exact H
    clear H;have H:=H1;clear H1;have H':=A_ H;clear H;go_wp2
    go_loopg [6,26] kj2 (fun kq v6 v26 w'=>∃ (x6_2 : List Int) (x26_2 : Int),v26 = .int .i64 x26_2 ∧ Aside0 (Aal.l0 kq l1 x6_2 l0 (l0.length : Int) x26_2 = some (r1,r2)) ∧ Aside0 (kq ≤ kj2) ∧ Aside0 (Kd.R (Kd.int .i64) 3 w' w.heap.size (fun _=>True) v6 x6_2) ∧ Aside0 (Below w.heap.size w w'))
    case atStart=>exact ⟨(([] : List Int)),(0),(by first|rfl|(simp;done)|(simp [*];done)),H',⟨Nat.le_refl _⟩,⟨by first|exact Kd.R_nil _ _ _ _ _|exact Kd.N_nil _ _ _ _ _|exact Kd.V_nil _ _ _ _ _|exact Kd.Q_nil _ _ _ _ _|exact Kd.S_nil _ _ _ _ _⟩,⟨bb_⟩⟩
    case round =>
     clear H';try clear c1
     try clear p2
     try clear c5
     try clear c7
     try clear c8
     try clear p2
     obtain ⟨x6_2,x26_2,rfl,HA,HK2,HO_6,HB⟩:=hrel;cases gk with
     | zero=>exact absurd HA.out (by simp [Aal.l0])
     | succ k2 =>
      have H:=HA.out;clear HA;simp only [Aal.l0] at H
      by_cases c9 : x26_2 < (l0.length : Int)
      ·rw [if_pos c9] at H;have c9b0 : decide (x26_2 < (l0.length : Int)) = true:=decide_eq_true c9;clear c9;by_cases c10 : 0 ≤ x26_2
       ·rw [if_pos c10] at H;have c10b0 : decide (0 ≤ x26_2) = true:=decide_eq_true c10;clear c10;by_cases c11 : x26_2 < (l0.length : Int)
        ·rw [if_pos c11] at H;have c11b0 : decide (x26_2 < (l0.length : Int)) = true:=decide_eq_true c11;clear c11;by_cases c12 : x26_2 < (l1.length : Int)
         ·rw [if_pos c12] at H;have c12b0 : decide (x26_2 < (l1.length : Int)) = true:=decide_eq_true c12;clear c12;by_cases c13 : x6_2.length < 17592186044416
          ·rw [if_pos c13] at H;have LMc13:=A_ c13;clear c13;obtain ⟨Aj,Ab⟩ : ∃ y_ : List Int,y_ = (x6_2 ++ [wrap64 ((wrap64 (100 * (rd l0 x26_2))) + (rd l1 x26_2))]):=⟨_,rfl⟩;replace H : (Aal.l0 k2 l1 Aj l0 (l0.length : Int) (wrap64 (x26_2 + 1))) = some (r1,r2):=by first|(rw [Ab];with_reducible exact H)|(have H2_:=(Option.bind_some _ _).symm.trans H;rw [Ab];with_reducible exact H2_)|(have H2_:=(Option.bind_some _ _).symm.trans H;with_reducible exact H2_)|with_reducible exact H|(rw [Ab];exact H)|exact H
           have Al:=A_ Ab;clear Ab;have H':=A_ H;clear H;have Af : 0 ≤ (x26_2 : Int):=of_decide_eq_true (by first|(with_reducible assumption)|assumption);have Ag : x26_2 < (l0.length : Int):=of_decide_eq_true (by first|(with_reducible assumption)|assumption);obtain ⟨Ar,Ap,Ac⟩:=Kd.at_int HR0.out x26_2 Af Ag;cases Ap
           (try replace Ac:=(HB.out.cell (World.block_lt_of_cell? w _ Ac)).trans Ac);replace Af:=eq_true Af;replace Ag:=eq_true Ag;have Ah : 0 ≤ (x26_2 : Int):=of_decide_eq_true (by first|(with_reducible assumption)|assumption);have Ai : x26_2 < (l1.length : Int):=of_decide_eq_true (by first|(with_reducible assumption)|assumption);obtain ⟨As,Aq,Ad⟩:=Kd.at_int HR1.out x26_2 Ah Ai;cases Aq
           (try replace Ad:=(HB.out.cell (World.block_lt_of_cell? w _ Ad)).trans Ad);replace Ah:=eq_true Ah;replace Ai:=eq_true Ai;go_wp2_with (first|((with_reducible refine gate_builtin (b:=.append) (xs:=#[.tmp 31,.tmp 39]) rfl ?_);(try (refine gate_guard (by rfl) ?_;dsimp only));at_builtin;refine Kd.R_append (Kd.int .i64) (w0:=w) w.heap.size rfl (.tmp 31) (.tmp 39) 22 3 (.int .i64 0) 8 rfl Tryd.underlying22 info3 rfl (by decide) (by omega) u6 x6_2 (wrap64 ((wrap64 (100 * (rd l0 x26_2))) + (rd l1 x26_2))) [.int .i64 (wrap64 ((wrap64 (100 * (rd l0 x26_2))) + (rd l1 x26_2)))] (fun _=>True) (fun _=>False) rfl rfl ?aP (fun _ hk=>hk.elim) ?aF ?aO ?aB ?aS ?aL ?_;(case aP=>exact rfl);(case aB=>exact bb_);(case aF=>exact (fun _ _=>trivial));(case aO=>exact (rl_ HO_6));(case aS=>exact (below_size bb_));(case aL=>have:=LMc13.out;omega);intro At w14 ho hb hg hat;rw [← Al.out] at ho;replace HB:=A_ (hb);have Am:=A_ (ho);clear HO_6;clear ho hb hg hat))
           go_roundg k2
           case measure=>have:=HJ2.out;have:=HK2.out;omega
           case rel=>exact ⟨(Aj),(wrap64 (x26_2 + 1)),(by first|rfl|(simp;done)|(simp [*];done)),H',⟨by have:=HJ2.out;have:=HK2.out;omega⟩,⟨rl_ Am⟩,⟨bb_⟩⟩
          ·rw [if_neg c13] at H;exact absurd H (by simp)
         ·rw [if_neg c12] at H;exact absurd H (by simp)
        ·rw [if_neg c11] at H;exact absurd H (by simp)
       ·rw [if_neg c10] at H;exact absurd H (by simp)
      ·rw [if_neg c9] at H;have c9b0 : decide (x26_2 < (l0.length : Int)) = false:=decide_eq_false c9;clear c9;replace H:=Option.bind_eq_some_iff.mp H;obtain ⟨Ak,An,H⟩:=H;replace H : (some (Ak,true)) = some (r1,r2):=H;have A15:=A_ An;clear An;simp only [Option.some.injEq,Prod.mk.injEq] at H
       obtain ⟨rfl,rfl⟩:=H;obtain ⟨Ao16,co16,eo16⟩:=Kd.R_slice HO_6.out;subst eo16;go_wp2_with (first|((with_reducible refine gate_callee (f:=112) rfl ?_);refine goesL_ (some 43) rfl rfl Tryd.func112 (by kernel_rfl) rfl #[.slice Ao16 x6_2.length co16] rfl au_ ?_;(with_reducible refine (Aaq.calls k2 _ _ x6_2 Ak _ ?side1 ?side2 A15.out).mono ?_);(case side1=>exact cl_ (Kd.R_reads' HO_6.out).2.2);(case side2=>exact (Kd.R_reads' HO_6.out).2.1);rintro e w17 ⟨Au,rfl,ho0,hb⟩;refine ⟨_,rfl,?_⟩;have Ao:=A_ (Kd.R_lower (Kd.R_new' ho0 (Kd.R_lt (rl_ HO_6))) (below_size bb_));replace HO_6:=A_ (Kd.R_elder' (rl_ HO_6) (Kd.R_base ho0) hb);replace HB:=A_ (below_step bb_ hb);(try clear hb);(try clear hb2);(try clear hk);(try clear hi);(try clear ho0)))
       go_ret2
       exact ⟨_,by first|rfl|(simp [errW_none,errW_some] <;> rfl)|(simp [*,errW_none,errW_some] <;> rfl),rq_ (Kd.R_mono Ao.out (fun _ hk=>trivial)),bb_⟩
end Go.Proofs.YtimjblnglhmakaaDoor.P

