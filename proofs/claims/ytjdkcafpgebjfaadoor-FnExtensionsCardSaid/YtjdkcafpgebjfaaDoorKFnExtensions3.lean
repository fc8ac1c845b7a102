/- A part of the proof that the law FnExtensions holds at every input. Written by wip/pack.py: the kit's printed words that are used, the functions' walks as wip/gen.py prints them, and hand proofs. -/
import Derived.Test.YtjdkcafpgebjfaaDoorKFnExtensions2
namespace Go.Proofs.YtjdkcafpgebjfaaDoor.P
open Go.RowKit Go.Proofs.YtjdkcafpgebjfaaDoorW.PrintWords Go.Proofs.YtjdkcafpgebjfaaDoorW.PrintLast Go.Proofs.YtjdkcafpgebjfaaDoorW.PrintMore
open Bool renaming true → T, false → F
open List renaming setIfInBounds_toArray → L_, set_cons_zero → M_, set_cons_succ → N_, map_toArray → P_, map_cons → Q_, map_nil → R_, length_drop → S_, length_take → U_
open Aside0 renaming mk → A_
attribute [local go_sem] max2_int min2_int max_two min_two max_three min_three max_four min_four
set_option linter.unusedVariables false
set_option linter.unusedSimpArgs false
attribute [local go_sem] fldOrder_0 fldOrder_1
def spec_orList.l0 : Nat → Int → List Int → Int → Option (List Int)
 | 0,_,_,_=>none
 | k + 1,x0,x3,x4=>if 0 ≤ x4 then (if (shr .i64 x0 x4) > 0 then ((spec_orHas.f x0 x4).bind fun t108=>(if t108 = true then (if x3.length < 17592186044416 then (spec_orList.l0 k x0 (x3 ++ [x4]) (wrap64 (x4 + 1))) else (none)) else (spec_orList.l0 k x0 x3 (wrap64 (x4 + 1))))) else (some x3)) else (none)
def spec_orList.f (k : Nat) (a0 : Int) : Option (List Int) := spec_orList.l0 k a0 ([] : List Int) 0
set_option maxHeartbeats 8000000 in
set_option maxRecDepth 100000 in
theorem spec_orList.calls (k : Nat) (a0 : Int) (r : List Int) (w : World) (h : spec_orList.f k a0 = some r) :
 Calls Tryd.prog 115 #[.int .i64 a0] w fun e w'=>∃ v0_ : Value,e = .returned (v0_) ∧ Kd.R (Kd.int .i64) 3 w' w.heap.size (fun _=>True) v0_ r ∧ Below w.heap.size w w':=by
 have HB:=A_ (Below.refl w.heap.size w);have H : (spec_orList.l0 k a0 ([] : List Int) 0) = some r:=h;clear h;have H':=A_ H;clear H;go_enter Tryd.func115,Tryd.ntmps115
 go_wp2
 go_loopg [3,4] k (fun kq v3 v4 w'=>∃ (x3_1 : List Int) (x4_1 : Int),v4 = .int .i64 x4_1 ∧ Aside0 (spec_orList.l0 kq a0 x3_1 x4_1 = some r) ∧ Aside0 (kq ≤ k) ∧ Aside0 (Kd.R (Kd.int .i64) 3 w' w.heap.size (fun _=>True) v3 x3_1) ∧ Aside0 (Below w.heap.size w w'))
 case atStart=>exact ⟨(([] : List Int)),(0),(by first|rfl|(simp;done)|(simp [*];done)),H',⟨Nat.le_refl _⟩,⟨by first|exact Kd.R_nil _ _ _ _ _|exact Kd.N_nil _ _ _ _ _|exact Kd.V_nil _ _ _ _ _|exact Kd.Q_nil _ _ _ _ _|exact Kd.S_nil _ _ _ _ _⟩,⟨bb_⟩⟩
 case round =>
  clear H';try clear c1
  obtain ⟨x3_1,x4_1,rfl,HA,HK1,HO_3,HB⟩:=hrel;cases gk with
  | zero => exact absurd HA.out (by simp [spec_orList.l0])
  | succ k1 =>
   have H:=HA.out;clear HA;simp only [spec_orList.l0] at H
   by_cases c2 : 0 ≤ x4_1
   ·rw [if_pos c2] at H;have c2b0:=eq_true c2;have c2b1 : decide (0 ≤ x4_1) = true:=decide_eq_true c2;clear c2;obtain ⟨ji3,hji3⟩ : ∃ j_ : Int,(shr .i64 a0 x4_1) = j_:=⟨_,rfl⟩;replace H : (if (ji3) > 0 then ((spec_orHas.f a0 x4_1).bind fun t108=>(if t108 = true then (if x3_1.length < 17592186044416 then (spec_orList.l0 k1 a0 (x3_1 ++ [x4_1]) (wrap64 (x4_1 + 1))) else (none)) else (spec_orList.l0 k1 a0 x3_1 (wrap64 (x4_1 + 1))))) else (some x3_1)) = some r:=by first|(rw [hji3] at H;exact H)|(simp only [hji3] at H ⊢;exact H)
    have hji3_ : (a0 / 2 ^ min x4_1.toNat 64) = ji3:=hji3;have hji3z : x4_1 ≤ 64 → (a0 / 2 ^ x4_1.toNat) = ji3:=shr_small hji3;by_cases c4 : (ji3) > 0
    ·rw [if_pos c4] at H;have c4b0 : decide (0 < (ji3)) = true:=decide_eq_true c4;clear c4;replace H:=Option.bind_eq_some_iff.mp H;obtain ⟨t108,A50,H⟩:=H;replace H : (if t108 = true then (if x3_1.length < 17592186044416 then (spec_orList.l0 k1 a0 (x3_1 ++ [x4_1]) (wrap64 (x4_1 + 1))) else (none)) else (spec_orList.l0 k1 a0 x3_1 (wrap64 (x4_1 + 1)))) = some r:=H;have A5:=A_ A50;clear A50;by_cases c6 : t108 = true
     ·subst c6;have H1 : (if x3_1.length < 17592186044416 then (spec_orList.l0 k1 a0 (x3_1 ++ [x4_1]) (wrap64 (x4_1 + 1))) else (none)) = some r:=by rw [if_pos rfl] at H;exact H
      clear H;have H:=H1;clear H1;by_cases c7 : x3_1.length < 17592186044416
      ·rw [if_pos c7] at H;have LMc7:=A_ c7;clear c7;obtain ⟨y109,hy109⟩ : ∃ y_ : List Int,y_ = (x3_1 ++ [x4_1]):=⟨_,rfl⟩;replace H : (spec_orList.l0 k1 a0 y109 (wrap64 (x4_1 + 1))) = some r:=by first|(rw [hy109];with_reducible exact H)|(have H2_:=(Option.bind_some _ _).symm.trans H;rw [hy109];with_reducible exact H2_)|(have H2_:=(Option.bind_some _ _).symm.trans H;with_reducible exact H2_)|with_reducible exact H|(rw [hy109];exact H)|exact H
       have Ny109:=A_ hy109;clear hy109;have H':=A_ H;clear H;go_wp2_with (first|((with_reducible refine gate_callee (f:=113) rfl ?_);refine goesL_ (some 13) rfl rfl Tryd.func113 (by kernel_rfl) rfl #[.int .i64 a0,.int .i64 x4_1] rfl au_ ?_;(with_reducible refine (spec_orHas.calls a0 x4_1 true _ A5.out).mono ?_);rintro e w' ⟨rfl,⟨nd,rfl⟩⟩;refine ⟨_,rfl,?_⟩)|((with_reducible refine gate_builtin (b:=.append) (xs:=#[.tmp 14,.tmp 16]) rfl ?_);at_builtin;refine Kd.R_append (Kd.int .i64) (w0:=w) w.heap.size rfl (.tmp 14) (.tmp 16) 22 3 (.int .i64 0) 8 rfl Tryd.underlying22 info3 rfl (by decide) (by omega) u3 x3_1 x4_1 [.int .i64 x4_1] (fun _=>True) (fun _=>False) rfl rfl ?aP (fun _ hk=>hk.elim) ?aF ?aO ?aB ?aS ?aL ?_;(case aP=>exact rfl);(case aB=>exact bb_);(case aF=>exact (fun _ _=>trivial));(case aO=>exact (rl_ HO_3));(case aS=>exact (below_size bb_));(case aL=>have:=LMc7.out;omega);intro v110 w8 ho hb hg hat;rw [← Ny109.out] at ho;replace HB:=A_ (hb);have HO111:=A_ (ho);clear HO_3;clear ho hb hg hat))
       go_roundg k1
       case measure=>have:=HK1.out;omega
       case rel=>exact ⟨(y109),(wrap64 (x4_1 + 1)),(by first|rfl|(simp;done)|(simp [*];done)),H',⟨by have:=HK1.out;omega⟩,⟨by (with_reducible repeat (first|apply Kd.R_alloc|apply Kd.R_drewN|apply Kd.R_drew));exact HO111.out⟩,⟨bb_⟩⟩
      ·rw [if_neg c7] at H;exact absurd H (by simp)
     ·replace c6:=Bool.eq_false_iff.mpr c6;subst c6;have H1 : (spec_orList.l0 k1 a0 x3_1 (wrap64 (x4_1 + 1))) = some r:=by rw [if_neg (show ¬ (false = true) by decide)] at H;exact H
      clear H;have H:=H1;clear H1;have H':=A_ H;clear H;go_wp2_with (first|((with_reducible refine gate_callee (f:=113) rfl ?_);refine goesL_ (some 13) rfl rfl Tryd.func113 (by kernel_rfl) rfl #[.int .i64 a0,.int .i64 x4_1] rfl au_ ?_;(with_reducible refine (spec_orHas.calls a0 x4_1 false _ A5.out).mono ?_);rintro e w' ⟨rfl,⟨nd,rfl⟩⟩;refine ⟨_,rfl,?_⟩))
      go_roundg k1
      case measure=>have:=HK1.out;omega
      case rel=>exact ⟨(x3_1),(wrap64 (x4_1 + 1)),(by first|rfl|(simp;done)|(simp [*];done)),H',⟨by have:=HK1.out;omega⟩,⟨by (with_reducible repeat (first|apply Kd.R_alloc|apply Kd.R_drewN|apply Kd.R_drew));exact HO_3.out⟩,⟨bb_⟩⟩
    ·rw [if_neg c4] at H;have c4b0 : decide (0 < (ji3)) = false:=decide_eq_false c4;clear c4;obtain rfl:=Option.some.inj H;go_wp2
     go_ret
     exact ⟨_,by first|rfl|(simp [errW_none,errW_some] <;> rfl)|(simp only [← hji3];first|rfl|(simp [errW_none,errW_some] <;> rfl))|(simp [*,errW_none,errW_some] <;> rfl),by (with_reducible repeat (first|apply Kd.R_alloc|apply Kd.R_drewN|apply Kd.R_drew));exact HO_3.out,bb_⟩
   ·rw [if_neg c2] at H;exact absurd H (by simp)
mutual
def spec_orGood.l0 : Nat → List Int → Int → Int → Int → List Int → Option (Bool)
 | 0,_,_,_,_,_=>none
 | k + 1,x11,x12,x13,x113000,x113001=>if x13 < x12 then (if 0 ≤ x13 then (if x13 < (x11.length : Int) then ((spec_orHas.f (rd x11 x13) x13).bind fun t115=>(if t115 = true then (some false) else ((spec_orList.f k (rd x11 x13)).bind fun t116=>(spec_orGood.l1 k (rd x11 x13) x11 x12 x13 t116 (t116.length : Int) 0 x113000 x113001)))) else (none)) else (none)) else (some true)
def spec_orGood.l1 : Nat → Int → List Int → Int → Int → List Int → Int → Int → Int → List Int → Option (Bool)
 | 0,_,_,_,_,_,_,_,_,_=>none
 | k + 1,x4,x11,x12,x13,x22,x23,x24,x113000,x113001=>if x24 < x23 then (if 0 ≤ x24 then (if x24 < (x22.length : Int) then (if 0 ≤ (rd x22 x24) then (if (rd x22 x24) < (x113001.length : Int) then (if (Go.bits .andNot .i64 (rd x113001 (rd x22 x24)) x4) = 0 then (spec_orGood.l1 k x4 x11 x12 x13 x22 x23 (wrap64 (x24 + 1)) x113000 x113001) else (some false)) else (none)) else (none)) else (none)) else (none)) else (spec_orGood.l0 k x11 x12 (wrap64 (x13 + 1)) x113000 x113001)
end
def spec_orGood.f (k : Nat) (a0_0 : Int) (l0_1 : List Int) : Option (Bool) := (spec_orRelation.f k a0_0 l0_1).bind fun t113 => (if t113 = true then (spec_orGood.l0 k l0_1 (l0_1.length : Int) 0 a0_0 l0_1) else (some false))
set_option maxHeartbeats 8000000 in
set_option maxRecDepth 100000 in
theorem spec_orGood.calls (k : Nat) (a0_0 : Int) (A0_1 : Option Addr) (c0_1 : Nat) (l0_1 : List Int) (r : Bool) (w : World) (hr0_1 : Kd.C (Kd.int .i64) w A0_1 l0_1.length l0_1) (hc0_1 : l0_1.length ≤ c0_1) (h : spec_orGood.f k a0_0 l0_1 = some r) :
 Calls Tryd.prog 83 #[.agg #[.int .i64 a0_0,.slice A0_1 l0_1.length c0_1]] w fun e w'=>e = .returned (.bool r) ∧ Below w.heap.size w w':=by
 have hu26:=Tryd.underlying26;have HR0_1:=A_ hr0_1;have HC0_1:=A_ hc0_1;clear hr0_1 hc0_1;have HB:=A_ (Below.refl w.heap.size w);have H : ((spec_orRelation.f k a0_0 l0_1).bind fun t113=>(if t113 = true then (spec_orGood.l0 k l0_1 (l0_1.length : Int) 0 a0_0 l0_1) else (some false))) = some r:=h;clear h;replace H:=Option.bind_eq_some_iff.mp H;obtain ⟨t113,A20,H⟩:=H;replace H : (if t113 = true then (spec_orGood.l0 k l0_1 (l0_1.length : Int) 0 a0_0 l0_1) else (some false)) = some r:=H;have A2:=A_ A20;clear A20;by_cases c3 : t113 = true
 ·subst c3;have H1 : (spec_orGood.l0 k l0_1 (l0_1.length : Int) 0 a0_0 l0_1) = some r:=by rw [if_pos rfl] at H;exact H
  clear H;have H:=H1;clear H1;have H':=A_ H;clear H;go_enter Tryd.func83,Tryd.ntmps83
  go_wp2_with (first|((with_reducible refine gate_dst (N:=1) rfl ?_);refine box_event ?hg (N:=1) ?hd (cs:=#[.int .i64 a0_0,.slice A0_1 l0_1.length c0_1]) (t:=26) ?hr ?_;(case hd=>rfl);(case hg=>rfl);(case hr=>first|(go_simp;done)|(go_simp;rfl));intro gb112 hg w4 hbox hb;have BK112:=A_ (hbox);have GW112:=A_ ((by rw [hg];exact (below_size bb_) : w.heap.size ≤ gb112));have GE112:=A_ ((by rw [hg];exact (below_size bb_) : w.heap.size ≤ gb112));replace HB:=A_ (below_step bb_ hb);clear hb hbox hg;have hcz5_0 : w4.cell? ⟨gb112,0,none⟩ = some (.int .i64 a0_0):=blk_cell BK112.out 0;have hcz5_1 : w4.cell? ⟨gb112,1,none⟩ = some (.slice A0_1 l0_1.length c0_1):=blk_cell BK112.out 1;have hfz5_0:=blk_frozen BK112.out 0;have hfz5_1:=blk_frozen BK112.out 1)|((with_reducible refine gate_callee (f:=104) rfl ?_);refine goesL_ (some 8) rfl rfl Tryd.func104 (by kernel_rfl) rfl #[.agg #[.int .i64 a0_0,.slice A0_1 l0_1.length c0_1]] rfl au_ ?_;(with_reducible refine (spec_orRelation.calls k a0_0 _ _ l0_1 true _ ?side1 ?side2 A2.out).mono ?_);(case side1=>exact cl_ (Kd.C_below HR0_1.out HB.out));(case side2=>exact HC0_1.out);rintro e w6 ⟨rfl,hb⟩;refine ⟨_,rfl,?_⟩;replace BK112:=bz BK112 hb;replace HB:=A_ (below_step bb_ hb);(try clear hb);(try clear hb2);(try clear hk);(try clear hi);have hcz7_0 : w6.cell? ⟨gb112,0,none⟩ = some (.int .i64 a0_0):=blk_cell BK112.out 0;have hcz7_1 : w6.cell? ⟨gb112,1,none⟩ = some (.slice A0_1 l0_1.length c0_1):=blk_cell BK112.out 1;have hfz7_0:=blk_frozen BK112.out 0;have hfz7_1:=blk_frozen BK112.out 1))
  go_loopg [13] k (fun kq v13 w'=>∃ (x13_1 : Int),v13 = .int .i64 x13_1 ∧ Aside0 (spec_orGood.l0 kq l0_1 (l0_1.length : Int) x13_1 a0_0 l0_1 = some r) ∧ Aside0 (kq ≤ k) ∧ Aside0 (w'.heap[gb112]? = some (.cells #[.int .i64 a0_0,(.slice A0_1 l0_1.length c0_1)] 26 (0,0))) ∧ Aside0 (Below w.heap.size w w'))
  case atStart=>exact ⟨(0),(by first|rfl|(simp;done)|(simp [*];done)),H',⟨Nat.le_refl _⟩,⟨bl_ BK112⟩,⟨bb_⟩⟩
  case round =>
   clear H';try clear c1
   try clear p2
   try clear c3
   try clear hcz5_0
   try clear hcz5_1
   try clear hcz7_0
   try clear hcz7_1
   try clear hfz5_0
   try clear hfz5_1
   try clear hfz7_0
   try clear hfz7_1
   obtain ⟨x13_1,rfl,HA,HK1,BK112,HB⟩:=hrel;cases gk with
   | zero=>exact absurd HA.out (by simp [spec_orGood.l0])
   | succ k1 =>
    have H:=HA.out;clear HA;simp only [spec_orGood.l0] at H
    by_cases c8 : x13_1 < (l0_1.length : Int)
    ·rw [if_pos c8] at H;have c8b0 : decide (x13_1 < (l0_1.length : Int)) = true:=decide_eq_true c8;clear c8;by_cases c9 : 0 ≤ x13_1
     ·rw [if_pos c9] at H;have c9b0 : decide (0 ≤ x13_1) = true:=decide_eq_true c9;clear c9;by_cases c10 : x13_1 < (l0_1.length : Int)
      ·rw [if_pos c10] at H;have c10b0 : decide (x13_1 < (l0_1.length : Int)) = true:=decide_eq_true c10;clear c10;replace H:=Option.bind_eq_some_iff.mp H;obtain ⟨t115,A110,H⟩:=H;replace H : (if t115 = true then (some false) else ((spec_orList.f k1 (rd l0_1 x13_1)).bind fun t116=>(spec_orGood.l1 k1 (rd l0_1 x13_1) l0_1 (l0_1.length : Int) x13_1 t116 (t116.length : Int) 0 a0_0 l0_1))) = some r:=H;have A11:=A_ A110;clear A110;by_cases c12 : t115 = true
       ·subst c12;have H1 : (some false) = some r:=by rw [if_pos rfl] at H;exact H
        clear H;have H:=H1;clear H1;obtain rfl:=Option.some.inj H;have p114 : 0 ≤ (x13_1 : Int):=of_decide_eq_true (by first|(with_reducible assumption)|assumption);have q114 : x13_1 < (l0_1.length : Int):=of_decide_eq_true (by first|(with_reducible assumption)|assumption);obtain ⟨ad114,e114,hx114_0⟩:=Kd.at_int HR0_1.out x13_1 p114 q114;cases e114
        (try replace hx114_0:=(HB.out.cell (World.block_lt_of_cell? w _ hx114_0)).trans hx114_0);replace p114:=eq_true p114;replace q114:=eq_true q114;go_wp2_with (first|((with_reducible refine gate_callee (f:=113) rfl ?_);refine goesL_ (some 20) rfl rfl Tryd.func113 (by kernel_rfl) rfl #[.int .i64 (rd l0_1 x13_1),.int .i64 x13_1] rfl au_ ?_;(with_reducible refine (spec_orHas.calls (rd l0_1 x13_1) x13_1 true _ A11.out).mono ?_);rintro e w' ⟨rfl,⟨nd,rfl⟩⟩;refine ⟨_,rfl,?_⟩))
        go_ret
        exact ⟨by first|rfl|(simp [errW_none,errW_some] <;> rfl)|(simp [*,errW_none,errW_some] <;> rfl),bb_⟩
       ·replace c12:=Bool.eq_false_iff.mpr c12;subst c12;have H1 : ((spec_orList.f k1 (rd l0_1 x13_1)).bind fun t116=>(spec_orGood.l1 k1 (rd l0_1 x13_1) l0_1 (l0_1.length : Int) x13_1 t116 (t116.length : Int) 0 a0_0 l0_1)) = some r:=by rw [if_neg (show ¬ (false = true) by decide)] at H;exact H
        clear H;have H:=H1;clear H1;replace H:=Option.bind_eq_some_iff.mp H;obtain ⟨t116,A130,H⟩:=H;replace H : (spec_orGood.l1 k1 (rd l0_1 x13_1) l0_1 (l0_1.length : Int) x13_1 t116 (t116.length : Int) 0 a0_0 l0_1) = some r:=H;have A13:=A_ A130;clear A130;have H':=A_ H;clear H;have p114 : 0 ≤ (x13_1 : Int):=of_decide_eq_true (by first|(with_reducible assumption)|assumption);have q114 : x13_1 < (l0_1.length : Int):=of_decide_eq_true (by first|(with_reducible assumption)|assumption);obtain ⟨ad114,e114,hx114_0⟩:=Kd.at_int HR0_1.out x13_1 p114 q114;cases e114
        (try replace hx114_0:=(HB.out.cell (World.block_lt_of_cell? w _ hx114_0)).trans hx114_0);replace p114:=eq_true p114;replace q114:=eq_true q114;go_wp2_with (first|((with_reducible refine gate_callee (f:=113) rfl ?_);refine goesL_ (some 20) rfl rfl Tryd.func113 (by kernel_rfl) rfl #[.int .i64 (rd l0_1 x13_1),.int .i64 x13_1] rfl au_ ?_;(with_reducible refine (spec_orHas.calls (rd l0_1 x13_1) x13_1 false _ A11.out).mono ?_);rintro e w' ⟨rfl,⟨nd,rfl⟩⟩;refine ⟨_,rfl,?_⟩)|((with_reducible refine gate_callee (f:=115) rfl ?_);refine goesL_ (some 22) rfl rfl Tryd.func115 (by kernel_rfl) rfl #[.int .i64 (rd l0_1 x13_1)] rfl au_ ?_;(with_reducible refine (spec_orList.calls k1 (rd l0_1 x13_1) t116 _ A13.out).mono ?_);rintro e w14 ⟨v117,rfl,ho0,hb⟩;refine ⟨_,rfl,?_⟩;have HO118:=A_ (Kd.R_lower ho0 (below_size bb_));replace BK112:=bz BK112 hb;replace HB:=A_ (below_step bb_ hb);(try clear hb);(try clear hb2);(try clear hk);(try clear hi);(try clear ho0);obtain ⟨Ao15,co15,eo15⟩:=Kd.R_slice HO118.out;subst eo15))
        go_loopg [24] k1 (fun kq v24 w'=>∃ (x24_2 : Int),v24 = .int .i64 x24_2 ∧ Aside0 (spec_orGood.l1 kq (rd l0_1 x13_1) l0_1 (l0_1.length : Int) x13_1 t116 (t116.length : Int) x24_2 a0_0 l0_1 = some r) ∧ Aside0 (kq ≤ k1) ∧ Aside0 (Kd.R (Kd.int .i64) 3 w' w.heap.size (fun _=>True) (.slice Ao15 t116.length co15) t116) ∧ Aside0 (w'.heap[gb112]? = some (.cells #[.int .i64 a0_0,(.slice (some ad114) l0_1.length c0_1)] 26 (0,0))) ∧ Aside0 (Below w.heap.size w w'))
        case atStart=>exact ⟨(0),(by first|rfl|(simp;done)|(simp [*];done)),H',⟨Nat.le_refl _⟩,⟨by (with_reducible repeat (first|apply Kd.R_alloc|apply Kd.R_drewN|apply Kd.R_drew));exact HO118.out⟩,⟨bl_ BK112⟩,⟨bb_⟩⟩
        case round =>
         clear H';try clear c1
         try clear p1
         try clear q1
         try clear hx1
         try clear p2
         try clear c3
         try clear c8
         try clear c8b0
         try clear c9
         try clear c9b0
         try clear c10
         try clear c10b0
         try clear c11
         try clear p11
         try clear q11
         try clear hx11
         try clear c12
         try clear hcz5_0
         try clear hcz5_1
         try clear hcz7_0
         try clear hcz7_1
         try clear hfz5_0
         try clear hfz5_1
         try clear hfz7_0
         try clear hfz7_1
         try clear hx114_0
         try clear p114
         try clear p2
         try clear q114
         obtain ⟨x24_2,rfl,HA,HK2,HO_22,BK112,HB⟩:=hrel;cases gk with
         | zero=>exact absurd HA.out (by simp [spec_orGood.l1])
         | succ k2 =>
          have H:=HA.out;clear HA;simp only [spec_orGood.l1] at H
          by_cases c16 : x24_2 < (t116.length : Int)
          ·rw [if_pos c16] at H;have c16b0 : decide (x24_2 < (t116.length : Int)) = true:=decide_eq_true c16;clear c16;by_cases c17 : 0 ≤ x24_2
           ·rw [if_pos c17] at H;have c17b0 : decide (0 ≤ x24_2) = true:=decide_eq_true c17;clear c17;by_cases c18 : x24_2 < (t116.length : Int)
            ·rw [if_pos c18] at H;have c18b0 : decide (x24_2 < (t116.length : Int)) = true:=decide_eq_true c18;clear c18;by_cases c19 : 0 ≤ (rd t116 x24_2)
             ·rw [if_pos c19] at H;have c19b0 : decide (0 ≤ (rd t116 x24_2)) = true:=decide_eq_true c19;clear c19;by_cases c20 : (rd t116 x24_2) < (l0_1.length : Int)
              ·rw [if_pos c20] at H;have c20b0 : decide ((rd t116 x24_2) < (l0_1.length : Int)) = true:=decide_eq_true c20;clear c20;by_cases c21 : (Go.bits .andNot .i64 (rd l0_1 (rd t116 x24_2)) (rd l0_1 x13_1)) = 0
               ·rw [if_pos c21] at H;have c21b0 : ((Go.bits .andNot .i64 (rd l0_1 (rd t116 x24_2)) (rd l0_1 x13_1)) == 0) = true:=beq_iff_eq.mpr c21;have c21b1 : ((Go.bits .andNot .i64 (rd l0_1 (rd t116 x24_2)) (rd l0_1 x13_1)) != 0) = false:=bne_eq_false_iff_eq.mpr c21;clear c21;have H':=A_ H;clear H;have p119 : 0 ≤ (x24_2 : Int):=of_decide_eq_true (by first|(with_reducible assumption)|assumption);have q119 : x24_2 < (t116.length : Int):=of_decide_eq_true (by first|(with_reducible assumption)|assumption);obtain ⟨ad119,e119,hx119_0⟩:=Kd.at_int (Kd.R_reads' HO_22.out).2.2 x24_2 p119 q119;cases e119
                replace p119:=eq_true p119;replace q119:=eq_true q119;have hcz22_0 : wr.cell? ⟨gb112,0,none⟩ = some (.int .i64 a0_0):=blk_cell BK112.out 0;have hcz22_1 : wr.cell? ⟨gb112,1,none⟩ = some (.slice (some ad114) l0_1.length c0_1):=blk_cell BK112.out 1;have hfz22_0:=blk_frozen BK112.out 0;have hfz22_1:=blk_frozen BK112.out 1;have p120 : 0 ≤ ((rd t116 x24_2) : Int):=of_decide_eq_true (by first|(with_reducible assumption)|assumption);have q120 : (rd t116 x24_2) < (l0_1.length : Int):=of_decide_eq_true (by first|(with_reducible assumption)|assumption);obtain ⟨ad120,e120,hx120_0⟩:=Kd.at_int HR0_1.out (rd t116 x24_2) p120 q120;obtain rfl : ad114 = ad120:=(by injection e120);(try replace hx120_0:=(HB.out.cell (World.block_lt_of_cell? w _ hx120_0)).trans hx120_0);replace p120:=eq_true p120;replace q120:=eq_true q120;go_wp2
                go_roundg k2
                case measure=>have:=HK1.out;have:=HK2.out;omega
                case rel=>exact ⟨(wrap64 (x24_2 + 1)),(by first|rfl|(simp;done)|(simp [*];done)),H',⟨by have:=HK1.out;have:=HK2.out;omega⟩,⟨by (with_reducible repeat (first|apply Kd.R_alloc|apply Kd.R_drewN|apply Kd.R_drew));exact HO_22.out⟩,⟨bl_ BK112⟩,⟨bb_⟩⟩
               ·rw [if_neg c21] at H;have c21b0 : ((Go.bits .andNot .i64 (rd l0_1 (rd t116 x24_2)) (rd l0_1 x13_1)) == 0) = false:=beq_eq_false_iff_ne.mpr c21;have c21b1 : ((Go.bits .andNot .i64 (rd l0_1 (rd t116 x24_2)) (rd l0_1 x13_1)) != 0) = true:=bne_iff_ne.mpr c21;obtain rfl:=Option.some.inj H;have p119 : 0 ≤ (x24_2 : Int):=of_decide_eq_true (by first|(with_reducible assumption)|assumption);have q119 : x24_2 < (t116.length : Int):=of_decide_eq_true (by first|(with_reducible assumption)|assumption);obtain ⟨ad119,e119,hx119_0⟩:=Kd.at_int (Kd.R_reads' HO_22.out).2.2 x24_2 p119 q119;cases e119
                replace p119:=eq_true p119;replace q119:=eq_true q119;have hcz23_0 : wr.cell? ⟨gb112,0,none⟩ = some (.int .i64 a0_0):=blk_cell BK112.out 0;have hcz23_1 : wr.cell? ⟨gb112,1,none⟩ = some (.slice (some ad114) l0_1.length c0_1):=blk_cell BK112.out 1;have hfz23_0:=blk_frozen BK112.out 0;have hfz23_1:=blk_frozen BK112.out 1;have p120 : 0 ≤ ((rd t116 x24_2) : Int):=of_decide_eq_true (by first|(with_reducible assumption)|assumption);have q120 : (rd t116 x24_2) < (l0_1.length : Int):=of_decide_eq_true (by first|(with_reducible assumption)|assumption);obtain ⟨ad120,e120,hx120_0⟩:=Kd.at_int HR0_1.out (rd t116 x24_2) p120 q120;obtain rfl : ad114 = ad120:=(by injection e120);(try replace hx120_0:=(HB.out.cell (World.block_lt_of_cell? w _ hx120_0)).trans hx120_0);replace p120:=eq_true p120;replace q120:=eq_true q120;go_wp2
                go_ret
                exact ⟨by first|rfl|(simp [errW_none,errW_some] <;> rfl)|(simp [*,errW_none,errW_some] <;> rfl),bb_⟩
              ·rw [if_neg c20] at H;exact absurd H (by simp)
             ·rw [if_neg c19] at H;exact absurd H (by simp)
            ·rw [if_neg c18] at H;exact absurd H (by simp)
           ·rw [if_neg c17] at H;exact absurd H (by simp)
          ·rw [if_neg c16] at H;have c16b0 : decide (x24_2 < (t116.length : Int)) = false:=decide_eq_false c16;clear c16;have H':=A_ H;clear H;go_wp2
           go_roundg k2
           case measure=>have:=HK1.out;have:=HK2.out;omega
           case rel=>exact ⟨(wrap64 (x13_1 + 1)),(by first|rfl|(simp;done)|(simp [*];done)),H',⟨by have:=HK1.out;have:=HK2.out;omega⟩,⟨bl_ BK112⟩,⟨bb_⟩⟩
      ·rw [if_neg c10] at H;exact absurd H (by simp)
     ·rw [if_neg c9] at H;exact absurd H (by simp)
    ·rw [if_neg c8] at H;have c8b0 : decide (x13_1 < (l0_1.length : Int)) = false:=decide_eq_false c8;clear c8;obtain rfl:=Option.some.inj H;go_wp2
     go_ret
     exact ⟨by first|rfl|(simp [errW_none,errW_some] <;> rfl)|(simp [*,errW_none,errW_some] <;> rfl),bb_⟩
 ·replace c3:=Bool.eq_false_iff.mpr c3;subst c3;have H1 : (some false) = some r:=by rw [if_neg (show ¬ (false = true) by decide)] at H;exact H
  clear H;have H:=H1;clear H1;obtain rfl:=Option.some.inj H;go_enter Tryd.func83,Tryd.ntmps83
  go_wp2_with (first|((with_reducible refine gate_dst (N:=1) rfl ?_);refine box_event ?hg (N:=1) ?hd (cs:=#[.int .i64 a0_0,.slice A0_1 l0_1.length c0_1]) (t:=26) ?hr ?_;(case hd=>rfl);(case hg=>rfl);(case hr=>first|(go_simp;done)|(go_simp;rfl));intro gb112 hg w24 hbox hb;have BK112:=A_ (hbox);have GW112:=A_ ((by rw [hg];exact (below_size bb_) : w.heap.size ≤ gb112));have GE112:=A_ ((by rw [hg];exact (below_size bb_) : w.heap.size ≤ gb112));replace HB:=A_ (below_step bb_ hb);clear hb hbox hg;have hcz25_0 : w24.cell? ⟨gb112,0,none⟩ = some (.int .i64 a0_0):=blk_cell BK112.out 0;have hcz25_1 : w24.cell? ⟨gb112,1,none⟩ = some (.slice A0_1 l0_1.length c0_1):=blk_cell BK112.out 1;have hfz25_0:=blk_frozen BK112.out 0;have hfz25_1:=blk_frozen BK112.out 1)|((with_reducible refine gate_callee (f:=104) rfl ?_);refine goesL_ (some 8) rfl rfl Tryd.func104 (by kernel_rfl) rfl #[.agg #[.int .i64 a0_0,.slice A0_1 l0_1.length c0_1]] rfl au_ ?_;(with_reducible refine (spec_orRelation.calls k a0_0 _ _ l0_1 false _ ?side1 ?side2 A2.out).mono ?_);(case side1=>exact cl_ (Kd.C_below HR0_1.out HB.out));(case side2=>exact HC0_1.out);rintro e w26 ⟨rfl,hb⟩;refine ⟨_,rfl,?_⟩;replace BK112:=bz BK112 hb;replace HB:=A_ (below_step bb_ hb);(try clear hb);(try clear hb2);(try clear hk);(try clear hi)))
  go_ret
  exact ⟨by first|rfl|(simp [errW_none,errW_some] <;> rfl)|(simp [*,errW_none,errW_some] <;> rfl),bb_⟩
mutual
def spec_orTogether.l0 : Nat → Int → List Int → Int → Int → Int → List Int → Int → List Int → Int → List Int → Option (Int × List Int)
 | 0,_,_,_,_,_,_,_,_,_,_=>none
 | k + 1,x2,x19,x20,x21,x884000,x884001,x885000,x885001,x887000,x887001=>if x21 < x20 then (if 0 ≤ x21 then (if x21 < (x19.length : Int) then (if x887001.length < 17592186044416 then (spec_orTogether.l0 k x2 x19 x20 (wrap64 (x21 + 1)) x884000 x884001 x885000 x885001 x887000 (x887001 ++ [Go.bits .or .i64 (rd x19 x21) x2])) else (none)) else (none)) else (none)) else (spec_orTogether.l1 k x885001 (x885001.length : Int) 0 x884000 x884001 x887000 x887001)
def spec_orTogether.l1 : Nat → List Int → Int → Int → Int → List Int → Int → List Int → Option (Int × List Int)
 | 0,_,_,_,_,_,_,_=>none
 | k + 1,x35,x36,x37,x884000,x884001,x887000,x887001=>if x37 < x36 then (if 0 ≤ x37 then (if x37 < (x35.length : Int) then (if 0 ≤ x884000 then (if x887001.length < 17592186044416 then (spec_orTogether.l1 k x35 x36 (wrap64 (x37 + 1)) x884000 x884001 x887000 (x887001 ++ [shl .i64 (rd x35 x37) x884000])) else (none)) else (none)) else (none)) else (none)) else (some (x887000,x887001))
end
def spec_orTogether.f (k : Nat) (a0_0 : Int) (l0_1 : List Int) (a1_0 : Int) (l1_1 : List Int) (a2 : Int) : Option (Int × List Int) := spec_orTogether.l0 k a2 l0_1 (l0_1.length : Int) 0 a0_0 l0_1 a1_0 l1_1 (wrap64 (a0_0 + a1_0)) ([] : List Int)
def spec_orTogether.T10 : Bool × List (List Nat × List Nat) := (true, [([], []), ([0], [0]), ([], []), ([], []), ([3], [3]), ([2, 4], [2, 4]), ([5], [5]), ([1, 6], [1, 6]), ([0, 1, 2, 3, 4, 5, 6, 7], []), ([8, 7, 7, 0, 1, 2, 3, 4, 5, 6, 7], [7, 8])])
def spec_orTogether.B10 : List Nat := [0, 1, 0, 0, 8, 28, 60, 127, 255, 511]
theorem spec_orTogether.tab10 : rtab .any (opsOf Tryd.f117 10) = spec_orTogether.T10:=by kernel_rfl
theorem spec_orTogether.bits10 : waitsOk spec_orTogether.T10.2 spec_orTogether.B10 = true:=by kernel_rfl
set_option maxHeartbeats 8000000 in
set_option maxRecDepth 100000 in
theorem spec_orTogether.calls (k : Nat) (a0_0 : Int) (A0_1 : Option Addr) (c0_1 : Nat) (l0_1 : List Int) (a1_0 : Int) (A1_1 : Option Addr) (c1_1 : Nat) (l1_1 : List Int) (a2 : Int) (r1 : Int) (r2 : List Int) (w : World) (hr0_1 : Kd.C (Kd.int .i64) w A0_1 l0_1.length l0_1) (hc0_1 : l0_1.length ≤ c0_1) (hr1_1 : Kd.C (Kd.int .i64) w A1_1 l1_1.length l1_1) (hc1_1 : l1_1.length ≤ c1_1) (h : spec_orTogether.f k a0_0 l0_1 a1_0 l1_1 a2 = some (r1,r2)) :
 Calls Tryd.prog 117 #[.agg #[.int .i64 a0_0,.slice A0_1 l0_1.length c0_1],.agg #[.int .i64 a1_0,.slice A1_1 l1_1.length c1_1],.int .i64 a2] w fun e w'=>∃ v1_ : Value,e = .returned (.agg #[.int .i64 r1,v1_]) ∧ Kd.R (Kd.int .i64) 3 w' w.heap.size (fun _=>True) v1_ r2 ∧ Below w.heap.size w w':=by
 have hu26:=Tryd.underlying26;have HR0_1:=A_ hr0_1;have HC0_1:=A_ hc0_1;clear hr0_1 hc0_1;have HR1_1:=A_ hr1_1;have HC1_1:=A_ hc1_1;clear hr1_1 hc1_1;have HB:=A_ (Below.refl w.heap.size w);have H : (spec_orTogether.l0 k a2 l0_1 (l0_1.length : Int) 0 a0_0 l0_1 a1_0 l1_1 (wrap64 (a0_0 + a1_0)) ([] : List Int)) = some (r1,r2):=h;clear h;have H':=A_ H;clear H;go_enter Tryd.func117,Tryd.ntmps117
 go_wp2_with (first|((with_reducible refine gate_dst (N:=3) rfl ?_);refine box_event ?hg (N:=3) ?hd (cs:=#[.int .i64 a0_0,.slice A0_1 l0_1.length c0_1]) (t:=26) ?hr ?_;(case hd=>rfl);(case hg=>rfl);(case hr=>first|(go_simp;done)|(go_simp;rfl));intro gb883 hg w4 hbox hb;have BK883:=A_ (hbox);have GW883:=A_ ((by rw [hg];exact (below_size bb_) : w.heap.size ≤ gb883));have GE883:=A_ ((by rw [hg];exact (below_size bb_) : w.heap.size ≤ gb883));replace HB:=A_ (below_step bb_ hb);clear hb hbox hg)|((with_reducible refine gate_dst (N:=4) rfl ?_);refine box_event ?hg (N:=4) ?hd (cs:=#[.int .i64 a1_0,.slice A1_1 l1_1.length c1_1]) (t:=26) ?hr ?_;(case hd=>rfl);(case hg=>rfl);(case hr=>first|(go_simp;done)|(go_simp;rfl));intro gb884 hg w5 hbox hb;have BK884:=A_ (hbox);have GW884:=A_ ((by rw [hg];exact (below_size bb_) : w.heap.size ≤ gb884));have GE884:=A_ ((by rw [hg];exact (below_size bb_) : w.heap.size ≤ gb884));replace HB:=A_ (below_step bb_ hb);have NB883_884:=A_ ((by rw [hg];exact Nat.ne_of_lt (blk_lt (bl_ BK883)) : gb883 ≠ gb884));have NB884_883:=A_ ((by rw [hg];exact Nat.ne_of_gt (blk_lt (bl_ BK883)) : gb884 ≠ gb883));replace BK883:=bz BK883 hb;clear hb hbox hg)|((with_reducible refine gate_dst (N:=6) rfl ?_);refine box_event ?hg (N:=6) ?hd (cs:=#[.int .i64 0,.slice none 0 0]) (t:=26) ?hr ?_;(case hd=>rfl);(case hg=>rfl);(case hr=>first|(go_simp;done)|(go_simp;rfl));intro gb885 hg w6 hbox hb;have BK885:=A_ (hbox);have GW885:=A_ ((by rw [hg];exact (below_size bb_) : w.heap.size ≤ gb885));have GE885:=A_ ((by rw [hg];exact (below_size bb_) : w.heap.size ≤ gb885));replace HB:=A_ (below_step bb_ hb);have NB883_885:=A_ ((by rw [hg];exact Nat.ne_of_lt (blk_lt (bl_ BK883)) : gb883 ≠ gb885));have NB885_883:=A_ ((by rw [hg];exact Nat.ne_of_gt (blk_lt (bl_ BK883)) : gb885 ≠ gb883));replace BK883:=bz BK883 hb;have NB884_885:=A_ ((by rw [hg];exact Nat.ne_of_lt (blk_lt (bl_ BK884)) : gb884 ≠ gb885));have NB885_884:=A_ ((by rw [hg];exact Nat.ne_of_gt (blk_lt (bl_ BK884)) : gb885 ≠ gb884));replace BK884:=bz BK884 hb;clear hb hbox hg;have hnb7:=NB883_884.out;have hnc7:=NB884_883.out;have hnb8:=NB883_885.out;have hnc8:=NB885_883.out;have hcz9_0 : w6.cell? ⟨gb883,0,none⟩ = some (.int .i64 a0_0):=blk_cell BK883.out 0;have hcz9_1 : w6.cell? ⟨gb883,1,none⟩ = some (.slice A0_1 l0_1.length c0_1):=blk_cell BK883.out 1;have hfz9_0:=blk_frozen BK883.out 0;have hfz9_1:=blk_frozen BK883.out 1;have hnb10:=NB884_885.out;have hnc10:=NB885_884.out;have hcz11_0 : w6.cell? ⟨gb884,0,none⟩ = some (.int .i64 a1_0):=blk_cell BK884.out 0;have hcz11_1 : w6.cell? ⟨gb884,1,none⟩ = some (.slice A1_1 l1_1.length c1_1):=blk_cell BK884.out 1;have hfz11_0:=blk_frozen BK884.out 0;have hfz11_1:=blk_frozen BK884.out 1)|((with_reducible refine gate_dst (N:=7) rfl ?_);refine box_event ?hg (N:=7) ?hd (cs:=#[.int .i64 0,.slice none 0 0]) (t:=26) ?hr ?_;(case hd=>rfl);(case hg=>rfl);(case hr=>first|(go_simp;done)|(go_simp;rfl));intro gb886 hg w12 hbox hb;have BK886:=A_ (hbox);have GW886:=A_ ((by rw [hg];exact (below_size bb_) : w.heap.size ≤ gb886));have GE886:=A_ ((by rw [hg];exact (below_size bb_) : w.heap.size ≤ gb886));replace HB:=A_ (below_step bb_ hb);have NB883_886:=A_ ((by rw [hg];exact Nat.ne_of_lt (blk_lt (bl_ BK883)) : gb883 ≠ gb886));have NB886_883:=A_ ((by rw [hg];exact Nat.ne_of_gt (blk_lt (bl_ BK883)) : gb886 ≠ gb883));replace BK883:=bz BK883 hb;have NB884_886:=A_ ((by rw [hg];exact Nat.ne_of_lt (blk_lt (bl_ BK884)) : gb884 ≠ gb886));have NB886_884:=A_ ((by rw [hg];exact Nat.ne_of_gt (blk_lt (bl_ BK884)) : gb886 ≠ gb884));replace BK884:=bz BK884 hb;have NB885_886:=A_ ((by rw [hg];exact Nat.ne_of_lt (blk_lt (bl_ BK885)) : gb885 ≠ gb886));have NB886_885:=A_ ((by rw [hg];exact Nat.ne_of_gt (blk_lt (bl_ BK885)) : gb886 ≠ gb885));replace BK885:=bz BK885 hb;clear hb hbox hg;have hnb13:=NB886_883.out;have hnc13:=NB883_886.out;have hnb14:=NB886_884.out;have hnc14:=NB884_886.out;have hnb15:=NB886_885.out;have hnc15:=NB885_886.out;have hcz16_0 : w12.cell? ⟨gb886,0,none⟩ = some (.int .i64 0):=blk_cell BK886.out 0;have hcz16_1 : w12.cell? ⟨gb886,1,none⟩ = some (.slice none 0 0):=blk_cell BK886.out 1;have hfz16_0:=blk_frozen BK886.out 0;have hfz16_1:=blk_frozen BK886.out 1;have hcz17_0 : w12.cell? ⟨gb883,0,none⟩ = some (.int .i64 a0_0):=blk_cell BK883.out 0;have hcz17_1 : w12.cell? ⟨gb883,1,none⟩ = some (.slice A0_1 l0_1.length c0_1):=blk_cell BK883.out 1;have hfz17_0:=blk_frozen BK883.out 0;have hfz17_1:=blk_frozen BK883.out 1))
 go_loopg [21] k (fun kq v21 w'=>∃ (x21_1 : Int) (x887001_1 : List Int) (u887001 : Value),v21 = .int .i64 x21_1 ∧ Aside0 (spec_orTogether.l0 kq a2 l0_1 (l0_1.length : Int) x21_1 a0_0 l0_1 a1_0 l1_1 (wrap64 (a0_0 + a1_0)) x887001_1 = some (r1,r2)) ∧ Aside0 (kq ≤ k) ∧ Aside0 (Kd.R (Kd.int .i64) 3 w' w.heap.size (fun _=>True) u887001 x887001_1) ∧ Aside0 (w'.heap[gb883]? = some (.cells #[.int .i64 a0_0,(.slice A0_1 l0_1.length c0_1)] 26 (0,0))) ∧ Aside0 (w'.heap[gb884]? = some (.cells #[.int .i64 a1_0,(.slice A1_1 l1_1.length c1_1)] 26 (0,0))) ∧ Aside0 (w'.heap[gb885]? = some (.cells #[.int .i64 0,(.slice none 0 0)] 26 (0,0))) ∧ Aside0 (w'.heap[gb886]? = some (.cells #[.int .i64 (wrap64 (a0_0 + a1_0)),u887001] 26 (0,0))) ∧ Aside0 (Below w.heap.size w w'))
 case atStart=>exact ⟨(0),(([] : List Int)),(.slice none 0 0),(by first|rfl|(simp;done)|(simp [*];done)),H',⟨Nat.le_refl _⟩,⟨by first|exact Kd.R_nil _ _ _ _ _|exact Kd.N_nil _ _ _ _ _|exact Kd.V_nil _ _ _ _ _|exact Kd.Q_nil _ _ _ _ _|exact Kd.S_nil _ _ _ _ _⟩,⟨by (with_reducible repeat (first|refine blk_drewN ?_ _|refine blk_drew ?_|refine blk_alloc ?_ _));refine blk_far ?_ NB883_886.out _;(with_reducible repeat (first|refine blk_drewN ?_ _|refine blk_drew ?_|refine blk_alloc ?_ _));refine blk_far ?_ NB883_886.out _;(with_reducible repeat (first|refine blk_drewN ?_ _|refine blk_drew ?_|refine blk_alloc ?_ _));exact BK883.out⟩,⟨by (with_reducible repeat (first|refine blk_drewN ?_ _|refine blk_drew ?_|refine blk_alloc ?_ _));refine blk_far ?_ NB884_886.out _;(with_reducible repeat (first|refine blk_drewN ?_ _|refine blk_drew ?_|refine blk_alloc ?_ _));refine blk_far ?_ NB884_886.out _;(with_reducible repeat (first|refine blk_drewN ?_ _|refine blk_drew ?_|refine blk_alloc ?_ _));exact BK884.out⟩,⟨by (with_reducible repeat (first|refine blk_drewN ?_ _|refine blk_drew ?_|refine blk_alloc ?_ _));refine blk_far ?_ NB885_886.out _;(with_reducible repeat (first|refine blk_drewN ?_ _|refine blk_drew ?_|refine blk_alloc ?_ _));refine blk_far ?_ NB885_886.out _;(with_reducible repeat (first|refine blk_drewN ?_ _|refine blk_drew ?_|refine blk_alloc ?_ _));exact BK885.out⟩,⟨by (with_reducible repeat (first|refine blk_drewN ?_ _|refine blk_drew ?_|refine blk_alloc ?_ _));refine blk_put (cs:=#[.int .i64 (wrap64 (a0_0 + a1_0)),.slice none 0 0]) ?_ 1 _ rfl;(with_reducible repeat (first|refine blk_drewN ?_ _|refine blk_drew ?_|refine blk_alloc ?_ _));refine blk_put (cs:=#[.int .i64 0,.slice none 0 0]) ?_ 0 _ rfl;(with_reducible repeat (first|refine blk_drewN ?_ _|refine blk_drew ?_|refine blk_alloc ?_ _));exact BK886.out⟩,⟨bb_⟩⟩
 case round =>
  clear H';try clear c1
  try clear p2
  try clear p6
  try clear c7
  try clear c8
  try clear c10
  try clear c11
  try clear c13
  try clear c14
  try clear c15
  try clear hcz11_0
  try clear hcz11_1
  try clear hcz16_0
  try clear hcz16_1
  try clear hcz17_0
  try clear hcz17_1
  try clear hcz9_0
  try clear hcz9_1
  try clear hfz11_0
  try clear hfz11_1
  try clear hfz16_0
  try clear hfz16_1
  try clear hfz17_0
  try clear hfz17_1
  try clear hfz9_0
  try clear hfz9_1
  obtain ⟨x21_1,x887001_1,u887001,rfl,HA,HK1,HO_887001,BK883,BK884,BK885,BK886,HB⟩:=hrel;cases gk with
  | zero => exact absurd HA.out (by simp [spec_orTogether.l0])
  | succ k1 =>
   have H:=HA.out;clear HA;simp only [spec_orTogether.l0] at H
   by_cases c18 : x21_1 < (l0_1.length : Int)
   ·rw [if_pos c18] at H;have c18b0 : decide (x21_1 < (l0_1.length : Int)) = true:=decide_eq_true c18;clear c18;by_cases c19 : 0 ≤ x21_1
    ·rw [if_pos c19] at H;have c19b0 : decide (0 ≤ x21_1) = true:=decide_eq_true c19;clear c19;by_cases c20 : x21_1 < (l0_1.length : Int)
     ·rw [if_pos c20] at H;have c20b0 : decide (x21_1 < (l0_1.length : Int)) = true:=decide_eq_true c20;clear c20;by_cases c21 : x887001_1.length < 17592186044416
      ·rw [if_pos c21] at H;have LMc21:=A_ c21;clear c21;obtain ⟨y888,hy888⟩ : ∃ y_ : List Int,y_ = (x887001_1 ++ [Go.bits .or .i64 (rd l0_1 x21_1) a2]):=⟨_,rfl⟩;replace H : (spec_orTogether.l0 k1 a2 l0_1 (l0_1.length : Int) (wrap64 (x21_1 + 1)) a0_0 l0_1 a1_0 l1_1 (wrap64 (a0_0 + a1_0)) y888) = some (r1,r2):=by first|(rw [hy888];with_reducible exact H)|(have H2_:=(Option.bind_some _ _).symm.trans H;rw [hy888];with_reducible exact H2_)|(have H2_:=(Option.bind_some _ _).symm.trans H;with_reducible exact H2_)|with_reducible exact H|(rw [hy888];exact H)|exact H
       have Ny888:=A_ hy888;clear hy888;have H':=A_ H;clear H;have p887 : 0 ≤ (x21_1 : Int):=of_decide_eq_true (by first|(with_reducible assumption)|assumption);have q887 : x21_1 < (l0_1.length : Int):=of_decide_eq_true (by first|(with_reducible assumption)|assumption);obtain ⟨ad887,e887,hx887_0⟩:=Kd.at_int HR0_1.out x21_1 p887 q887;cases e887
       (try replace hx887_0:=(HB.out.cell (World.block_lt_of_cell? w _ hx887_0)).trans hx887_0);replace p887:=eq_true p887;replace q887:=eq_true q887;have hnb22:=NB886_883.out;have hnc22:=NB883_886.out;have hnb23:=NB886_884.out;have hnc23:=NB884_886.out;have hnb24:=NB886_885.out;have hnc24:=NB885_886.out;have hcz25_0 : wr.cell? ⟨gb886,0,none⟩ = some (.int .i64 (wrap64 (a0_0 + a1_0))):=blk_cell BK886.out 0;have hcz25_1 : wr.cell? ⟨gb886,1,none⟩ = some (u887001):=blk_cell BK886.out 1;have hfz25_0:=blk_frozen BK886.out 0;have hfz25_1:=blk_frozen BK886.out 1;go_wp2_with (first|((with_reducible refine gate_builtin (b:=.append) (xs:=#[.tmp 26,.tmp 30]) rfl ?_);at_builtin;refine Kd.R_append (Kd.int .i64) (w0:=w) w.heap.size rfl (.tmp 26) (.tmp 30) 22 3 (.int .i64 0) 8 rfl Tryd.underlying22 info3 rfl (by decide) (by omega) u887001 x887001_1 (Go.bits .or .i64 (rd l0_1 x21_1) a2) [.int .i64 (Go.bits .or .i64 (rd l0_1 x21_1) a2)] (fun _=>True) (fun _=>False) rfl rfl ?aP (fun _ hk=>hk.elim) ?aF ?aO ?aB ?aS ?aL ?_;(case aP=>exact rfl);(case aB=>exact bb_);(case aF=>exact (fun _ _=>trivial));(case aO=>exact (rl_ HO_887001));(case aS=>exact (below_size bb_));(case aL=>have:=LMc21.out;omega);intro v889 w26 ho hb hg hat;rw [← Ny888.out] at ho;replace BK883:=A_ (blk_grown (g:=gb883) (o:=.cells #[.int .i64 a0_0,.slice (some ad887) l0_1.length c0_1] 26 (0,0)) (bl_ BK883) hg (Kd.R_ne HO_887001.out BK883.out (by decide)));replace BK884:=A_ (blk_grown (g:=gb884) (o:=.cells #[.int .i64 a1_0,.slice A1_1 l1_1.length c1_1] 26 (0,0)) (bl_ BK884) hg (Kd.R_ne HO_887001.out BK884.out (by decide)));replace BK885:=A_ (blk_grown (g:=gb885) (o:=.cells #[.int .i64 0,.slice none 0 0] 26 (0,0)) (bl_ BK885) hg (Kd.R_ne HO_887001.out BK885.out (by decide)));replace BK886:=A_ (blk_grown (g:=gb886) (o:=.cells #[.int .i64 (wrap64 (a0_0 + a1_0)),u887001] 26 (0,0)) (bl_ BK886) hg (Kd.R_ne HO_887001.out BK886.out (by decide)));replace HB:=A_ (hb);have HO890:=A_ (ho);clear HO_887001;clear ho hb hg hat;obtain ⟨Ao27,co27,eo27⟩:=Kd.R_slice HO890.out;subst eo27;have hcz28_0 : w26.cell? ⟨gb886,0,none⟩ = some (.int .i64 (wrap64 (a0_0 + a1_0))):=blk_cell BK886.out 0;have hcz28_1 : w26.cell? ⟨gb886,1,none⟩ = some (u887001):=blk_cell BK886.out 1;have hfz28_0:=blk_frozen BK886.out 0;have hfz28_1:=blk_frozen BK886.out 1))
       go_roundg k1
       case measure=>have:=HK1.out;omega
       case rel=>exact ⟨(wrap64 (x21_1 + 1)),(y888),(.slice Ao27 y888.length co27),(by first|rfl|(simp;done)|(simp [*];done)),H',⟨by have:=HK1.out;omega⟩,⟨by (with_reducible repeat (first|apply Kd.R_alloc|apply Kd.R_drewN|apply Kd.R_drew));exact Kd.R_mono (Kd.R_far (p:=⟨gb886,1,none⟩) (Kd.R_types HO890.out BK886.out (by decide)) (fun _ hk=>hk.2) (.slice Ao27 y888.length co27)) (fun _ hk=>trivial)⟩,⟨by (with_reducible repeat (first|refine blk_drewN ?_ _|refine blk_drew ?_|refine blk_alloc ?_ _));refine blk_far ?_ NB883_886.out _;(with_reducible repeat (first|refine blk_drewN ?_ _|refine blk_drew ?_|refine blk_alloc ?_ _));exact BK883.out⟩,⟨by (with_reducible repeat (first|refine blk_drewN ?_ _|refine blk_drew ?_|refine blk_alloc ?_ _));refine blk_far ?_ NB884_886.out _;(with_reducible repeat (first|refine blk_drewN ?_ _|refine blk_drew ?_|refine blk_alloc ?_ _));exact BK884.out⟩,⟨by (with_reducible repeat (first|refine blk_drewN ?_ _|refine blk_drew ?_|refine blk_alloc ?_ _));refine blk_far ?_ NB885_886.out _;(with_reducible repeat (first|refine blk_drewN ?_ _|refine blk_drew ?_|refine blk_alloc ?_ _));exact BK885.out⟩,⟨by (with_reducible repeat (first|refine blk_drewN ?_ _|refine blk_drew ?_|refine blk_alloc ?_ _));refine blk_put (cs:=#[.int .i64 (wrap64 (a0_0 + a1_0)),u887001]) ?_ 1 _ rfl;(with_reducible repeat (first|refine blk_drewN ?_ _|refine blk_drew ?_|refine blk_alloc ?_ _));exact BK886.out⟩,⟨bb_⟩⟩
      ·rw [if_neg c21] at H;exact absurd H (by simp)
     ·rw [if_neg c20] at H;exact absurd H (by simp)
    ·rw [if_neg c19] at H;exact absurd H (by simp)
   ·rw [if_neg c18] at H;have c18b0 : decide (x21_1 < (l0_1.length : Int)) = false:=decide_eq_false c18;clear c18;have H':=A_ H;clear H;have hnb29:=NB884_883.out;have hnc29:=NB883_884.out;have hnb30:=NB884_885.out;have hnc30:=NB885_884.out;have hnb31:=NB884_886.out;have hnc31:=NB886_884.out;have hcz32_0 : wr.cell? ⟨gb884,0,none⟩ = some (.int .i64 a1_0):=blk_cell BK884.out 0;have hcz32_1 : wr.cell? ⟨gb884,1,none⟩ = some (.slice A1_1 l1_1.length c1_1):=blk_cell BK884.out 1;have hfz32_0:=blk_frozen BK884.out 0;have hfz32_1:=blk_frozen BK884.out 1;go_wp2
    go_loopg [37] k1 (fun kq v37 w'=>∃ (x37_2 : Int) (x887001_2 : List Int) (u887001 : Value),v37 = .int .i64 x37_2 ∧ Aside0 (spec_orTogether.l1 kq l1_1 (l1_1.length : Int) x37_2 a0_0 l0_1 (wrap64 (a0_0 + a1_0)) x887001_2 = some (r1,r2)) ∧ Aside0 (kq ≤ k1) ∧ Aside0 (Kd.R (Kd.int .i64) 3 w' w.heap.size (fun _=>True) u887001 x887001_2) ∧ Aside0 (w'.heap[gb883]? = some (.cells #[.int .i64 a0_0,(.slice A0_1 l0_1.length c0_1)] 26 (0,0))) ∧ Aside0 (w'.heap[gb884]? = some (.cells #[.int .i64 a1_0,(.slice A1_1 l1_1.length c1_1)] 26 (0,0))) ∧ Aside0 (w'.heap[gb885]? = some (.cells #[.int .i64 0,(.slice none 0 0)] 26 (0,0))) ∧ Aside0 (w'.heap[gb886]? = some (.cells #[.int .i64 (wrap64 (a0_0 + a1_0)),u887001] 26 (0,0))) ∧ Aside0 (Below w.heap.size w w'))
    case atStart=>exact ⟨(0),(x887001_1),(u887001),(by first|rfl|(simp;done)|(simp [*];done)),H',⟨Nat.le_refl _⟩,⟨by (with_reducible repeat (first|apply Kd.R_alloc|apply Kd.R_drewN|apply Kd.R_drew));exact HO_887001.out⟩,⟨bl_ BK883⟩,⟨bl_ BK884⟩,⟨bl_ BK885⟩,⟨bl_ BK886⟩,⟨bb_⟩⟩
    case round =>
     clear H';try clear c1
     try clear c2
     try clear p2
     try clear c3
     try clear p6
     try clear c7
     try clear c8
     try clear p8
     try clear q8
     try clear hx8
     try clear c10
     try clear c11
     try clear c13
     try clear c14
     try clear c15
     try clear c18
     try clear c18b0
     try clear c19
     try clear c19b0
     try clear c20
     try clear c20b0
     try clear c21
     try clear c22
     try clear c23
     try clear c24
     try clear c29
     try clear c30
     try clear c31
     try clear hcz11_0
     try clear hcz11_1
     try clear hcz16_0
     try clear hcz16_1
     try clear hcz17_0
     try clear hcz17_1
     try clear hcz25_0
     try clear hcz25_1
     try clear hcz28_0
     try clear hcz28_1
     try clear hcz32_0
     try clear hcz32_1
     try clear hcz9_0
     try clear hcz9_1
     try clear hfz11_0
     try clear hfz11_1
     try clear hfz16_0
     try clear hfz16_1
     try clear hfz17_0
     try clear hfz17_1
     try clear hfz25_0
     try clear hfz25_1
     try clear hfz28_0
     try clear hfz28_1
     try clear hfz32_0
     try clear hfz32_1
     try clear hfz9_0
     try clear hfz9_1
     try clear hx887_0
     try clear p2
     try clear p6
     try clear p887
     try clear q887
     obtain ⟨x37_2,x887001_2,u887001,rfl,HA,HK2,HO_887001,BK883,BK884,BK885,BK886,HB⟩:=hrel;cases gk with
     | zero=>exact absurd HA.out (by simp [spec_orTogether.l1])
     | succ k2 =>
      have H:=HA.out;clear HA;simp only [spec_orTogether.l1] at H
      by_cases c33 : x37_2 < (l1_1.length : Int)
      ·rw [if_pos c33] at H;have c33b0 : decide (x37_2 < (l1_1.length : Int)) = true:=decide_eq_true c33;clear c33;by_cases c34 : 0 ≤ x37_2
       ·rw [if_pos c34] at H;have c34b0 : decide (0 ≤ x37_2) = true:=decide_eq_true c34;clear c34;by_cases c35 : x37_2 < (l1_1.length : Int)
        ·rw [if_pos c35] at H;have c35b0 : decide (x37_2 < (l1_1.length : Int)) = true:=decide_eq_true c35;clear c35;by_cases c36 : 0 ≤ a0_0
         ·rw [if_pos c36] at H;have c36b0:=eq_true c36;have c36b1 : decide (0 ≤ a0_0) = true:=decide_eq_true c36;clear c36;obtain ⟨ji37,hji37⟩ : ∃ j_ : Int,(shl .i64 (rd l1_1 x37_2) a0_0) = j_:=⟨_,rfl⟩;replace H : (if x887001_2.length < 17592186044416 then (spec_orTogether.l1 k2 l1_1 (l1_1.length : Int) (wrap64 (x37_2 + 1)) a0_0 l0_1 (wrap64 (a0_0 + a1_0)) (x887001_2 ++ [ji37])) else (none)) = some (r1,r2):=by first|(rw [hji37] at H;exact H)|(simp only [hji37] at H ⊢;exact H)
          have hji37_ : (IntKind.i64.wrap ((rd l1_1 x37_2) * 2 ^ min a0_0.toNat 64)) = ji37:=hji37;have hji37z : a0_0 ≤ 64 → (IntKind.i64.wrap ((rd l1_1 x37_2) * 2 ^ a0_0.toNat)) = ji37:=shl_small hji37;have hji37y : (wrap64 ((rd l1_1 x37_2) * 2 ^ min a0_0.toNat 64)) = ji37:=(i64_w _).symm.trans hji37_;have hji37x : a0_0 ≤ 64 → (wrap64 ((rd l1_1 x37_2) * 2 ^ a0_0.toNat)) = ji37:=fun h_=>(i64_w _).symm.trans (hji37z h_)
          by_cases c38 : x887001_2.length < 17592186044416
          ·rw [if_pos c38] at H;have LMc38:=A_ c38;clear c38;obtain ⟨y892,hy892⟩ : ∃ y_ : List Int,y_ = (x887001_2 ++ [ji37]):=⟨_,rfl⟩;replace H : (spec_orTogether.l1 k2 l1_1 (l1_1.length : Int) (wrap64 (x37_2 + 1)) a0_0 l0_1 (wrap64 (a0_0 + a1_0)) y892) = some (r1,r2):=by first|(rw [hy892];with_reducible exact H)|(have H2_:=(Option.bind_some _ _).symm.trans H;rw [hy892];with_reducible exact H2_)|(have H2_:=(Option.bind_some _ _).symm.trans H;with_reducible exact H2_)|with_reducible exact H|(rw [hy892];exact H)|exact H
           have Ny892:=A_ hy892;clear hy892;have H':=A_ H;clear H;have p891 : 0 ≤ (x37_2 : Int):=of_decide_eq_true (by first|(with_reducible assumption)|assumption);have q891 : x37_2 < (l1_1.length : Int):=of_decide_eq_true (by first|(with_reducible assumption)|assumption);obtain ⟨ad891,e891,hx891_0⟩:=Kd.at_int HR1_1.out x37_2 p891 q891;cases e891
           (try replace hx891_0:=(HB.out.cell (World.block_lt_of_cell? w _ hx891_0)).trans hx891_0);replace p891:=eq_true p891;replace q891:=eq_true q891;try go_wp2
           replace HO_887001:=A_ (Kd.R_drew HO_887001.out);replace BK883:=A_ (blk_drew BK883.out);replace BK884:=A_ (blk_drew BK884.out);replace BK885:=A_ (blk_drew BK885.out);replace BK886:=A_ (blk_drew BK886.out);replace HB:=A_ (below_drew1 HB.out);refine start_ (n:=10) (S:=fun w'=>w'.cell? ⟨gb886,0,none⟩ = some (.int .i64 (wrap64 (a0_0 + a1_0))) ∧ w'.cell? ⟨gb886,1,none⟩ = some (u887001) ∧ w'.cell? ⟨gb883,0,none⟩ = some (.int .i64 a0_0) ∧ w'.cell? ⟨gb883,1,none⟩ = some (.slice A0_1 l0_1.length c0_1)) (ds:=[9]) #[F,F,F,F,F,F,F,F,F,F] (by kernel_rfl) rfl rfl ⟨blk_cell BK886.out 0,blk_cell BK886.out 1,blk_cell BK883.out 0,blk_cell BK883.out 1⟩ (fun hHeld=>?_);refine with_tabW spec_orTogether.tab10 spec_orTogether.bits10 (fun HT_ HW_=>?_)
           generalize wr.drew = w39 at HO_887001 BK883 BK884 BK885 BK886 HB hHeld ⊢
           refine pure_ (i:=0) (N:=some 41) (v:=?_) (a':=?_) #[T,F,F,F,F,F,F,F,F,F] rfl rfl (any_of HT_.out (by kernel_rfl)) (fun _ _ _ h=>h) (Or.inl ⟨by rfl,?_⟩) ?_ ?_
           rotate_left;·intro w';go_simp;with_reducible rfl
           rotate_left;·simp only [Act.put,L_,M_,N_,i64_w,i32_w];rfl
           refine pure_ (i:=2) (N:=some 43) (v:=?_) (a':=?_) #[T,F,T,F,F,F,F,F,F,F] rfl rfl (any_of HT_.out (by kernel_rfl)) (fun _ _ _ h=>h) (Or.inl ⟨by rfl,?_⟩) ?_ ?_
           rotate_left;·intro w';go_simp;with_reducible rfl
           rotate_left;·simp only [Act.put,L_,M_,N_,i64_w,i32_w];rfl
           refine pure_ (i:=3) (N:=some 44) (v:=?_) (a':=?_) #[T,F,T,T,F,F,F,F,F,F] rfl rfl (any_of HT_.out (by kernel_rfl)) (fun _ _ _ h=>h) (Or.inl ⟨by rfl,?_⟩) ?_ ?_
           rotate_left;·intro w';go_simp;with_reducible rfl
           rotate_left;·simp only [Act.put,L_,M_,N_,i64_w,i32_w];rfl
           refine take_ (i:=1) (N:=some 42) (v:=?_) (a':=?_) #[T,T,T,T,F,F,F,F,F,F] rfl rfl (take_ofW HT_.out HW_.out (by kernel_rfl)) (fun _ _ _ h=>h) (Or.inl ⟨by rfl,?_⟩) hHeld ?_ ?_
           rotate_left
           ·rintro w' ⟨s0,s1,s2,s3⟩
            go_simp
            with_reducible rfl
           rotate_left;·simp only [Act.put,L_,M_,N_,i64_w,i32_w];rfl
           refine take_ (i:=4) (N:=some 45) (v:=?_) (a':=?_) #[T,T,T,T,T,F,F,F,F,F] rfl rfl (take_ofW HT_.out HW_.out (by kernel_rfl)) (fun _ _ _ h=>h) (Or.inl ⟨by rfl,?_⟩) hHeld ?_ ?_
           rotate_left
           ·rintro w' ⟨s0,s1,s2,s3⟩
            go_simp
            with_reducible rfl
           rotate_left;·simp only [Act.put,L_,M_,N_,i64_w,i32_w];rfl
           refine pure_ (i:=5) (N:=some 46) (v:=?_) (a':=?_) #[T,T,T,T,T,T,F,F,F,F] rfl rfl (any_of HT_.out (by kernel_rfl)) (fun _ _ _ h=>h) (Or.inl ⟨by rfl,?_⟩) ?_ ?_
           rotate_left;·intro w';go_simp;with_reducible rfl
           rotate_left;·simp only [Act.put,L_,M_,N_,i64_w,i32_w];rfl
           refine one_ (i:=6) (N:=some 47) #[T,T,T,T,T,T,T,F,F,F] rfl rfl (one_of HT_.out (by kernel_rfl)) (by decide) (fun K hK=>?_)
           refine value_ (w1:=?_) (v:=?_) (by rfl) rfl ?_ ?_
           rotate_left 2
           ·go_simp
            constructor
            ·rfl
            ·rfl
           refine hK.out _ _ ⟨(blk_cell (blk_alloc BK886.out _) 0).trans rfl,(blk_cell (blk_alloc BK886.out _) 1).trans rfl,(blk_cell (blk_alloc BK883.out _) 0).trans rfl,(blk_cell (blk_alloc BK883.out _) 1).trans rfl⟩ (fun hHeld=>?_)
           clear hK K;refine norm_ (a':=?_) ?_ ?_
           rotate_left
           ·show Act.put _ (some 47) _ = _
            simp only [Act.put,L_,M_,N_,i64_w,i32_w]
            rfl
           refine one_ (i:=7) (N:=some 48) #[T,T,T,T,T,T,T,T,F,F] rfl rfl (one_of HT_.out (by kernel_rfl)) (by decide) (fun K hK=>?_)
           refine Kd.R_append_step (Kd.int .i64) (w0:=w) w.heap.size (by rfl) (.tmp 42) (.tmp 47) 22 3 (.int .i64 0) 8 rfl Tryd.underlying22 info3 rfl (by decide) (by omega) u887001 x887001_2 ji37 [.int .i64 ji37] (fun _=>True) (fun _=>False) rfl rfl ?aP (fun _ hk=>hk.elim) ?aF ?aO ?aB ?aS ?aL ?_
           (case aP=>exact rfl)
           (case aB=>exact bb_)
           (case aF=>exact (fun _ _=>trivial))
           (case aO=>exact (rl_ HO_887001))
           (case aS=>exact (below_size bb_))
           (case aL=>have:=LMc38.out;omega)
           intro v893 w40 ho hb hg hat
           rw [← Ny892.out] at ho;replace BK883:=A_ (blk_grown (g:=gb883) (o:=.cells #[.int .i64 a0_0,.slice A0_1 l0_1.length c0_1] 26 (0,0)) (bl_ BK883) hg (Kd.R_ne HO_887001.out BK883.out (by decide)));replace BK884:=A_ (blk_grown (g:=gb884) (o:=.cells #[.int .i64 a1_0,.slice (some ad891) l1_1.length c1_1] 26 (0,0)) (bl_ BK884) hg (Kd.R_ne HO_887001.out BK884.out (by decide)));replace BK885:=A_ (blk_grown (g:=gb885) (o:=.cells #[.int .i64 0,.slice none 0 0] 26 (0,0)) (bl_ BK885) hg (Kd.R_ne HO_887001.out BK885.out (by decide)));replace BK886:=A_ (blk_grown (g:=gb886) (o:=.cells #[.int .i64 (wrap64 (a0_0 + a1_0)),u887001] 26 (0,0)) (bl_ BK886) hg (Kd.R_ne HO_887001.out BK886.out (by decide)));replace HB:=A_ (hb);have HO894:=A_ (ho);clear HO_887001;clear ho hb hg hat;obtain ⟨Ao41,co41,eo41⟩:=Kd.R_slice HO894.out;(first|subst eo41|(injection eo41 with f1_ f2_ f3_;have f4_:=f1_.symm;have f5_:=f3_.symm;clear f1_ f2_ f3_;subst f4_;subst f5_))
           refine hK.out _ _ ⟨blk_cell BK886.out 0,blk_cell BK886.out 1,blk_cell BK883.out 0,blk_cell BK883.out 1⟩ (fun hHeld=>?_)
           clear hK K;refine norm_ (a':=?_) ?_ ?_
           rotate_left
           ·show Act.put _ (some 48) _ = _
            simp only [Act.put,L_,M_,N_,i64_w,i32_w]
            rfl
           refine pure_ (i:=8) (N:=some 49) (v:=?_) (a':=?_) #[T,T,T,T,T,T,T,T,T,F] rfl rfl (any_of HT_.out (by kernel_rfl)) (fun _ _ _ h=>h) (Or.inl ⟨by rfl,?_⟩) ?_ ?_
           rotate_left;·intro w';go_simp;with_reducible rfl
           rotate_left;·simp only [Act.put,L_,M_,N_,i64_w,i32_w];rfl
           refine last_ (i:=9) (N:=none) #[T,T,T,T,T,T,T,T,T,T] rfl rfl (one_of HT_.out (by kernel_rfl)) (by decide) (fun K hK=>?_)
           have hs42 : w40.cell? ⟨gb886,1,none⟩ = some (u887001):=blk_cell BK886.out 1;have hfs42:=blk_frozen BK886.out 1;have hns42_0:=NB883_886.out;have hns42_1:=NB884_886.out;have hns42_2:=NB885_886.out;have hms42_0:=NB886_883.out;have hms42_1:=NB886_884.out;have hms42_2:=NB886_885.out;refine skip_ (w1:=?_) (by rfl) rfl ?_ ?_
           rotate_left
           ·go_simp
            rfl
           refine hK.out _ _ ?_
           clear hK K;refine done_ (done_of HT_.out (by kernel_rfl)) ?_
           try go_wp2
           go_roundg k2
           case measure=>have:=HK1.out;have:=HK2.out;omega
           case rel=>exact ⟨(wrap64 (x37_2 + 1)),(y892),(.slice Ao41 y892.length co41),(by first|rfl|(simp;done)|(simp [*];done)),H',⟨by have:=HK1.out;have:=HK2.out;omega⟩,⟨by (with_reducible repeat (first|apply Kd.R_alloc|apply Kd.R_drewN|apply Kd.R_drew));exact Kd.R_mono (Kd.R_far (p:=⟨gb886,1,none⟩) (Kd.R_types HO894.out BK886.out (by decide)) (fun _ hk=>hk.2) (.slice Ao41 y892.length co41)) (fun _ hk=>trivial)⟩,⟨by (with_reducible repeat (first|refine blk_drewN ?_ _|refine blk_drew ?_|refine blk_alloc ?_ _));refine blk_far ?_ NB883_886.out _;(with_reducible repeat (first|refine blk_drewN ?_ _|refine blk_drew ?_|refine blk_alloc ?_ _));exact BK883.out⟩,⟨by (with_reducible repeat (first|refine blk_drewN ?_ _|refine blk_drew ?_|refine blk_alloc ?_ _));refine blk_far ?_ NB884_886.out _;(with_reducible repeat (first|refine blk_drewN ?_ _|refine blk_drew ?_|refine blk_alloc ?_ _));exact BK884.out⟩,⟨by (with_reducible repeat (first|refine blk_drewN ?_ _|refine blk_drew ?_|refine blk_alloc ?_ _));refine blk_far ?_ NB885_886.out _;(with_reducible repeat (first|refine blk_drewN ?_ _|refine blk_drew ?_|refine blk_alloc ?_ _));exact BK885.out⟩,⟨by (with_reducible repeat (first|refine blk_drewN ?_ _|refine blk_drew ?_|refine blk_alloc ?_ _));refine blk_put (cs:=#[.int .i64 (wrap64 (a0_0 + a1_0)),u887001]) ?_ 1 _ rfl;(with_reducible repeat (first|refine blk_drewN ?_ _|refine blk_drew ?_|refine blk_alloc ?_ _));exact BK886.out⟩,⟨bb_⟩⟩
          ·rw [if_neg c38] at H;exact absurd H (by simp)
         ·rw [if_neg c36] at H;exact absurd H (by simp)
        ·rw [if_neg c35] at H;exact absurd H (by simp)
       ·rw [if_neg c34] at H;exact absurd H (by simp)
      ·rw [if_neg c33] at H;have c33b0 : decide (x37_2 < (l1_1.length : Int)) = false:=decide_eq_false c33;clear c33;simp only [Option.some.injEq,Prod.mk.injEq] at H
       obtain ⟨rfl,rfl⟩:=H;have hnb43:=NB886_883.out;have hnc43:=NB883_886.out;have hnb44:=NB886_884.out;have hnc44:=NB884_886.out;have hnb45:=NB886_885.out;have hnc45:=NB885_886.out;have hcz46_0 : wr.cell? ⟨gb886,0,none⟩ = some (.int .i64 (wrap64 (a0_0 + a1_0))):=blk_cell BK886.out 0;have hcz46_1 : wr.cell? ⟨gb886,1,none⟩ = some (u887001):=blk_cell BK886.out 1;have hfz46_0:=blk_frozen BK886.out 0;have hfz46_1:=blk_frozen BK886.out 1;have hnb47:=NB885_883.out;have hnc47:=NB883_885.out;have hnb48:=NB885_884.out;have hnc48:=NB884_885.out;have hcz49_0 : wr.cell? ⟨gb885,0,none⟩ = some (.int .i64 0):=blk_cell BK885.out 0;have hcz49_1 : wr.cell? ⟨gb885,1,none⟩ = some (.slice none 0 0):=blk_cell BK885.out 1;have hfz49_0:=blk_frozen BK885.out 0;have hfz49_1:=blk_frozen BK885.out 1;obtain ⟨Ao50,co50,eo50⟩:=Kd.R_slice HO_887001.out;subst eo50;go_wp2
       refine bodyPost_ret (results_cell_row rfl _ _ gb885 26 #[.int .i64 (wrap64 (a0_0 + a1_0)),.slice Ao50 x887001_2.length co50] (0,0) _ rfl (by (with_reducible repeat (first|refine blk_drewN ?_ _|refine blk_drew ?_|refine blk_alloc ?_ _));refine blk_put (cs:=#[.int .i64 (wrap64 (a0_0 + a1_0)),.slice none 0 0]) ?_ 1 _ rfl;(with_reducible repeat (first|refine blk_drewN ?_ _|refine blk_drew ?_|refine blk_alloc ?_ _));refine blk_put (cs:=#[.int .i64 0,.slice none 0 0]) ?_ 0 _ rfl;(with_reducible repeat (first|refine blk_drewN ?_ _|refine blk_drew ?_|refine blk_alloc ?_ _));exact BK885.out) Tryd.underlying26 rfl (by kernel_rfl)) rfl ?_
       exact ⟨_,by first|rfl|(simp [errW_none,errW_some] <;> rfl)|(simp [*,errW_none,errW_some] <;> rfl),by (with_reducible repeat (first|apply Kd.R_alloc|apply Kd.R_drewN|apply Kd.R_drew));exact Kd.R_mono (Kd.R_far (p:=⟨gb885,1,none⟩) (Kd.R_far (p:=⟨gb885,0,none⟩) (Kd.R_types HO_887001.out BK885.out (by decide)) (fun _ hk=>hk.2) (.int .i64 (wrap64 (a0_0 + a1_0)))) (fun _ hk=>hk.2) (.slice Ao50 x887001_2.length co50)) (fun _ hk=>trivial),bb_⟩
def spec_BesideOrders.f (k : Nat) (a0_0 : Int) (l0_1 : List Int) (a1_0 : Int) (l1_1 : List Int) : Option (Int × List Int × Bool) := (spec_orGood.f k a0_0 l0_1).bind fun t898 => (if t898 = true then ((spec_orGood.f k a1_0 l1_1).bind fun t899 => (if t899 = true then (if (wrap64 (a0_0 + a1_0)) > 10 then (some (0, ([] : List Int), false)) else ((spec_orTogether.f k a0_0 l0_1 a1_0 l1_1 0).bind fun bt900 => (some (bt900.1, bt900.2, true)))) else (some (0, ([] : List Int), false)))) else (some (0, ([] : List Int), false)))
set_option maxHeartbeats 8000000 in
set_option maxRecDepth 100000 in
theorem spec_BesideOrders.calls (k : Nat) (a0_0 : Int) (A0_1 : Option Addr) (c0_1 : Nat) (l0_1 : List Int) (a1_0 : Int) (A1_1 : Option Addr) (c1_1 : Nat) (l1_1 : List Int) (r1 : Int) (r2 : List Int) (r3 : Bool) (w : World) (hr0_1 : Kd.C (Kd.int .i64) w A0_1 l0_1.length l0_1) (hc0_1 : l0_1.length ≤ c0_1) (hr1_1 : Kd.C (Kd.int .i64) w A1_1 l1_1.length l1_1) (hc1_1 : l1_1.length ≤ c1_1) (h : spec_BesideOrders.f k a0_0 l0_1 a1_0 l1_1 = some (r1,r2,r3)) :
 Calls Tryd.prog 44 #[.agg #[.int .i64 a0_0,.slice A0_1 l0_1.length c0_1],.agg #[.int .i64 a1_0,.slice A1_1 l1_1.length c1_1]] w fun e w'=>∃ v1_ : Value,e = .returned (.tuple #[.agg #[.int .i64 r1,v1_],.bool r3]) ∧ Kd.R (Kd.int .i64) 3 w' w.heap.size (fun _=>True) v1_ r2 ∧ Below w.heap.size w w':=by
 have hu26:=Tryd.underlying26;have HR0_1:=A_ hr0_1;have HC0_1:=A_ hc0_1;clear hr0_1 hc0_1;have HR1_1:=A_ hr1_1;have HC1_1:=A_ hc1_1;clear hr1_1 hc1_1;have HB:=A_ (Below.refl w.heap.size w);have H : ((spec_orGood.f k a0_0 l0_1).bind fun t898=>(if t898 = true then ((spec_orGood.f k a1_0 l1_1).bind fun t899=>(if t899 = true then (if (wrap64 (a0_0 + a1_0)) > 10 then (some (0,([] : List Int),false)) else ((spec_orTogether.f k a0_0 l0_1 a1_0 l1_1 0).bind fun bt900=>(some (bt900.1,bt900.2,true)))) else (some (0,([] : List Int),false)))) else (some (0,([] : List Int),false)))) = some (r1,r2,r3):=h;clear h;replace H:=Option.bind_eq_some_iff.mp H;obtain ⟨t898,A30,H⟩:=H;replace H : (if t898 = true then ((spec_orGood.f k a1_0 l1_1).bind fun t899=>(if t899 = true then (if (wrap64 (a0_0 + a1_0)) > 10 then (some (0,([] : List Int),false)) else ((spec_orTogether.f k a0_0 l0_1 a1_0 l1_1 0).bind fun bt900=>(some (bt900.1,bt900.2,true)))) else (some (0,([] : List Int),false)))) else (some (0,([] : List Int),false))) = some (r1,r2,r3):=H;have A3:=A_ A30;clear A30;by_cases c4 : t898 = true
 ·subst c4;have H1 : ((spec_orGood.f k a1_0 l1_1).bind fun t899=>(if t899 = true then (if (wrap64 (a0_0 + a1_0)) > 10 then (some (0,([] : List Int),false)) else ((spec_orTogether.f k a0_0 l0_1 a1_0 l1_1 0).bind fun bt900=>(some (bt900.1,bt900.2,true)))) else (some (0,([] : List Int),false)))) = some (r1,r2,r3):=by rw [if_pos rfl] at H;exact H
  clear H;have H:=H1;clear H1;replace H:=Option.bind_eq_some_iff.mp H;obtain ⟨t899,A50,H⟩:=H;replace H : (if t899 = true then (if (wrap64 (a0_0 + a1_0)) > 10 then (some (0,([] : List Int),false)) else ((spec_orTogether.f k a0_0 l0_1 a1_0 l1_1 0).bind fun bt900=>(some (bt900.1,bt900.2,true)))) else (some (0,([] : List Int),false))) = some (r1,r2,r3):=H;have A5:=A_ A50;clear A50;by_cases c6 : t899 = true
  ·subst c6;have H1 : (if (wrap64 (a0_0 + a1_0)) > 10 then (some (0,([] : List Int),false)) else ((spec_orTogether.f k a0_0 l0_1 a1_0 l1_1 0).bind fun bt900=>(some (bt900.1,bt900.2,true)))) = some (r1,r2,r3):=by rw [if_pos rfl] at H;exact H
   clear H;have H:=H1;clear H1;by_cases c7 : (wrap64 (a0_0 + a1_0)) > 10
   ·rw [if_pos c7] at H;have c7b0 : decide (10 < (wrap64 (a0_0 + a1_0))) = true:=decide_eq_true c7;clear c7;simp only [Option.some.injEq,Prod.mk.injEq] at H
    obtain ⟨rfl,rfl,rfl⟩:=H;go_enter Tryd.func44,Tryd.ntmps44
    go_wp2_with (first|((with_reducible refine gate_dst (N:=2) rfl ?_);refine box_event ?hg (N:=2) ?hd (cs:=#[.int .i64 a0_0,.slice A0_1 l0_1.length c0_1]) (t:=26) ?hr ?_;(case hd=>rfl);(case hg=>rfl);(case hr=>first|(go_simp;done)|(go_simp;rfl));intro gb895 hg w8 hbox hb;have BK895:=A_ (hbox);have GW895:=A_ ((by rw [hg];exact (below_size bb_) : w.heap.size ≤ gb895));have GE895:=A_ ((by rw [hg];exact (below_size bb_) : w.heap.size ≤ gb895));replace HB:=A_ (below_step bb_ hb);clear hb hbox hg)|((with_reducible refine gate_dst (N:=3) rfl ?_);refine box_event ?hg (N:=3) ?hd (cs:=#[.int .i64 a1_0,.slice A1_1 l1_1.length c1_1]) (t:=26) ?hr ?_;(case hd=>rfl);(case hg=>rfl);(case hr=>first|(go_simp;done)|(go_simp;rfl));intro gb896 hg w9 hbox hb;have BK896:=A_ (hbox);have GW896:=A_ ((by rw [hg];exact (below_size bb_) : w.heap.size ≤ gb896));have GE896:=A_ ((by rw [hg];exact (below_size bb_) : w.heap.size ≤ gb896));replace HB:=A_ (below_step bb_ hb);have NB895_896:=A_ ((by rw [hg];exact Nat.ne_of_lt (blk_lt (bl_ BK895)) : gb895 ≠ gb896));have NB896_895:=A_ ((by rw [hg];exact Nat.ne_of_gt (blk_lt (bl_ BK895)) : gb896 ≠ gb895));replace BK895:=bz BK895 hb;clear hb hbox hg)|((with_reducible refine gate_dst (N:=4) rfl ?_);refine box_event ?hg (N:=4) ?hd (cs:=#[.int .i64 0,.slice none 0 0]) (t:=26) ?hr ?_;(case hd=>rfl);(case hg=>rfl);(case hr=>first|(go_simp;done)|(go_simp;rfl));intro gb897 hg w10 hbox hb;have BK897:=A_ (hbox);have GW897:=A_ ((by rw [hg];exact (below_size bb_) : w.heap.size ≤ gb897));have GE897:=A_ ((by rw [hg];exact (below_size bb_) : w.heap.size ≤ gb897));replace HB:=A_ (below_step bb_ hb);have NB895_897:=A_ ((by rw [hg];exact Nat.ne_of_lt (blk_lt (bl_ BK895)) : gb895 ≠ gb897));have NB897_895:=A_ ((by rw [hg];exact Nat.ne_of_gt (blk_lt (bl_ BK895)) : gb897 ≠ gb895));replace BK895:=bz BK895 hb;have NB896_897:=A_ ((by rw [hg];exact Nat.ne_of_lt (blk_lt (bl_ BK896)) : gb896 ≠ gb897));have NB897_896:=A_ ((by rw [hg];exact Nat.ne_of_gt (blk_lt (bl_ BK896)) : gb897 ≠ gb896));replace BK896:=bz BK896 hb;clear hb hbox hg;have hnb11:=NB895_896.out;have hnc11:=NB896_895.out;have hnb12:=NB895_897.out;have hnc12:=NB897_895.out;have hcz13_0 : w10.cell? ⟨gb895,0,none⟩ = some (.int .i64 a0_0):=blk_cell BK895.out 0;have hcz13_1 : w10.cell? ⟨gb895,1,none⟩ = some (.slice A0_1 l0_1.length c0_1):=blk_cell BK895.out 1;have hfz13_0:=blk_frozen BK895.out 0;have hfz13_1:=blk_frozen BK895.out 1)|((with_reducible refine gate_callee (f:=83) rfl ?_);refine goesL_ (some 7) rfl rfl Tryd.func83 (by kernel_rfl) rfl #[.agg #[.int .i64 a0_0,.slice A0_1 l0_1.length c0_1]] rfl au_ ?_;(with_reducible refine (spec_orGood.calls k a0_0 _ _ l0_1 true _ ?side1 ?side2 A3.out).mono ?_);(case side1=>exact cl_ (Kd.C_below HR0_1.out HB.out));(case side2=>exact HC0_1.out);rintro e w14 ⟨rfl,hb⟩;refine ⟨_,rfl,?_⟩;replace BK895:=bz BK895 hb;replace BK896:=bz BK896 hb;replace BK897:=bz BK897 hb;replace HB:=A_ (below_step bb_ hb);(try clear hb);(try clear hb2);(try clear hk);(try clear hi);have hnb15:=NB896_897.out;have hnc15:=NB897_896.out;have hcz16_0 : w14.cell? ⟨gb896,0,none⟩ = some (.int .i64 a1_0):=blk_cell BK896.out 0;have hcz16_1 : w14.cell? ⟨gb896,1,none⟩ = some (.slice A1_1 l1_1.length c1_1):=blk_cell BK896.out 1;have hfz16_0:=blk_frozen BK896.out 0;have hfz16_1:=blk_frozen BK896.out 1)|(go_at_call 83;(with_reducible refine (spec_orGood.calls k a1_0 _ _ l1_1 true _ ?side1 ?side2 A5.out).mono ?_);(case side1=>exact cl_ (Kd.C_below HR1_1.out HB.out));(case side2=>exact HC1_1.out);rintro e w17 ⟨rfl,hb⟩;replace BK895:=bz BK895 hb;replace BK896:=bz BK896 hb;replace BK897:=bz BK897 hb;replace HB:=A_ (below_step bb_ hb);(try clear hb);(try clear hb2);(try clear hk);(try clear hi);have hcz18_0 : w17.cell? ⟨gb895,0,none⟩ = some (.int .i64 a0_0):=blk_cell BK895.out 0;have hcz18_1 : w17.cell? ⟨gb895,1,none⟩ = some (.slice A0_1 l0_1.length c0_1):=blk_cell BK895.out 1;have hfz18_0:=blk_frozen BK895.out 0;have hfz18_1:=blk_frozen BK895.out 1;have hcz19_0 : w17.cell? ⟨gb896,0,none⟩ = some (.int .i64 a1_0):=blk_cell BK896.out 0;have hcz19_1 : w17.cell? ⟨gb896,1,none⟩ = some (.slice A1_1 l1_1.length c1_1):=blk_cell BK896.out 1;have hfz19_0:=blk_frozen BK896.out 0;have hfz19_1:=blk_frozen BK896.out 1;have hcz20_0 : w17.cell? ⟨gb897,0,none⟩ = some (.int .i64 0):=blk_cell BK897.out 0;have hcz20_1 : w17.cell? ⟨gb897,1,none⟩ = some (.slice none 0 0):=blk_cell BK897.out 1;have hfz20_0:=blk_frozen BK897.out 0;have hfz20_1:=blk_frozen BK897.out 1))
    refine bodyPost_ret (results_ct rfl _ _ gb897 26 #[.int .i64 0,.slice none 0 0] (0,0) _ rfl (by (with_reducible repeat (first|refine blk_drewN ?_ _|refine blk_drew ?_|refine blk_alloc ?_ _));refine blk_put (cs:=#[.int .i64 0,.slice none 0 0]) ?_ 1 _ rfl;(with_reducible repeat (first|refine blk_drewN ?_ _|refine blk_drew ?_|refine blk_alloc ?_ _));refine blk_put (cs:=#[.int .i64 0,.slice none 0 0]) ?_ 0 _ rfl;(with_reducible repeat (first|refine blk_drewN ?_ _|refine blk_drew ?_|refine blk_alloc ?_ _));exact BK897.out) Tryd.underlying26 rfl (by kernel_rfl)) rfl ?_
    exact ⟨_,by first|rfl|(simp [errW_none,errW_some] <;> rfl)|(simp [*,errW_none,errW_some] <;> rfl),by first|exact Kd.R_nil _ _ _ _ _|exact Kd.N_nil _ _ _ _ _|exact Kd.V_nil _ _ _ _ _|exact Kd.Q_nil _ _ _ _ _|exact Kd.S_nil _ _ _ _ _,bb_⟩
   ·rw [if_neg c7] at H;have c7b0 : decide (10 < (wrap64 (a0_0 + a1_0))) = false:=decide_eq_false c7;clear c7;replace H:=Option.bind_eq_some_iff.mp H;obtain ⟨⟨t900,t901⟩,A210,H⟩:=H;replace H : (some (t900,t901,true)) = some (r1,r2,r3):=H;have A21:=A_ A210;clear A210;simp only [Option.some.injEq,Prod.mk.injEq] at H
    obtain ⟨rfl,rfl,rfl⟩:=H;go_enter Tryd.func44,Tryd.ntmps44
    go_wp2_with (first|((with_reducible refine gate_dst (N:=2) rfl ?_);refine box_event ?hg (N:=2) ?hd (cs:=#[.int .i64 a0_0,.slice A0_1 l0_1.length c0_1]) (t:=26) ?hr ?_;(case hd=>rfl);(case hg=>rfl);(case hr=>first|(go_simp;done)|(go_simp;rfl));intro gb895 hg w22 hbox hb;have BK895:=A_ (hbox);have GW895:=A_ ((by rw [hg];exact (below_size bb_) : w.heap.size ≤ gb895));have GE895:=A_ ((by rw [hg];exact (below_size bb_) : w.heap.size ≤ gb895));replace HB:=A_ (below_step bb_ hb);clear hb hbox hg)|((with_reducible refine gate_dst (N:=3) rfl ?_);refine box_event ?hg (N:=3) ?hd (cs:=#[.int .i64 a1_0,.slice A1_1 l1_1.length c1_1]) (t:=26) ?hr ?_;(case hd=>rfl);(case hg=>rfl);(case hr=>first|(go_simp;done)|(go_simp;rfl));intro gb896 hg w23 hbox hb;have BK896:=A_ (hbox);have GW896:=A_ ((by rw [hg];exact (below_size bb_) : w.heap.size ≤ gb896));have GE896:=A_ ((by rw [hg];exact (below_size bb_) : w.heap.size ≤ gb896));replace HB:=A_ (below_step bb_ hb);have NB895_896:=A_ ((by rw [hg];exact Nat.ne_of_lt (blk_lt (bl_ BK895)) : gb895 ≠ gb896));have NB896_895:=A_ ((by rw [hg];exact Nat.ne_of_gt (blk_lt (bl_ BK895)) : gb896 ≠ gb895));replace BK895:=bz BK895 hb;clear hb hbox hg)|((with_reducible refine gate_dst (N:=4) rfl ?_);refine box_event ?hg (N:=4) ?hd (cs:=#[.int .i64 0,.slice none 0 0]) (t:=26) ?hr ?_;(case hd=>rfl);(case hg=>rfl);(case hr=>first|(go_simp;done)|(go_simp;rfl));intro gb897 hg w24 hbox hb;have BK897:=A_ (hbox);have GW897:=A_ ((by rw [hg];exact (below_size bb_) : w.heap.size ≤ gb897));have GE897:=A_ ((by rw [hg];exact (below_size bb_) : w.heap.size ≤ gb897));replace HB:=A_ (below_step bb_ hb);have NB895_897:=A_ ((by rw [hg];exact Nat.ne_of_lt (blk_lt (bl_ BK895)) : gb895 ≠ gb897));have NB897_895:=A_ ((by rw [hg];exact Nat.ne_of_gt (blk_lt (bl_ BK895)) : gb897 ≠ gb895));replace BK895:=bz BK895 hb;have NB896_897:=A_ ((by rw [hg];exact Nat.ne_of_lt (blk_lt (bl_ BK896)) : gb896 ≠ gb897));have NB897_896:=A_ ((by rw [hg];exact Nat.ne_of_gt (blk_lt (bl_ BK896)) : gb897 ≠ gb896));replace BK896:=bz BK896 hb;clear hb hbox hg;have hnb25:=NB895_896.out;have hnc25:=NB896_895.out;have hnb26:=NB895_897.out;have hnc26:=NB897_895.out;have hcz27_0 : w24.cell? ⟨gb895,0,none⟩ = some (.int .i64 a0_0):=blk_cell BK895.out 0;have hcz27_1 : w24.cell? ⟨gb895,1,none⟩ = some (.slice A0_1 l0_1.length c0_1):=blk_cell BK895.out 1;have hfz27_0:=blk_frozen BK895.out 0;have hfz27_1:=blk_frozen BK895.out 1)|((with_reducible refine gate_callee (f:=83) rfl ?_);refine goesL_ (some 7) rfl rfl Tryd.func83 (by kernel_rfl) rfl #[.agg #[.int .i64 a0_0,.slice A0_1 l0_1.length c0_1]] rfl au_ ?_;(with_reducible refine (spec_orGood.calls k a0_0 _ _ l0_1 true _ ?side1 ?side2 A3.out).mono ?_);(case side1=>exact cl_ (Kd.C_below HR0_1.out HB.out));(case side2=>exact HC0_1.out);rintro e w28 ⟨rfl,hb⟩;refine ⟨_,rfl,?_⟩;replace BK895:=bz BK895 hb;replace BK896:=bz BK896 hb;replace BK897:=bz BK897 hb;replace HB:=A_ (below_step bb_ hb);(try clear hb);(try clear hb2);(try clear hk);(try clear hi);have hnb29:=NB896_897.out;have hnc29:=NB897_896.out;have hcz30_0 : w28.cell? ⟨gb896,0,none⟩ = some (.int .i64 a1_0):=blk_cell BK896.out 0;have hcz30_1 : w28.cell? ⟨gb896,1,none⟩ = some (.slice A1_1 l1_1.length c1_1):=blk_cell BK896.out 1;have hfz30_0:=blk_frozen BK896.out 0;have hfz30_1:=blk_frozen BK896.out 1)|(go_at_call 83;(with_reducible refine (spec_orGood.calls k a1_0 _ _ l1_1 true _ ?side1 ?side2 A5.out).mono ?_);(case side1=>exact cl_ (Kd.C_below HR1_1.out HB.out));(case side2=>exact HC1_1.out);rintro e w31 ⟨rfl,hb⟩;replace BK895:=bz BK895 hb;replace BK896:=bz BK896 hb;replace BK897:=bz BK897 hb;replace HB:=A_ (below_step bb_ hb);(try clear hb);(try clear hb2);(try clear hk);(try clear hi);have hcz32_0 : w31.cell? ⟨gb895,0,none⟩ = some (.int .i64 a0_0):=blk_cell BK895.out 0;have hcz32_1 : w31.cell? ⟨gb895,1,none⟩ = some (.slice A0_1 l0_1.length c0_1):=blk_cell BK895.out 1;have hfz32_0:=blk_frozen BK895.out 0;have hfz32_1:=blk_frozen BK895.out 1;have hcz33_0 : w31.cell? ⟨gb896,0,none⟩ = some (.int .i64 a1_0):=blk_cell BK896.out 0;have hcz33_1 : w31.cell? ⟨gb896,1,none⟩ = some (.slice A1_1 l1_1.length c1_1):=blk_cell BK896.out 1;have hfz33_0:=blk_frozen BK896.out 0;have hfz33_1:=blk_frozen BK896.out 1)|((with_reducible refine gate_callee (f:=117) rfl ?_);refine goesL_ (some 25) rfl rfl Tryd.func117 (by kernel_rfl) rfl #[.agg #[.int .i64 a0_0,.slice A0_1 l0_1.length c0_1],.agg #[.int .i64 a1_0,.slice A1_1 l1_1.length c1_1],.int .i64 0] rfl au_ ?_;(with_reducible refine (spec_orTogether.calls k a0_0 _ _ l0_1 a1_0 _ _ l1_1 0 t900 t901 _ ?side1 ?side2 ?side3 ?side4 A21.out).mono ?_);(case side1=>exact cl_ (Kd.C_below HR0_1.out HB.out));(case side2=>exact HC0_1.out);(case side3=>exact cl_ (Kd.C_below HR1_1.out HB.out));(case side4=>exact HC1_1.out);rintro e w34 ⟨v902,rfl,ho0,hb⟩;refine ⟨_,rfl,?_⟩;have HO903:=A_ (Kd.R_lower ho0 (below_size bb_));replace BK895:=bz BK895 hb;replace BK896:=bz BK896 hb;replace BK897:=bz BK897 hb;replace HB:=A_ (below_step bb_ hb);(try clear hb);(try clear hb2);(try clear hk);(try clear hi);(try clear ho0);have hcz35_0 : w34.cell? ⟨gb897,0,none⟩ = some (.int .i64 0):=blk_cell BK897.out 0;have hcz35_1 : w34.cell? ⟨gb897,1,none⟩ = some (.slice none 0 0):=blk_cell BK897.out 1;have hfz35_0:=blk_frozen BK897.out 0;have hfz35_1:=blk_frozen BK897.out 1;obtain ⟨Ao36,co36,eo36⟩:=Kd.R_slice HO903.out;subst eo36))
    refine bodyPost_ret (results_ct rfl _ _ gb897 26 #[.int .i64 t900,.slice Ao36 t901.length co36] (0,0) _ rfl (by (with_reducible repeat (first|refine blk_drewN ?_ _|refine blk_drew ?_|refine blk_alloc ?_ _));refine blk_put (cs:=#[.int .i64 t900,.slice none 0 0]) ?_ 1 _ rfl;(with_reducible repeat (first|refine blk_drewN ?_ _|refine blk_drew ?_|refine blk_alloc ?_ _));refine blk_put (cs:=#[.int .i64 0,.slice none 0 0]) ?_ 0 _ rfl;(with_reducible repeat (first|refine blk_drewN ?_ _|refine blk_drew ?_|refine blk_alloc ?_ _));exact BK897.out) Tryd.underlying26 rfl (by kernel_rfl)) rfl ?_
    exact ⟨_,by first|rfl|(simp [errW_none,errW_some] <;> rfl)|(simp [*,errW_none,errW_some] <;> rfl),by (with_reducible repeat (first|apply Kd.R_alloc|apply Kd.R_drewN|apply Kd.R_drew));exact Kd.R_mono (Kd.R_far (p:=⟨gb897,1,none⟩) (Kd.R_far (p:=⟨gb897,0,none⟩) (Kd.R_types HO903.out BK897.out (by decide)) (fun _ hk=>hk.2) (.int .i64 t900)) (fun _ hk=>hk.2) (.slice Ao36 t901.length co36)) (fun _ hk=>trivial),bb_⟩
  ·replace c6:=Bool.eq_false_iff.mpr c6;subst c6;have H1 : (some (0,([] : List Int),false)) = some (r1,r2,r3):=by rw [if_neg (show ¬ (false = true) by decide)] at H;exact H
   clear H;have H:=H1;clear H1;simp only [Option.some.injEq,Prod.mk.injEq] at H
   obtain ⟨rfl,rfl,rfl⟩:=H;go_enter Tryd.func44,Tryd.ntmps44
   go_wp2_with (first|((with_reducible refine gate_dst (N:=2) rfl ?_);refine box_event ?hg (N:=2) ?hd (cs:=#[.int .i64 a0_0,.slice A0_1 l0_1.length c0_1]) (t:=26) ?hr ?_;(case hd=>rfl);(case hg=>rfl);(case hr=>first|(go_simp;done)|(go_simp;rfl));intro gb895 hg w37 hbox hb;have BK895:=A_ (hbox);have GW895:=A_ ((by rw [hg];exact (below_size bb_) : w.heap.size ≤ gb895));have GE895:=A_ ((by rw [hg];exact (below_size bb_) : w.heap.size ≤ gb895));replace HB:=A_ (below_step bb_ hb);clear hb hbox hg)|((with_reducible refine gate_dst (N:=3) rfl ?_);refine box_event ?hg (N:=3) ?hd (cs:=#[.int .i64 a1_0,.slice A1_1 l1_1.length c1_1]) (t:=26) ?hr ?_;(case hd=>rfl);(case hg=>rfl);(case hr=>first|(go_simp;done)|(go_simp;rfl));intro gb896 hg w38 hbox hb;have BK896:=A_ (hbox);have GW896:=A_ ((by rw [hg];exact (below_size bb_) : w.heap.size ≤ gb896));have GE896:=A_ ((by rw [hg];exact (below_size bb_) : w.heap.size ≤ gb896));replace HB:=A_ (below_step bb_ hb);have NB895_896:=A_ ((by rw [hg];exact Nat.ne_of_lt (blk_lt (bl_ BK895)) : gb895 ≠ gb896));have NB896_895:=A_ ((by rw [hg];exact Nat.ne_of_gt (blk_lt (bl_ BK895)) : gb896 ≠ gb895));replace BK895:=bz BK895 hb;clear hb hbox hg)|((with_reducible refine gate_dst (N:=4) rfl ?_);refine box_event ?hg (N:=4) ?hd (cs:=#[.int .i64 0,.slice none 0 0]) (t:=26) ?hr ?_;(case hd=>rfl);(case hg=>rfl);(case hr=>first|(go_simp;done)|(go_simp;rfl));intro gb897 hg w39 hbox hb;have BK897:=A_ (hbox);have GW897:=A_ ((by rw [hg];exact (below_size bb_) : w.heap.size ≤ gb897));have GE897:=A_ ((by rw [hg];exact (below_size bb_) : w.heap.size ≤ gb897));replace HB:=A_ (below_step bb_ hb);have NB895_897:=A_ ((by rw [hg];exact Nat.ne_of_lt (blk_lt (bl_ BK895)) : gb895 ≠ gb897));have NB897_895:=A_ ((by rw [hg];exact Nat.ne_of_gt (blk_lt (bl_ BK895)) : gb897 ≠ gb895));replace BK895:=bz BK895 hb;have NB896_897:=A_ ((by rw [hg];exact Nat.ne_of_lt (blk_lt (bl_ BK896)) : gb896 ≠ gb897));have NB897_896:=A_ ((by rw [hg];exact Nat.ne_of_gt (blk_lt (bl_ BK896)) : gb897 ≠ gb896));replace BK896:=bz BK896 hb;clear hb hbox hg;have hnb40:=NB895_896.out;have hnc40:=NB896_895.out;have hnb41:=NB895_897.out;have hnc41:=NB897_895.out;have hcz42_0 : w39.cell? ⟨gb895,0,none⟩ = some (.int .i64 a0_0):=blk_cell BK895.out 0;have hcz42_1 : w39.cell? ⟨gb895,1,none⟩ = some (.slice A0_1 l0_1.length c0_1):=blk_cell BK895.out 1;have hfz42_0:=blk_frozen BK895.out 0;have hfz42_1:=blk_frozen BK895.out 1)|((with_reducible refine gate_callee (f:=83) rfl ?_);refine goesL_ (some 7) rfl rfl Tryd.func83 (by kernel_rfl) rfl #[.agg #[.int .i64 a0_0,.slice A0_1 l0_1.length c0_1]] rfl au_ ?_;(with_reducible refine (spec_orGood.calls k a0_0 _ _ l0_1 true _ ?side1 ?side2 A3.out).mono ?_);(case side1=>exact cl_ (Kd.C_below HR0_1.out HB.out));(case side2=>exact HC0_1.out);rintro e w43 ⟨rfl,hb⟩;refine ⟨_,rfl,?_⟩;replace BK895:=bz BK895 hb;replace BK896:=bz BK896 hb;replace BK897:=bz BK897 hb;replace HB:=A_ (below_step bb_ hb);(try clear hb);(try clear hb2);(try clear hk);(try clear hi);have hnb44:=NB896_897.out;have hnc44:=NB897_896.out;have hcz45_0 : w43.cell? ⟨gb896,0,none⟩ = some (.int .i64 a1_0):=blk_cell BK896.out 0;have hcz45_1 : w43.cell? ⟨gb896,1,none⟩ = some (.slice A1_1 l1_1.length c1_1):=blk_cell BK896.out 1;have hfz45_0:=blk_frozen BK896.out 0;have hfz45_1:=blk_frozen BK896.out 1)|(go_at_call 83;(with_reducible refine (spec_orGood.calls k a1_0 _ _ l1_1 false _ ?side1 ?side2 A5.out).mono ?_);(case side1=>exact cl_ (Kd.C_below HR1_1.out HB.out));(case side2=>exact HC1_1.out);rintro e w46 ⟨rfl,hb⟩;replace BK895:=bz BK895 hb;replace BK896:=bz BK896 hb;replace BK897:=bz BK897 hb;replace HB:=A_ (below_step bb_ hb);(try clear hb);(try clear hb2);(try clear hk);(try clear hi);have hcz47_0 : w46.cell? ⟨gb897,0,none⟩ = some (.int .i64 0):=blk_cell BK897.out 0;have hcz47_1 : w46.cell? ⟨gb897,1,none⟩ = some (.slice none 0 0):=blk_cell BK897.out 1;have hfz47_0:=blk_frozen BK897.out 0;have hfz47_1:=blk_frozen BK897.out 1))
   refine bodyPost_ret (results_ct rfl _ _ gb897 26 #[.int .i64 0,.slice none 0 0] (0,0) _ rfl (by (with_reducible repeat (first|refine blk_drewN ?_ _|refine blk_drew ?_|refine blk_alloc ?_ _));refine blk_put (cs:=#[.int .i64 0,.slice none 0 0]) ?_ 1 _ rfl;(with_reducible repeat (first|refine blk_drewN ?_ _|refine blk_drew ?_|refine blk_alloc ?_ _));refine blk_put (cs:=#[.int .i64 0,.slice none 0 0]) ?_ 0 _ rfl;(with_reducible repeat (first|refine blk_drewN ?_ _|refine blk_drew ?_|refine blk_alloc ?_ _));exact BK897.out) Tryd.underlying26 rfl (by kernel_rfl)) rfl ?_
   exact ⟨_,by first|rfl|(simp [errW_none,errW_some] <;> rfl)|(simp [*,errW_none,errW_some] <;> rfl),by first|exact Kd.R_nil _ _ _ _ _|exact Kd.N_nil _ _ _ _ _|exact Kd.V_nil _ _ _ _ _|exact Kd.Q_nil _ _ _ _ _|exact Kd.S_nil _ _ _ _ _,bb_⟩
 ·replace c4:=Bool.eq_false_iff.mpr c4;subst c4;have H1 : (some (0,([] : List Int),false)) = some (r1,r2,r3):=by rw [if_neg (show ¬ (false = true) by decide)] at H;exact H
  clear H;have H:=H1;clear H1;simp only [Option.some.injEq,Prod.mk.injEq] at H
  obtain ⟨rfl,rfl,rfl⟩:=H;go_enter Tryd.func44,Tryd.ntmps44
  go_wp2_with (first|((with_reducible refine gate_dst (N:=2) rfl ?_);refine box_event ?hg (N:=2) ?hd (cs:=#[.int .i64 a0_0,.slice A0_1 l0_1.length c0_1]) (t:=26) ?hr ?_;(case hd=>rfl);(case hg=>rfl);(case hr=>first|(go_simp;done)|(go_simp;rfl));intro gb895 hg w48 hbox hb;have BK895:=A_ (hbox);have GW895:=A_ ((by rw [hg];exact (below_size bb_) : w.heap.size ≤ gb895));have GE895:=A_ ((by rw [hg];exact (below_size bb_) : w.heap.size ≤ gb895));replace HB:=A_ (below_step bb_ hb);clear hb hbox hg)|((with_reducible refine gate_dst (N:=3) rfl ?_);refine box_event ?hg (N:=3) ?hd (cs:=#[.int .i64 a1_0,.slice A1_1 l1_1.length c1_1]) (t:=26) ?hr ?_;(case hd=>rfl);(case hg=>rfl);(case hr=>first|(go_simp;done)|(go_simp;rfl));intro gb896 hg w49 hbox hb;have BK896:=A_ (hbox);have GW896:=A_ ((by rw [hg];exact (below_size bb_) : w.heap.size ≤ gb896));have GE896:=A_ ((by rw [hg];exact (below_size bb_) : w.heap.size ≤ gb896));replace HB:=A_ (below_step bb_ hb);have NB895_896:=A_ ((by rw [hg];exact Nat.ne_of_lt (blk_lt (bl_ BK895)) : gb895 ≠ gb896));have NB896_895:=A_ ((by rw [hg];exact Nat.ne_of_gt (blk_lt (bl_ BK895)) : gb896 ≠ gb895));replace BK895:=bz BK895 hb;clear hb hbox hg)|((with_reducible refine gate_dst (N:=4) rfl ?_);refine box_event ?hg (N:=4) ?hd (cs:=#[.int .i64 0,.slice none 0 0]) (t:=26) ?hr ?_;(case hd=>rfl);(case hg=>rfl);(case hr=>first|(go_simp;done)|(go_simp;rfl));intro gb897 hg w50 hbox hb;have BK897:=A_ (hbox);have GW897:=A_ ((by rw [hg];exact (below_size bb_) : w.heap.size ≤ gb897));have GE897:=A_ ((by rw [hg];exact (below_size bb_) : w.heap.size ≤ gb897));replace HB:=A_ (below_step bb_ hb);have NB895_897:=A_ ((by rw [hg];exact Nat.ne_of_lt (blk_lt (bl_ BK895)) : gb895 ≠ gb897));have NB897_895:=A_ ((by rw [hg];exact Nat.ne_of_gt (blk_lt (bl_ BK895)) : gb897 ≠ gb895));replace BK895:=bz BK895 hb;have NB896_897:=A_ ((by rw [hg];exact Nat.ne_of_lt (blk_lt (bl_ BK896)) : gb896 ≠ gb897));have NB897_896:=A_ ((by rw [hg];exact Nat.ne_of_gt (blk_lt (bl_ BK896)) : gb897 ≠ gb896));replace BK896:=bz BK896 hb;clear hb hbox hg;have hnb51:=NB895_896.out;have hnc51:=NB896_895.out;have hnb52:=NB895_897.out;have hnc52:=NB897_895.out;have hcz53_0 : w50.cell? ⟨gb895,0,none⟩ = some (.int .i64 a0_0):=blk_cell BK895.out 0;have hcz53_1 : w50.cell? ⟨gb895,1,none⟩ = some (.slice A0_1 l0_1.length c0_1):=blk_cell BK895.out 1;have hfz53_0:=blk_frozen BK895.out 0;have hfz53_1:=blk_frozen BK895.out 1)|((with_reducible refine gate_callee (f:=83) rfl ?_);refine goesL_ (some 7) rfl rfl Tryd.func83 (by kernel_rfl) rfl #[.agg #[.int .i64 a0_0,.slice A0_1 l0_1.length c0_1]] rfl au_ ?_;(with_reducible refine (spec_orGood.calls k a0_0 _ _ l0_1 false _ ?side1 ?side2 A3.out).mono ?_);(case side1=>exact cl_ (Kd.C_below HR0_1.out HB.out));(case side2=>exact HC0_1.out);rintro e w54 ⟨rfl,hb⟩;refine ⟨_,rfl,?_⟩;replace BK895:=bz BK895 hb;replace BK896:=bz BK896 hb;replace BK897:=bz BK897 hb;replace HB:=A_ (below_step bb_ hb);(try clear hb);(try clear hb2);(try clear hk);(try clear hi);have hnb55:=NB897_896.out;have hnc55:=NB896_897.out;have hcz56_0 : w54.cell? ⟨gb897,0,none⟩ = some (.int .i64 0):=blk_cell BK897.out 0;have hcz56_1 : w54.cell? ⟨gb897,1,none⟩ = some (.slice none 0 0):=blk_cell BK897.out 1;have hfz56_0:=blk_frozen BK897.out 0;have hfz56_1:=blk_frozen BK897.out 1))
  refine bodyPost_ret (results_ct rfl _ _ gb897 26 #[.int .i64 0,.slice none 0 0] (0,0) _ rfl (by (with_reducible repeat (first|refine blk_drewN ?_ _|refine blk_drew ?_|refine blk_alloc ?_ _));refine blk_put (cs:=#[.int .i64 0,.slice none 0 0]) ?_ 1 _ rfl;(with_reducible repeat (first|refine blk_drewN ?_ _|refine blk_drew ?_|refine blk_alloc ?_ _));refine blk_put (cs:=#[.int .i64 0,.slice none 0 0]) ?_ 0 _ rfl;(with_reducible repeat (first|refine blk_drewN ?_ _|refine blk_drew ?_|refine blk_alloc ?_ _));exact BK897.out) Tryd.underlying26 rfl (by kernel_rfl)) rfl ?_
  exact ⟨_,by first|rfl|(simp [errW_none,errW_some] <;> rfl)|(simp [*,errW_none,errW_some] <;> rfl),by first|exact Kd.R_nil _ _ _ _ _|exact Kd.N_nil _ _ _ _ _|exact Kd.V_nil _ _ _ _ _|exact Kd.Q_nil _ _ _ _ _|exact Kd.S_nil _ _ _ _ _,bb_⟩
def impl_StackOrders.f (k : Nat) (a0_0 : Int) (l0_1 : List Int) (a1_0 : Int) (l1_1 : List Int) : Option (Int × List Int × Bool) := (impl_together.f k a0_0 l0_1 a1_0 l1_1 true).bind fun bt907 => (some (bt907.1, bt907.2.1, bt907.2.2))
set_option maxHeartbeats 8000000 in
set_option maxRecDepth 100000 in
theorem impl_StackOrders.calls (k : Nat) (a0_0 : Int) (A0_1 : Option Addr) (c0_1 : Nat) (l0_1 : List Int) (a1_0 : Int) (A1_1 : Option Addr) (c1_1 : Nat) (l1_1 : List Int) (r1 : Int) (r2 : List Int) (r3 : Bool) (w : World) (hr0_1 : Kd.C (Kd.int .i64) w A0_1 l0_1.length l0_1) (hc0_1 : l0_1.length ≤ c0_1) (hr1_1 : Kd.C (Kd.int .i64) w A1_1 l1_1.length l1_1) (hc1_1 : l1_1.length ≤ c1_1) (hT : TabOK w) (h : impl_StackOrders.f k a0_0 l0_1 a1_0 l1_1 = some (r1,r2,r3)) :
 Calls Tryd.prog 45 #[.agg #[.int .i64 a0_0,.slice A0_1 l0_1.length c0_1],.agg #[.int .i64 a1_0,.slice A1_1 l1_1.length c1_1]] w fun e w'=>∃ v1_ : Value,e = .returned (.tuple #[.agg #[.int .i64 r1,v1_],.bool r3]) ∧ Kd.R (Kd.int .i64) 3 w' w.heap.size (fun _=>True) v1_ r2 ∧ Below w.heap.size w w':=by
 have hu26:=Tryd.underlying26;have HT:=A_ hT;clear hT;have HR0_1:=A_ hr0_1;have HC0_1:=A_ hc0_1;clear hr0_1 hc0_1;have HR1_1:=A_ hr1_1;have HC1_1:=A_ hc1_1;clear hr1_1 hc1_1;have HB:=A_ (Below.refl w.heap.size w);have H : ((impl_together.f k a0_0 l0_1 a1_0 l1_1 true).bind fun bt907=>(some (bt907.1,bt907.2.1,bt907.2.2))) = some (r1,r2,r3):=h;clear h;replace H:=Option.bind_eq_some_iff.mp H;obtain ⟨⟨t907,t908,t911⟩,A30,H⟩:=H;replace H : (some (t907,t908,t911)) = some (r1,r2,r3):=H;have A3:=A_ A30;clear A30;simp only [Option.some.injEq,Prod.mk.injEq] at H
 obtain ⟨rfl,rfl,rfl⟩:=H;go_enter Tryd.func45,Tryd.ntmps45
 go_wp2_with (first|((with_reducible refine gate_dst (N:=2) rfl ?_);refine box_event ?hg (N:=2) ?hd (cs:=#[.int .i64 a0_0,.slice A0_1 l0_1.length c0_1]) (t:=26) ?hr ?_;(case hd=>rfl);(case hg=>rfl);(case hr=>first|(go_simp;done)|(go_simp;rfl));intro gb904 hg w4 hbox hb;have BK904:=A_ (hbox);have GW904:=A_ ((by rw [hg];exact (below_size bb_) : w.heap.size ≤ gb904));have GE904:=A_ ((by rw [hg];exact (below_size bb_) : w.heap.size ≤ gb904));replace HB:=A_ (below_step bb_ hb);clear hb hbox hg)|((with_reducible refine gate_dst (N:=3) rfl ?_);refine box_event ?hg (N:=3) ?hd (cs:=#[.int .i64 a1_0,.slice A1_1 l1_1.length c1_1]) (t:=26) ?hr ?_;(case hd=>rfl);(case hg=>rfl);(case hr=>first|(go_simp;done)|(go_simp;rfl));intro gb905 hg w5 hbox hb;have BK905:=A_ (hbox);have GW905:=A_ ((by rw [hg];exact (below_size bb_) : w.heap.size ≤ gb905));have GE905:=A_ ((by rw [hg];exact (below_size bb_) : w.heap.size ≤ gb905));replace HB:=A_ (below_step bb_ hb);have NB904_905:=A_ ((by rw [hg];exact Nat.ne_of_lt (blk_lt (bl_ BK904)) : gb904 ≠ gb905));have NB905_904:=A_ ((by rw [hg];exact Nat.ne_of_gt (blk_lt (bl_ BK904)) : gb905 ≠ gb904));replace BK904:=bz BK904 hb;clear hb hbox hg)|((with_reducible refine gate_dst (N:=4) rfl ?_);refine box_event ?hg (N:=4) ?hd (cs:=#[.int .i64 0,.slice none 0 0]) (t:=26) ?hr ?_;(case hd=>rfl);(case hg=>rfl);(case hr=>first|(go_simp;done)|(go_simp;rfl));intro gb906 hg w6 hbox hb;have BK906:=A_ (hbox);have GW906:=A_ ((by rw [hg];exact (below_size bb_) : w.heap.size ≤ gb906));have GE906:=A_ ((by rw [hg];exact (below_size bb_) : w.heap.size ≤ gb906));replace HB:=A_ (below_step bb_ hb);have NB904_906:=A_ ((by rw [hg];exact Nat.ne_of_lt (blk_lt (bl_ BK904)) : gb904 ≠ gb906));have NB906_904:=A_ ((by rw [hg];exact Nat.ne_of_gt (blk_lt (bl_ BK904)) : gb906 ≠ gb904));replace BK904:=bz BK904 hb;have NB905_906:=A_ ((by rw [hg];exact Nat.ne_of_lt (blk_lt (bl_ BK905)) : gb905 ≠ gb906));have NB906_905:=A_ ((by rw [hg];exact Nat.ne_of_gt (blk_lt (bl_ BK905)) : gb906 ≠ gb905));replace BK905:=bz BK905 hb;clear hb hbox hg;have hnb7:=NB904_905.out;have hnc7:=NB905_904.out;have hnb8:=NB904_906.out;have hnc8:=NB906_904.out;have hcz9_0 : w6.cell? ⟨gb904,0,none⟩ = some (.int .i64 a0_0):=blk_cell BK904.out 0;have hcz9_1 : w6.cell? ⟨gb904,1,none⟩ = some (.slice A0_1 l0_1.length c0_1):=blk_cell BK904.out 1;have hfz9_0:=blk_frozen BK904.out 0;have hfz9_1:=blk_frozen BK904.out 1;have hnb10:=NB905_906.out;have hnc10:=NB906_905.out;have hcz11_0 : w6.cell? ⟨gb905,0,none⟩ = some (.int .i64 a1_0):=blk_cell BK905.out 0;have hcz11_1 : w6.cell? ⟨gb905,1,none⟩ = some (.slice A1_1 l1_1.length c1_1):=blk_cell BK905.out 1;have hfz11_0:=blk_frozen BK905.out 0;have hfz11_1:=blk_frozen BK905.out 1)|((with_reducible refine gate_callee (f:=116) rfl ?_);refine goesL_ (some 8) rfl rfl Tryd.func116 (by kernel_rfl) rfl #[.agg #[.int .i64 a0_0,.slice A0_1 l0_1.length c0_1],.agg #[.int .i64 a1_0,.slice A1_1 l1_1.length c1_1],.bool true] rfl au_ ?_;(with_reducible refine (impl_together.calls k a0_0 _ _ l0_1 a1_0 _ _ l1_1 true t907 t908 t911 _ ?side1 ?side2 ?side3 ?side4 ?side5 A3.out).mono ?_);(case side1=>exact cl_ (Kd.C_below HR0_1.out HB.out));(case side2=>exact HC0_1.out);(case side3=>exact cl_ (Kd.C_below HR1_1.out HB.out));(case side4=>exact HC1_1.out);(case side5=>first|exact HT.out|exact HT.out.below bb_|(repeat (first|exact HT.out|apply TabOK.drewN|apply TabOK.drew|apply TabOK.alloc)));rintro e w12 ⟨v909,rfl,ho0,hb⟩;refine ⟨_,rfl,?_⟩;have HO910:=A_ (Kd.R_lower ho0 (below_size bb_));replace BK904:=bz BK904 hb;replace BK905:=bz BK905 hb;replace BK906:=bz BK906 hb;replace HB:=A_ (below_step bb_ hb);(try clear hb);(try clear hb2);(try clear hk);(try clear hi);(try clear ho0);have hcz13_0 : w12.cell? ⟨gb906,0,none⟩ = some (.int .i64 0):=blk_cell BK906.out 0;have hcz13_1 : w12.cell? ⟨gb906,1,none⟩ = some (.slice none 0 0):=blk_cell BK906.out 1;have hfz13_0:=blk_frozen BK906.out 0;have hfz13_1:=blk_frozen BK906.out 1;obtain ⟨Ao14,co14,eo14⟩:=Kd.R_slice HO910.out;subst eo14))
 refine bodyPost_ret (results_ct rfl _ _ gb906 26 #[.int .i64 t907,.slice Ao14 t908.length co14] (0,0) _ rfl (by (with_reducible repeat (first|refine blk_drewN ?_ _|refine blk_drew ?_|refine blk_alloc ?_ _));refine blk_put (cs:=#[.int .i64 t907,.slice none 0 0]) ?_ 1 _ rfl;(with_reducible repeat (first|refine blk_drewN ?_ _|refine blk_drew ?_|refine blk_alloc ?_ _));refine blk_put (cs:=#[.int .i64 0,.slice none 0 0]) ?_ 0 _ rfl;(with_reducible repeat (first|refine blk_drewN ?_ _|refine blk_drew ?_|refine blk_alloc ?_ _));exact BK906.out) Tryd.underlying26 rfl (by kernel_rfl)) rfl ?_
 exact ⟨_,by first|rfl|(simp [errW_none,errW_some] <;> rfl)|(simp [*,errW_none,errW_some] <;> rfl),by (with_reducible repeat (first|apply Kd.R_alloc|apply Kd.R_drewN|apply Kd.R_drew));exact Kd.R_mono (Kd.R_far (p:=⟨gb906,1,none⟩) (Kd.R_far (p:=⟨gb906,0,none⟩) (Kd.R_types HO910.out BK906.out (by decide)) (fun _ hk=>hk.2) (.int .i64 t907)) (fun _ hk=>hk.2) (.slice Ao14 t908.length co14)) (fun _ hk=>trivial),bb_⟩
def spec_StackOrders.f (k : Nat) (a0_0 : Int) (l0_1 : List Int) (a1_0 : Int) (l1_1 : List Int) : Option (Int × List Int × Bool) := (spec_orGood.f k a0_0 l0_1).bind fun t915 => (if t915 = true then ((spec_orGood.f k a1_0 l1_1).bind fun t916 => (if t916 = true then (if (wrap64 (a0_0 + a1_0)) > 10 then (some (0, ([] : List Int), false)) else (if 0 ≤ a1_0 then (if 0 ≤ a0_0 then ((spec_orTogether.f k a0_0 l0_1 a1_0 l1_1 (shl .i64 (wrap64 ((shl .i64 1 a1_0) - 1)) a0_0)).bind fun bt917 => (some (bt917.1, bt917.2, true))) else (none)) else (none))) else (some (0, ([] : List Int), false)))) else (some (0, ([] : List Int), false)))
def spec_StackOrders.T3 : Bool × List (List Nat × List Nat) := (true, [([], []), ([], []), ([], []), ([2], [2]), ([3], [3]), ([4], [4]), ([], []), ([6], [6]), ([5, 7], [5, 7]), ([0, 1, 8], [0, 1, 8]), ([9, 9, 0, 1, 2, 3, 4, 5, 6, 7, 8, 9], [9]), ([10, 0, 1, 2, 3, 4, 5, 6, 7, 8, 9, 10], [])])
def spec_StackOrders.B3 : List Nat := [0, 0, 0, 4, 12, 28, 0, 64, 252, 511, 1023, 2047]
theorem spec_StackOrders.tab3 : rtab .any (opsOf Tryd.f46 3) = spec_StackOrders.T3:=by kernel_rfl
theorem spec_StackOrders.bits3 : waitsOk spec_StackOrders.T3.2 spec_StackOrders.B3 = true:=by kernel_rfl
set_option maxHeartbeats 8000000 in
set_option maxRecDepth 100000 in
theorem spec_StackOrders.calls (k : Nat) (a0_0 : Int) (A0_1 : Option Addr) (c0_1 : Nat) (l0_1 : List Int) (a1_0 : Int) (A1_1 : Option Addr) (c1_1 : Nat) (l1_1 : List Int) (r1 : Int) (r2 : List Int) (r3 : Bool) (w : World) (hr0_1 : Kd.C (Kd.int .i64) w A0_1 l0_1.length l0_1) (hc0_1 : l0_1.length ≤ c0_1) (hr1_1 : Kd.C (Kd.int .i64) w A1_1 l1_1.length l1_1) (hc1_1 : l1_1.length ≤ c1_1) (h : spec_StackOrders.f k a0_0 l0_1 a1_0 l1_1 = some (r1,r2,r3)) :
 Calls Tryd.prog 46 #[.agg #[.int .i64 a0_0,.slice A0_1 l0_1.length c0_1],.agg #[.int .i64 a1_0,.slice A1_1 l1_1.length c1_1]] w fun e w'=>∃ v1_ : Value,e = .returned (.tuple #[.agg #[.int .i64 r1,v1_],.bool r3]) ∧ Kd.R (Kd.int .i64) 3 w' w.heap.size (fun _=>True) v1_ r2 ∧ Below w.heap.size w w':=by
 have hu26:=Tryd.underlying26;have HR0_1:=A_ hr0_1;have HC0_1:=A_ hc0_1;clear hr0_1 hc0_1;have HR1_1:=A_ hr1_1;have HC1_1:=A_ hc1_1;clear hr1_1 hc1_1;have HB:=A_ (Below.refl w.heap.size w);have H : ((spec_orGood.f k a0_0 l0_1).bind fun t915=>(if t915 = true then ((spec_orGood.f k a1_0 l1_1).bind fun t916=>(if t916 = true then (if (wrap64 (a0_0 + a1_0)) > 10 then (some (0,([] : List Int),false)) else (if 0 ≤ a1_0 then (if 0 ≤ a0_0 then ((spec_orTogether.f k a0_0 l0_1 a1_0 l1_1 (shl .i64 (wrap64 ((shl .i64 1 a1_0) - 1)) a0_0)).bind fun bt917=>(some (bt917.1,bt917.2,true))) else (none)) else (none))) else (some (0,([] : List Int),false)))) else (some (0,([] : List Int),false)))) = some (r1,r2,r3):=h;clear h;replace H:=Option.bind_eq_some_iff.mp H;obtain ⟨t915,A30,H⟩:=H;replace H : (if t915 = true then ((spec_orGood.f k a1_0 l1_1).bind fun t916=>(if t916 = true then (if (wrap64 (a0_0 + a1_0)) > 10 then (some (0,([] : List Int),false)) else (if 0 ≤ a1_0 then (if 0 ≤ a0_0 then ((spec_orTogether.f k a0_0 l0_1 a1_0 l1_1 (shl .i64 (wrap64 ((shl .i64 1 a1_0) - 1)) a0_0)).bind fun bt917=>(some (bt917.1,bt917.2,true))) else (none)) else (none))) else (some (0,([] : List Int),false)))) else (some (0,([] : List Int),false))) = some (r1,r2,r3):=H;have A3:=A_ A30;clear A30;by_cases c4 : t915 = true
 ·subst c4;have H1 : ((spec_orGood.f k a1_0 l1_1).bind fun t916=>(if t916 = true then (if (wrap64 (a0_0 + a1_0)) > 10 then (some (0,([] : List Int),false)) else (if 0 ≤ a1_0 then (if 0 ≤ a0_0 then ((spec_orTogether.f k a0_0 l0_1 a1_0 l1_1 (shl .i64 (wrap64 ((shl .i64 1 a1_0) - 1)) a0_0)).bind fun bt917=>(some (bt917.1,bt917.2,true))) else (none)) else (none))) else (some (0,([] : List Int),false)))) = some (r1,r2,r3):=by rw [if_pos rfl] at H;exact H
  clear H;have H:=H1;clear H1;replace H:=Option.bind_eq_some_iff.mp H;obtain ⟨t916,A50,H⟩:=H;replace H : (if t916 = true then (if (wrap64 (a0_0 + a1_0)) > 10 then (some (0,([] : List Int),false)) else (if 0 ≤ a1_0 then (if 0 ≤ a0_0 then ((spec_orTogether.f k a0_0 l0_1 a1_0 l1_1 (shl .i64 (wrap64 ((shl .i64 1 a1_0) - 1)) a0_0)).bind fun bt917=>(some (bt917.1,bt917.2,true))) else (none)) else (none))) else (some (0,([] : List Int),false))) = some (r1,r2,r3):=H;have A5:=A_ A50;clear A50;by_cases c6 : t916 = true
  ·subst c6;have H1 : (if (wrap64 (a0_0 + a1_0)) > 10 then (some (0,([] : List Int),false)) else (if 0 ≤ a1_0 then (if 0 ≤ a0_0 then ((spec_orTogether.f k a0_0 l0_1 a1_0 l1_1 (shl .i64 (wrap64 ((shl .i64 1 a1_0) - 1)) a0_0)).bind fun bt917=>(some (bt917.1,bt917.2,true))) else (none)) else (none))) = some (r1,r2,r3):=by rw [if_pos rfl] at H;exact H
   clear H;have H:=H1;clear H1;by_cases c7 : (wrap64 (a0_0 + a1_0)) > 10
   ·rw [if_pos c7] at H;have c7b0 : decide (10 < (wrap64 (a0_0 + a1_0))) = true:=decide_eq_true c7;clear c7;simp only [Option.some.injEq,Prod.mk.injEq] at H
    obtain ⟨rfl,rfl,rfl⟩:=H;go_enter Tryd.func46,Tryd.ntmps46
    go_wp2_with (first|((with_reducible refine gate_dst (N:=2) rfl ?_);refine box_event ?hg (N:=2) ?hd (cs:=#[.int .i64 a0_0,.slice A0_1 l0_1.length c0_1]) (t:=26) ?hr ?_;(case hd=>rfl);(case hg=>rfl);(case hr=>first|(go_simp;done)|(go_simp;rfl));intro gb912 hg w8 hbox hb;have BK912:=A_ (hbox);have GW912:=A_ ((by rw [hg];exact (below_size bb_) : w.heap.size ≤ gb912));have GE912:=A_ ((by rw [hg];exact (below_size bb_) : w.heap.size ≤ gb912));replace HB:=A_ (below_step bb_ hb);clear hb hbox hg)|((with_reducible refine gate_dst (N:=3) rfl ?_);refine box_event ?hg (N:=3) ?hd (cs:=#[.int .i64 a1_0,.slice A1_1 l1_1.length c1_1]) (t:=26) ?hr ?_;(case hd=>rfl);(case hg=>rfl);(case hr=>first|(go_simp;done)|(go_simp;rfl));intro gb913 hg w9 hbox hb;have BK913:=A_ (hbox);have GW913:=A_ ((by rw [hg];exact (below_size bb_) : w.heap.size ≤ gb913));have GE913:=A_ ((by rw [hg];exact (below_size bb_) : w.heap.size ≤ gb913));replace HB:=A_ (below_step bb_ hb);have NB912_913:=A_ ((by rw [hg];exact Nat.ne_of_lt (blk_lt (bl_ BK912)) : gb912 ≠ gb913));have NB913_912:=A_ ((by rw [hg];exact Nat.ne_of_gt (blk_lt (bl_ BK912)) : gb913 ≠ gb912));replace BK912:=bz BK912 hb;clear hb hbox hg)|((with_reducible refine gate_dst (N:=4) rfl ?_);refine box_event ?hg (N:=4) ?hd (cs:=#[.int .i64 0,.slice none 0 0]) (t:=26) ?hr ?_;(case hd=>rfl);(case hg=>rfl);(case hr=>first|(go_simp;done)|(go_simp;rfl));intro gb914 hg w10 hbox hb;have BK914:=A_ (hbox);have GW914:=A_ ((by rw [hg];exact (below_size bb_) : w.heap.size ≤ gb914));have GE914:=A_ ((by rw [hg];exact (below_size bb_) : w.heap.size ≤ gb914));replace HB:=A_ (below_step bb_ hb);have NB912_914:=A_ ((by rw [hg];exact Nat.ne_of_lt (blk_lt (bl_ BK912)) : gb912 ≠ gb914));have NB914_912:=A_ ((by rw [hg];exact Nat.ne_of_gt (blk_lt (bl_ BK912)) : gb914 ≠ gb912));replace BK912:=bz BK912 hb;have NB913_914:=A_ ((by rw [hg];exact Nat.ne_of_lt (blk_lt (bl_ BK913)) : gb913 ≠ gb914));have NB914_913:=A_ ((by rw [hg];exact Nat.ne_of_gt (blk_lt (bl_ BK913)) : gb914 ≠ gb913));replace BK913:=bz BK913 hb;clear hb hbox hg;have hnb11:=NB912_913.out;have hnc11:=NB913_912.out;have hnb12:=NB912_914.out;have hnc12:=NB914_912.out;have hcz13_0 : w10.cell? ⟨gb912,0,none⟩ = some (.int .i64 a0_0):=blk_cell BK912.out 0;have hcz13_1 : w10.cell? ⟨gb912,1,none⟩ = some (.slice A0_1 l0_1.length c0_1):=blk_cell BK912.out 1;have hfz13_0:=blk_frozen BK912.out 0;have hfz13_1:=blk_frozen BK912.out 1)|((with_reducible refine gate_callee (f:=83) rfl ?_);refine goesL_ (some 7) rfl rfl Tryd.func83 (by kernel_rfl) rfl #[.agg #[.int .i64 a0_0,.slice A0_1 l0_1.length c0_1]] rfl au_ ?_;(with_reducible refine (spec_orGood.calls k a0_0 _ _ l0_1 true _ ?side1 ?side2 A3.out).mono ?_);(case side1=>exact cl_ (Kd.C_below HR0_1.out HB.out));(case side2=>exact HC0_1.out);rintro e w14 ⟨rfl,hb⟩;refine ⟨_,rfl,?_⟩;replace BK912:=bz BK912 hb;replace BK913:=bz BK913 hb;replace BK914:=bz BK914 hb;replace HB:=A_ (below_step bb_ hb);(try clear hb);(try clear hb2);(try clear hk);(try clear hi);have hnb15:=NB913_914.out;have hnc15:=NB914_913.out;have hcz16_0 : w14.cell? ⟨gb913,0,none⟩ = some (.int .i64 a1_0):=blk_cell BK913.out 0;have hcz16_1 : w14.cell? ⟨gb913,1,none⟩ = some (.slice A1_1 l1_1.length c1_1):=blk_cell BK913.out 1;have hfz16_0:=blk_frozen BK913.out 0;have hfz16_1:=blk_frozen BK913.out 1)|(go_at_call 83;(with_reducible refine (spec_orGood.calls k a1_0 _ _ l1_1 true _ ?side1 ?side2 A5.out).mono ?_);(case side1=>exact cl_ (Kd.C_below HR1_1.out HB.out));(case side2=>exact HC1_1.out);rintro e w17 ⟨rfl,hb⟩;replace BK912:=bz BK912 hb;replace BK913:=bz BK913 hb;replace BK914:=bz BK914 hb;replace HB:=A_ (below_step bb_ hb);(try clear hb);(try clear hb2);(try clear hk);(try clear hi);have hcz18_0 : w17.cell? ⟨gb912,0,none⟩ = some (.int .i64 a0_0):=blk_cell BK912.out 0;have hcz18_1 : w17.cell? ⟨gb912,1,none⟩ = some (.slice A0_1 l0_1.length c0_1):=blk_cell BK912.out 1;have hfz18_0:=blk_frozen BK912.out 0;have hfz18_1:=blk_frozen BK912.out 1;have hcz19_0 : w17.cell? ⟨gb913,0,none⟩ = some (.int .i64 a1_0):=blk_cell BK913.out 0;have hcz19_1 : w17.cell? ⟨gb913,1,none⟩ = some (.slice A1_1 l1_1.length c1_1):=blk_cell BK913.out 1;have hfz19_0:=blk_frozen BK913.out 0;have hfz19_1:=blk_frozen BK913.out 1;have hcz20_0 : w17.cell? ⟨gb914,0,none⟩ = some (.int .i64 0):=blk_cell BK914.out 0;have hcz20_1 : w17.cell? ⟨gb914,1,none⟩ = some (.slice none 0 0):=blk_cell BK914.out 1;have hfz20_0:=blk_frozen BK914.out 0;have hfz20_1:=blk_frozen BK914.out 1))
    refine bodyPost_ret (results_ct rfl _ _ gb914 26 #[.int .i64 0,.slice none 0 0] (0,0) _ rfl (by (with_reducible repeat (first|refine blk_drewN ?_ _|refine blk_drew ?_|refine blk_alloc ?_ _));refine blk_put (cs:=#[.int .i64 0,.slice none 0 0]) ?_ 1 _ rfl;(with_reducible repeat (first|refine blk_drewN ?_ _|refine blk_drew ?_|refine blk_alloc ?_ _));refine blk_put (cs:=#[.int .i64 0,.slice none 0 0]) ?_ 0 _ rfl;(with_reducible repeat (first|refine blk_drewN ?_ _|refine blk_drew ?_|refine blk_alloc ?_ _));exact BK914.out) Tryd.underlying26 rfl (by kernel_rfl)) rfl ?_
    exact ⟨_,by first|rfl|(simp [errW_none,errW_some] <;> rfl)|(simp [*,errW_none,errW_some] <;> rfl),by first|exact Kd.R_nil _ _ _ _ _|exact Kd.N_nil _ _ _ _ _|exact Kd.V_nil _ _ _ _ _|exact Kd.Q_nil _ _ _ _ _|exact Kd.S_nil _ _ _ _ _,bb_⟩
   ·rw [if_neg c7] at H;have c7b0 : decide (10 < (wrap64 (a0_0 + a1_0))) = false:=decide_eq_false c7;clear c7;by_cases c21 : 0 ≤ a1_0
    ·rw [if_pos c21] at H;have c21b0:=eq_true c21;have c21b1 : decide (0 ≤ a1_0) = true:=decide_eq_true c21;clear c21;obtain ⟨ji22,hji22⟩ : ∃ j_ : Int,(shl .i64 1 a1_0) = j_:=⟨_,rfl⟩;replace H : (if 0 ≤ a0_0 then ((spec_orTogether.f k a0_0 l0_1 a1_0 l1_1 (shl .i64 (wrap64 ((ji22) - 1)) a0_0)).bind fun bt917=>(some (bt917.1,bt917.2,true))) else (none)) = some (r1,r2,r3):=by first|(rw [hji22] at H;exact H)|(simp only [hji22] at H ⊢;exact H)
     (try rw [hji22] at A3);(try rw [hji22] at A5);have hji22_ : (IntKind.i64.wrap (1 * 2 ^ min a1_0.toNat 64)) = ji22:=hji22;have hji22z : a1_0 ≤ 64 → (IntKind.i64.wrap (1 * 2 ^ a1_0.toNat)) = ji22:=shl_small hji22;have hji22u : (IntKind.i64.wrap (2 ^ min a1_0.toNat 64)) = ji22:=by have h_:=hji22_;rw [Int.one_mul] at h_;exact h_
     have hji22v : a1_0 ≤ 64 → (IntKind.i64.wrap (2 ^ a1_0.toNat)) = ji22:=fun hle_=>by have h_:=hji22z hle_;rw [Int.one_mul] at h_;exact h_
     have hji22y : (wrap64 (1 * 2 ^ min a1_0.toNat 64)) = ji22:=(i64_w _).symm.trans hji22_;have hji22x : a1_0 ≤ 64 → (wrap64 (1 * 2 ^ a1_0.toNat)) = ji22:=fun h_=>(i64_w _).symm.trans (hji22z h_)
     by_cases c23 : 0 ≤ a0_0
     ·rw [if_pos c23] at H;have c23b0:=eq_true c23;have c23b1 : decide (0 ≤ a0_0) = true:=decide_eq_true c23;clear c23;obtain ⟨ji24,hji24⟩ : ∃ j_ : Int,(shl .i64 (wrap64 ((ji22) - 1)) a0_0) = j_:=⟨_,rfl⟩;replace H : ((spec_orTogether.f k a0_0 l0_1 a1_0 l1_1 (ji24)).bind fun bt917=>(some (bt917.1,bt917.2,true))) = some (r1,r2,r3):=by first|(rw [hji24] at H;exact H)|(simp only [hji24] at H ⊢;exact H)
      (try rw [hji24] at A3);(try rw [hji24] at A5);have hji24_ : (IntKind.i64.wrap ((wrap64 ((ji22) - 1)) * 2 ^ min a0_0.toNat 64)) = ji24:=hji24;have hji24z : a0_0 ≤ 64 → (IntKind.i64.wrap ((wrap64 ((ji22) - 1)) * 2 ^ a0_0.toNat)) = ji24:=shl_small hji24;have hji24y : (wrap64 ((wrap64 ((ji22) - 1)) * 2 ^ min a0_0.toNat 64)) = ji24:=(i64_w _).symm.trans hji24_;have hji24x : a0_0 ≤ 64 → (wrap64 ((wrap64 ((ji22) - 1)) * 2 ^ a0_0.toNat)) = ji24:=fun h_=>(i64_w _).symm.trans (hji24z h_)
      replace H:=Option.bind_eq_some_iff.mp H;obtain ⟨⟨t917,t918⟩,A250,H⟩:=H;replace H : (some (t917,t918,true)) = some (r1,r2,r3):=H;have A25:=A_ A250;clear A250;simp only [Option.some.injEq,Prod.mk.injEq] at H
      obtain ⟨rfl,rfl,rfl⟩:=H;go_enter Tryd.func46,Tryd.ntmps46
      try go_wp2_with (first|((with_reducible refine gate_dst (N:=2) rfl ?_);refine box_event ?hg (N:=2) ?hd (cs:=#[.int .i64 a0_0,.slice A0_1 l0_1.length c0_1]) (t:=26) ?hr ?_;(case hd=>rfl);(case hg=>rfl);(case hr=>first|(go_simp;done)|(go_simp;rfl));intro gb912 hg w26 hbox hb;have BK912:=A_ (hbox);have GW912:=A_ ((by rw [hg];exact (below_size bb_) : w.heap.size ≤ gb912));have GE912:=A_ ((by rw [hg];exact (below_size bb_) : w.heap.size ≤ gb912));replace HB:=A_ (below_step bb_ hb);clear hb hbox hg)|((with_reducible refine gate_dst (N:=3) rfl ?_);refine box_event ?hg (N:=3) ?hd (cs:=#[.int .i64 a1_0,.slice A1_1 l1_1.length c1_1]) (t:=26) ?hr ?_;(case hd=>rfl);(case hg=>rfl);(case hr=>first|(go_simp;done)|(go_simp;rfl));intro gb913 hg w27 hbox hb;have BK913:=A_ (hbox);have GW913:=A_ ((by rw [hg];exact (below_size bb_) : w.heap.size ≤ gb913));have GE913:=A_ ((by rw [hg];exact (below_size bb_) : w.heap.size ≤ gb913));replace HB:=A_ (below_step bb_ hb);have NB912_913:=A_ ((by rw [hg];exact Nat.ne_of_lt (blk_lt (bl_ BK912)) : gb912 ≠ gb913));have NB913_912:=A_ ((by rw [hg];exact Nat.ne_of_gt (blk_lt (bl_ BK912)) : gb913 ≠ gb912));replace BK912:=bz BK912 hb;clear hb hbox hg)|((with_reducible refine gate_dst (N:=4) rfl ?_);refine box_event ?hg (N:=4) ?hd (cs:=#[.int .i64 0,.slice none 0 0]) (t:=26) ?hr ?_;(case hd=>rfl);(case hg=>rfl);(case hr=>first|(go_simp;done)|(go_simp;rfl));intro gb914 hg w28 hbox hb;have BK914:=A_ (hbox);have GW914:=A_ ((by rw [hg];exact (below_size bb_) : w.heap.size ≤ gb914));have GE914:=A_ ((by rw [hg];exact (below_size bb_) : w.heap.size ≤ gb914));replace HB:=A_ (below_step bb_ hb);have NB912_914:=A_ ((by rw [hg];exact Nat.ne_of_lt (blk_lt (bl_ BK912)) : gb912 ≠ gb914));have NB914_912:=A_ ((by rw [hg];exact Nat.ne_of_gt (blk_lt (bl_ BK912)) : gb914 ≠ gb912));replace BK912:=bz BK912 hb;have NB913_914:=A_ ((by rw [hg];exact Nat.ne_of_lt (blk_lt (bl_ BK913)) : gb913 ≠ gb914));have NB914_913:=A_ ((by rw [hg];exact Nat.ne_of_gt (blk_lt (bl_ BK913)) : gb914 ≠ gb913));replace BK913:=bz BK913 hb;clear hb hbox hg;have hnb29:=NB912_913.out;have hnc29:=NB913_912.out;have hnb30:=NB912_914.out;have hnc30:=NB914_912.out;have hcz31_0 : w28.cell? ⟨gb912,0,none⟩ = some (.int .i64 a0_0):=blk_cell BK912.out 0;have hcz31_1 : w28.cell? ⟨gb912,1,none⟩ = some (.slice A0_1 l0_1.length c0_1):=blk_cell BK912.out 1;have hfz31_0:=blk_frozen BK912.out 0;have hfz31_1:=blk_frozen BK912.out 1)|((with_reducible refine gate_callee (f:=83) rfl ?_);refine goesL_ (some 7) rfl rfl Tryd.func83 (by kernel_rfl) rfl #[.agg #[.int .i64 a0_0,.slice A0_1 l0_1.length c0_1]] rfl au_ ?_;(with_reducible refine (spec_orGood.calls k a0_0 _ _ l0_1 true _ ?side1 ?side2 A3.out).mono ?_);(case side1=>exact cl_ (Kd.C_below HR0_1.out HB.out));(case side2=>exact HC0_1.out);rintro e w32 ⟨rfl,hb⟩;refine ⟨_,rfl,?_⟩;replace BK912:=bz BK912 hb;replace BK913:=bz BK913 hb;replace BK914:=bz BK914 hb;replace HB:=A_ (below_step bb_ hb);(try clear hb);(try clear hb2);(try clear hk);(try clear hi);have hnb33:=NB913_914.out;have hnc33:=NB914_913.out;have hcz34_0 : w32.cell? ⟨gb913,0,none⟩ = some (.int .i64 a1_0):=blk_cell BK913.out 0;have hcz34_1 : w32.cell? ⟨gb913,1,none⟩ = some (.slice A1_1 l1_1.length c1_1):=blk_cell BK913.out 1;have hfz34_0:=blk_frozen BK913.out 0;have hfz34_1:=blk_frozen BK913.out 1)|(go_at_call 83;(with_reducible refine (spec_orGood.calls k a1_0 _ _ l1_1 true _ ?side1 ?side2 A5.out).mono ?_);(case side1=>exact cl_ (Kd.C_below HR1_1.out HB.out));(case side2=>exact HC1_1.out);rintro e w35 ⟨rfl,hb⟩;replace BK912:=bz BK912 hb;replace BK913:=bz BK913 hb;replace BK914:=bz BK914 hb;replace HB:=A_ (below_step bb_ hb);(try clear hb);(try clear hb2);(try clear hk);(try clear hi);have hcz36_0 : w35.cell? ⟨gb912,0,none⟩ = some (.int .i64 a0_0):=blk_cell BK912.out 0;have hcz36_1 : w35.cell? ⟨gb912,1,none⟩ = some (.slice A0_1 l0_1.length c0_1):=blk_cell BK912.out 1;have hfz36_0:=blk_frozen BK912.out 0;have hfz36_1:=blk_frozen BK912.out 1;have hcz37_0 : w35.cell? ⟨gb913,0,none⟩ = some (.int .i64 a1_0):=blk_cell BK913.out 0;have hcz37_1 : w35.cell? ⟨gb913,1,none⟩ = some (.slice A1_1 l1_1.length c1_1):=blk_cell BK913.out 1;have hfz37_0:=blk_frozen BK913.out 0;have hfz37_1:=blk_frozen BK913.out 1))
      replace BK912:=A_ (blk_drew BK912.out);replace BK913:=A_ (blk_drew BK913.out);replace BK914:=A_ (blk_drew BK914.out);replace HB:=A_ (below_drew1 HB.out);refine start_ (n:=12) (S:=fun w'=>w'.cell? ⟨gb912,0,none⟩ = some (.int .i64 a0_0) ∧ w'.cell? ⟨gb912,1,none⟩ = some (.slice A0_1 l0_1.length c0_1) ∧ w'.cell? ⟨gb913,0,none⟩ = some (.int .i64 a1_0) ∧ w'.cell? ⟨gb913,1,none⟩ = some (.slice A1_1 l1_1.length c1_1)) (ds:=[]) #[F,F,F,F,F,F,F,F,F,F,F,F] (by kernel_rfl) rfl rfl ⟨blk_cell BK912.out 0,blk_cell BK912.out 1,blk_cell BK913.out 0,blk_cell BK913.out 1⟩ (fun hHeld=>?_);refine with_tabW spec_StackOrders.tab3 spec_StackOrders.bits3 (fun HT_ HW_=>?_)
      generalize w35.drew = w38 at BK912 BK913 BK914 HB hHeld ⊢
      refine pure_ (i:=2) (N:=some 25) (v:=?_) (a':=?_) #[F,F,T,F,F,F,F,F,F,F,F,F] rfl rfl (any_of HT_.out (by kernel_rfl)) (fun _ _ _ h=>h) (Or.inl ⟨by rfl,?_⟩) ?_ ?_
      rotate_left;·intro w';go_simp;with_reducible rfl
      rotate_left;·simp only [Act.put,L_,M_,N_,i64_w,i32_w];rfl
      refine pure_ (i:=6) (N:=some 29) (v:=?_) (a':=?_) #[F,F,T,F,F,F,T,F,F,F,F,F] rfl rfl (any_of HT_.out (by kernel_rfl)) (fun _ _ _ h=>h) (Or.inl ⟨by rfl,?_⟩) ?_ ?_
      rotate_left;·intro w';go_simp;with_reducible rfl
      rotate_left;·simp only [Act.put,L_,M_,N_,i64_w,i32_w];rfl
      refine take_ (i:=0) (N:=some 23) (v:=?_) (a':=?_) #[T,F,T,F,F,F,T,F,F,F,F,F] rfl rfl (take_ofW HT_.out HW_.out (by kernel_rfl)) (fun _ _ _ h=>h) (Or.inl ⟨by rfl,?_⟩) hHeld ?_ ?_
      rotate_left
      ·rintro w' ⟨s0,s1,s2,s3⟩
       go_simp
       with_reducible rfl
      rotate_left;·simp only [Act.put,L_,M_,N_,i64_w,i32_w];rfl
      refine take_ (i:=1) (N:=some 24) (v:=?_) (a':=?_) #[T,T,T,F,F,F,T,F,F,F,F,F] rfl rfl (take_ofW HT_.out HW_.out (by kernel_rfl)) (fun _ _ _ h=>h) (Or.inl ⟨by rfl,?_⟩) hHeld ?_ ?_
      rotate_left
      ·rintro w' ⟨s0,s1,s2,s3⟩
       go_simp
       with_reducible rfl
      rotate_left;·simp only [Act.put,L_,M_,N_,i64_w,i32_w];rfl
      refine take_ (i:=3) (N:=some 26) (v:=?_) (a':=?_) #[T,T,T,T,F,F,T,F,F,F,F,F] rfl rfl (take_ofW HT_.out HW_.out (by kernel_rfl)) (fun _ _ _ h=>h) (Or.inl ⟨by rfl,?_⟩) hHeld ?_ ?_
      rotate_left
      ·rintro w' ⟨s0,s1,s2,s3⟩
       go_simp
       with_reducible rfl
      rotate_left;·simp only [Act.put,L_,M_,N_,i64_w,i32_w];rfl
      refine pure_ (i:=4) (N:=some 27) (v:=?_) (a':=?_) #[T,T,T,T,T,F,T,F,F,F,F,F] rfl rfl (any_of HT_.out (by kernel_rfl)) (fun _ _ _ h=>h) (Or.inl ⟨by rfl,?_⟩) ?_ ?_
      rotate_left;·intro w';go_simp;with_reducible rfl
      rotate_left;·simp only [Act.put,L_,M_,N_,i64_w,i32_w];rfl
      refine pure_ (i:=5) (N:=some 28) (v:=?_) (a':=?_) #[T,T,T,T,T,T,T,F,F,F,F,F] rfl rfl (any_of HT_.out (by kernel_rfl)) (fun _ _ _ h=>h) (Or.inl ⟨by rfl,?_⟩) ?_ ?_
      rotate_left;·intro w';go_simp;with_reducible rfl
      rotate_left;·simp only [Act.put,L_,M_,N_,i64_w,i32_w];rfl
      refine take_ (i:=7) (N:=some 30) (v:=?_) (a':=?_) #[T,T,T,T,T,T,T,T,F,F,F,F] rfl rfl (take_ofW HT_.out HW_.out (by kernel_rfl)) (fun _ _ _ h=>h) (Or.inl ⟨by rfl,?_⟩) hHeld ?_ ?_
      rotate_left
      ·rintro w' ⟨s0,s1,s2,s3⟩
       go_simp
       with_reducible rfl
      rotate_left;·simp only [Act.put,L_,M_,N_,i64_w,i32_w];rfl
      refine pure_ (i:=8) (N:=some 31) (v:=?_) (a':=?_) #[T,T,T,T,T,T,T,T,T,F,F,F] rfl rfl (any_of HT_.out (by kernel_rfl)) (fun _ _ _ h=>h) (Or.inl ⟨by rfl,?_⟩) ?_ ?_
      rotate_left;·intro w';go_simp;with_reducible rfl
      rotate_left;·simp only [Act.put,L_,M_,N_,i64_w,i32_w];rfl
      refine one_ (i:=9) (N:=some 32) #[T,T,T,T,T,T,T,T,T,T,F,F] rfl rfl (one_of HT_.out (by kernel_rfl)) (by decide) (fun K hK=>?_)
      refine goes_ Tryd.func117 (by kernel_rfl) rfl #[.agg #[.int .i64 a0_0,.slice A0_1 l0_1.length c0_1],.agg #[.int .i64 a1_0,.slice A1_1 l1_1.length c1_1],.int .i64 ji24] (by rfl) rfl rfl (by (try simp only [P_,Q_,R_]);first|done|(simp only [hji24];rfl)|rfl|(simp only [S_,U_];rfl)) ?_
      with_reducible refine (spec_orTogether.calls k a0_0 _ _ l0_1 a1_0 _ _ l1_1 ji24 t917 t918 _ ?side1 ?side2 ?side3 ?side4 A25.out).mono ?_
      (case side1=>exact cl_ (Kd.C_below HR0_1.out HB.out))
      (case side2=>exact HC0_1.out)
      (case side3=>exact cl_ (Kd.C_below HR1_1.out HB.out))
      (case side4=>exact HC1_1.out)
      rintro e w39 ⟨v919,rfl,ho0,hb⟩
      refine ⟨_,rfl,?_⟩
      have HO920:=A_ (Kd.R_lower ho0 (below_size bb_));replace BK912:=bz BK912 hb;replace BK913:=bz BK913 hb;replace BK914:=bz BK914 hb;replace HB:=A_ (below_step bb_ hb);(try clear hb);(try clear hb2);(try clear hk);(try clear hi);(try clear ho0);obtain ⟨Ao41,co41,eo41⟩:=Kd.R_slice HO920.out;(first|subst eo41|(injection eo41 with f1_ f2_ f3_;have f4_:=f1_.symm;have f5_:=f3_.symm;clear f1_ f2_ f3_;subst f4_;subst f5_))
      refine hK.out _ _ ⟨blk_cell BK912.out 0,blk_cell BK912.out 1,blk_cell BK913.out 0,blk_cell BK913.out 1⟩ (fun hHeld=>?_)
      clear hK K;refine norm_ (a':=?_) ?_ ?_
      rotate_left
      ·show Act.put _ (some 32) _ = _
       simp only [Act.put,L_,M_,N_,i64_w,i32_w]
       rfl
      refine one_ (i:=10) (N:=none) #[T,T,T,T,T,T,T,T,T,T,T,F] rfl rfl (one_of HT_.out (by kernel_rfl)) (by decide) (fun K hK=>?_)
      have hs40 : w39.cell? ⟨gb914,0,none⟩ = some (.int .i64 0):=blk_cell BK914.out 0;have hfs40:=blk_frozen BK914.out 0;have hns40_0:=NB912_914.out;have hns40_1:=NB913_914.out;have hms40_0:=NB914_912.out;have hms40_1:=NB914_913.out;have hs42 : w39.cell? ⟨gb914,1,none⟩ = some (.slice none 0 0):=blk_cell BK914.out 1;have hfs42:=blk_frozen BK914.out 1;have hns42_0:=NB912_914.out;have hns42_1:=NB913_914.out;have hms42_0:=NB914_912.out;have hms42_1:=NB914_913.out;refine skip_ (w1:=?_) (by rfl) rfl ?_ ?_
      rotate_left
      ·go_simp
       rfl
      refine hK.out _ _ ⟨((cell_far (p:=⟨gb914,_,none⟩) NB912_914.out _).trans (((cell_far (p:=⟨gb914,_,none⟩) NB912_914.out _).trans (hHeld.1)))),((cell_far (p:=⟨gb914,_,none⟩) NB912_914.out _).trans (((cell_far (p:=⟨gb914,_,none⟩) NB912_914.out _).trans (hHeld.2.1)))),((cell_far (p:=⟨gb914,_,none⟩) NB913_914.out _).trans (((cell_far (p:=⟨gb914,_,none⟩) NB913_914.out _).trans (hHeld.2.2.1)))),((cell_far (p:=⟨gb914,_,none⟩) NB913_914.out _).trans (((cell_far (p:=⟨gb914,_,none⟩) NB913_914.out _).trans (hHeld.2.2.2))))⟩ (fun hHeld=>?_)
      clear hK K;refine pure_ (i:=11) (N:=some 5) (v:=?_) (a':=?_) #[T,T,T,T,T,T,T,T,T,T,T,T] rfl rfl (any_of HT_.out (by kernel_rfl)) (fun _ _ _ h=>h) (Or.inl ⟨by rfl,?_⟩) ?_ ?_
      rotate_left;·intro w';go_simp;with_reducible rfl
      rotate_left;·simp only [Act.put,L_,M_,N_,i64_w,i32_w];rfl
      refine done_ (done_of HT_.out (by kernel_rfl)) ?_
      try go_wp2
      refine bodyPost_ret (results_ct rfl _ _ gb914 26 #[.int .i64 t917,.slice Ao41 t918.length co41] (0,0) _ rfl (by (with_reducible repeat (first|refine blk_drewN ?_ _|refine blk_drew ?_|refine blk_alloc ?_ _));refine blk_put (cs:=#[.int .i64 t917,.slice none 0 0]) ?_ 1 _ rfl;(with_reducible repeat (first|refine blk_drewN ?_ _|refine blk_drew ?_|refine blk_alloc ?_ _));refine blk_put (cs:=#[.int .i64 0,.slice none 0 0]) ?_ 0 _ rfl;(with_reducible repeat (first|refine blk_drewN ?_ _|refine blk_drew ?_|refine blk_alloc ?_ _));exact BK914.out) Tryd.underlying26 rfl (by kernel_rfl)) rfl ?_
      exact ⟨_,by first|rfl|(simp [errW_none,errW_some] <;> rfl)|(simp only [← hji22,← hji24];first|rfl|(simp [errW_none,errW_some] <;> rfl))|(simp [*,errW_none,errW_some] <;> rfl),by (with_reducible repeat (first|apply Kd.R_alloc|apply Kd.R_drewN|apply Kd.R_drew));exact Kd.R_mono (Kd.R_far (p:=⟨gb914,1,none⟩) (Kd.R_far (p:=⟨gb914,0,none⟩) (Kd.R_types HO920.out BK914.out (by decide)) (fun _ hk=>hk.2) (.int .i64 t917)) (fun _ hk=>hk.2) (.slice Ao41 t918.length co41)) (fun _ hk=>trivial),bb_⟩
     ·rw [if_neg c23] at H;exact absurd H (by simp)
    ·rw [if_neg c21] at H;exact absurd H (by simp)
  ·replace c6:=Bool.eq_false_iff.mpr c6;subst c6;have H1 : (some (0,([] : List Int),false)) = some (r1,r2,r3):=by rw [if_neg (show ¬ (false = true) by decide)] at H;exact H
   clear H;have H:=H1;clear H1;simp only [Option.some.injEq,Prod.mk.injEq] at H
   obtain ⟨rfl,rfl,rfl⟩:=H;go_enter Tryd.func46,Tryd.ntmps46
   go_wp2_with (first|((with_reducible refine gate_dst (N:=2) rfl ?_);refine box_event ?hg (N:=2) ?hd (cs:=#[.int .i64 a0_0,.slice A0_1 l0_1.length c0_1]) (t:=26) ?hr ?_;(case hd=>rfl);(case hg=>rfl);(case hr=>first|(go_simp;done)|(go_simp;rfl));intro gb912 hg w43 hbox hb;have BK912:=A_ (hbox);have GW912:=A_ ((by rw [hg];exact (below_size bb_) : w.heap.size ≤ gb912));have GE912:=A_ ((by rw [hg];exact (below_size bb_) : w.heap.size ≤ gb912));replace HB:=A_ (below_step bb_ hb);clear hb hbox hg)|((with_reducible refine gate_dst (N:=3) rfl ?_);refine box_event ?hg (N:=3) ?hd (cs:=#[.int .i64 a1_0,.slice A1_1 l1_1.length c1_1]) (t:=26) ?hr ?_;(case hd=>rfl);(case hg=>rfl);(case hr=>first|(go_simp;done)|(go_simp;rfl));intro gb913 hg w44 hbox hb;have BK913:=A_ (hbox);have GW913:=A_ ((by rw [hg];exact (below_size bb_) : w.heap.size ≤ gb913));have GE913:=A_ ((by rw [hg];exact (below_size bb_) : w.heap.size ≤ gb913));replace HB:=A_ (below_step bb_ hb);have NB912_913:=A_ ((by rw [hg];exact Nat.ne_of_lt (blk_lt (bl_ BK912)) : gb912 ≠ gb913));have NB913_912:=A_ ((by rw [hg];exact Nat.ne_of_gt (blk_lt (bl_ BK912)) : gb913 ≠ gb912));replace BK912:=bz BK912 hb;clear hb hbox hg)|((with_reducible refine gate_dst (N:=4) rfl ?_);refine box_event ?hg (N:=4) ?hd (cs:=#[.int .i64 0,.slice none 0 0]) (t:=26) ?hr ?_;(case hd=>rfl);(case hg=>rfl);(case hr=>first|(go_simp;done)|(go_simp;rfl));intro gb914 hg w45 hbox hb;have BK914:=A_ (hbox);have GW914:=A_ ((by rw [hg];exact (below_size bb_) : w.heap.size ≤ gb914));have GE914:=A_ ((by rw [hg];exact (below_size bb_) : w.heap.size ≤ gb914));replace HB:=A_ (below_step bb_ hb);have NB912_914:=A_ ((by rw [hg];exact Nat.ne_of_lt (blk_lt (bl_ BK912)) : gb912 ≠ gb914));have NB914_912:=A_ ((by rw [hg];exact Nat.ne_of_gt (blk_lt (bl_ BK912)) : gb914 ≠ gb912));replace BK912:=bz BK912 hb;have NB913_914:=A_ ((by rw [hg];exact Nat.ne_of_lt (blk_lt (bl_ BK913)) : gb913 ≠ gb914));have NB914_913:=A_ ((by rw [hg];exact Nat.ne_of_gt (blk_lt (bl_ BK913)) : gb914 ≠ gb913));replace BK913:=bz BK913 hb;clear hb hbox hg;have hnb46:=NB912_913.out;have hnc46:=NB913_912.out;have hnb47:=NB912_914.out;have hnc47:=NB914_912.out;have hcz48_0 : w45.cell? ⟨gb912,0,none⟩ = some (.int .i64 a0_0):=blk_cell BK912.out 0;have hcz48_1 : w45.cell? ⟨gb912,1,none⟩ = some (.slice A0_1 l0_1.length c0_1):=blk_cell BK912.out 1;have hfz48_0:=blk_frozen BK912.out 0;have hfz48_1:=blk_frozen BK912.out 1)|((with_reducible refine gate_callee (f:=83) rfl ?_);refine goesL_ (some 7) rfl rfl Tryd.func83 (by kernel_rfl) rfl #[.agg #[.int .i64 a0_0,.slice A0_1 l0_1.length c0_1]] rfl au_ ?_;(with_reducible refine (spec_orGood.calls k a0_0 _ _ l0_1 true _ ?side1 ?side2 A3.out).mono ?_);(case side1=>exact cl_ (Kd.C_below HR0_1.out HB.out));(case side2=>exact HC0_1.out);rintro e w49 ⟨rfl,hb⟩;refine ⟨_,rfl,?_⟩;replace BK912:=bz BK912 hb;replace BK913:=bz BK913 hb;replace BK914:=bz BK914 hb;replace HB:=A_ (below_step bb_ hb);(try clear hb);(try clear hb2);(try clear hk);(try clear hi);have hnb50:=NB913_914.out;have hnc50:=NB914_913.out;have hcz51_0 : w49.cell? ⟨gb913,0,none⟩ = some (.int .i64 a1_0):=blk_cell BK913.out 0;have hcz51_1 : w49.cell? ⟨gb913,1,none⟩ = some (.slice A1_1 l1_1.length c1_1):=blk_cell BK913.out 1;have hfz51_0:=blk_frozen BK913.out 0;have hfz51_1:=blk_frozen BK913.out 1)|(go_at_call 83;(with_reducible refine (spec_orGood.calls k a1_0 _ _ l1_1 false _ ?side1 ?side2 A5.out).mono ?_);(case side1=>exact cl_ (Kd.C_below HR1_1.out HB.out));(case side2=>exact HC1_1.out);rintro e w52 ⟨rfl,hb⟩;replace BK912:=bz BK912 hb;replace BK913:=bz BK913 hb;replace BK914:=bz BK914 hb;replace HB:=A_ (below_step bb_ hb);(try clear hb);(try clear hb2);(try clear hk);(try clear hi);have hcz53_0 : w52.cell? ⟨gb914,0,none⟩ = some (.int .i64 0):=blk_cell BK914.out 0;have hcz53_1 : w52.cell? ⟨gb914,1,none⟩ = some (.slice none 0 0):=blk_cell BK914.out 1;have hfz53_0:=blk_frozen BK914.out 0;have hfz53_1:=blk_frozen BK914.out 1))
   refine bodyPost_ret (results_ct rfl _ _ gb914 26 #[.int .i64 0,.slice none 0 0] (0,0) _ rfl (by (with_reducible repeat (first|refine blk_drewN ?_ _|refine blk_drew ?_|refine blk_alloc ?_ _));refine blk_put (cs:=#[.int .i64 0,.slice none 0 0]) ?_ 1 _ rfl;(with_reducible repeat (first|refine blk_drewN ?_ _|refine blk_drew ?_|refine blk_alloc ?_ _));refine blk_put (cs:=#[.int .i64 0,.slice none 0 0]) ?_ 0 _ rfl;(with_reducible repeat (first|refine blk_drewN ?_ _|refine blk_drew ?_|refine blk_alloc ?_ _));exact BK914.out) Tryd.underlying26 rfl (by kernel_rfl)) rfl ?_
   exact ⟨_,by first|rfl|(simp [errW_none,errW_some] <;> rfl)|(simp [*,errW_none,errW_some] <;> rfl),by first|exact Kd.R_nil _ _ _ _ _|exact Kd.N_nil _ _ _ _ _|exact Kd.V_nil _ _ _ _ _|exact Kd.Q_nil _ _ _ _ _|exact Kd.S_nil _ _ _ _ _,bb_⟩
 ·replace c4:=Bool.eq_false_iff.mpr c4;subst c4;have H1 : (some (0,([] : List Int),false)) = some (r1,r2,r3):=by rw [if_neg (show ¬ (false = true) by decide)] at H;exact H
  clear H;have H:=H1;clear H1;simp only [Option.some.injEq,Prod.mk.injEq] at H
  obtain ⟨rfl,rfl,rfl⟩:=H;go_enter Tryd.func46,Tryd.ntmps46
  go_wp2_with (first|((with_reducible refine gate_dst (N:=2) rfl ?_);refine box_event ?hg (N:=2) ?hd (cs:=#[.int .i64 a0_0,.slice A0_1 l0_1.length c0_1]) (t:=26) ?hr ?_;(case hd=>rfl);(case hg=>rfl);(case hr=>first|(go_simp;done)|(go_simp;rfl));intro gb912 hg w54 hbox hb;have BK912:=A_ (hbox);have GW912:=A_ ((by rw [hg];exact (below_size bb_) : w.heap.size ≤ gb912));have GE912:=A_ ((by rw [hg];exact (below_size bb_) : w.heap.size ≤ gb912));replace HB:=A_ (below_step bb_ hb);clear hb hbox hg)|((with_reducible refine gate_dst (N:=3) rfl ?_);refine box_event ?hg (N:=3) ?hd (cs:=#[.int .i64 a1_0,.slice A1_1 l1_1.length c1_1]) (t:=26) ?hr ?_;(case hd=>rfl);(case hg=>rfl);(case hr=>first|(go_simp;done)|(go_simp;rfl));intro gb913 hg w55 hbox hb;have BK913:=A_ (hbox);have GW913:=A_ ((by rw [hg];exact (below_size bb_) : w.heap.size ≤ gb913));have GE913:=A_ ((by rw [hg];exact (below_size bb_) : w.heap.size ≤ gb913));replace HB:=A_ (below_step bb_ hb);have NB912_913:=A_ ((by rw [hg];exact Nat.ne_of_lt (blk_lt (bl_ BK912)) : gb912 ≠ gb913));have NB913_912:=A_ ((by rw [hg];exact Nat.ne_of_gt (blk_lt (bl_ BK912)) : gb913 ≠ gb912));replace BK912:=bz BK912 hb;clear hb hbox hg)|((with_reducible refine gate_dst (N:=4) rfl ?_);refine box_event ?hg (N:=4) ?hd (cs:=#[.int .i64 0,.slice none 0 0]) (t:=26) ?hr ?_;(case hd=>rfl);(case hg=>rfl);(case hr=>first|(go_simp;done)|(go_simp;rfl));intro gb914 hg w56 hbox hb;have BK914:=A_ (hbox);have GW914:=A_ ((by rw [hg];exact (below_size bb_) : w.heap.size ≤ gb914));have GE914:=A_ ((by rw [hg];exact (below_size bb_) : w.heap.size ≤ gb914));replace HB:=A_ (below_step bb_ hb);have NB912_914:=A_ ((by rw [hg];exact Nat.ne_of_lt (blk_lt (bl_ BK912)) : gb912 ≠ gb914));have NB914_912:=A_ ((by rw [hg];exact Nat.ne_of_gt (blk_lt (bl_ BK912)) : gb914 ≠ gb912));replace BK912:=bz BK912 hb;have NB913_914:=A_ ((by rw [hg];exact Nat.ne_of_lt (blk_lt (bl_ BK913)) : gb913 ≠ gb914));have NB914_913:=A_ ((by rw [hg];exact Nat.ne_of_gt (blk_lt (bl_ BK913)) : gb914 ≠ gb913));replace BK913:=bz BK913 hb;clear hb hbox hg;have hnb57:=NB912_913.out;have hnc57:=NB913_912.out;have hnb58:=NB912_914.out;have hnc58:=NB914_912.out;have hcz59_0 : w56.cell? ⟨gb912,0,none⟩ = some (.int .i64 a0_0):=blk_cell BK912.out 0;have hcz59_1 : w56.cell? ⟨gb912,1,none⟩ = some (.slice A0_1 l0_1.length c0_1):=blk_cell BK912.out 1;have hfz59_0:=blk_frozen BK912.out 0;have hfz59_1:=blk_frozen BK912.out 1)|((with_reducible refine gate_callee (f:=83) rfl ?_);refine goesL_ (some 7) rfl rfl Tryd.func83 (by kernel_rfl) rfl #[.agg #[.int .i64 a0_0,.slice A0_1 l0_1.length c0_1]] rfl au_ ?_;(with_reducible refine (spec_orGood.calls k a0_0 _ _ l0_1 false _ ?side1 ?side2 A3.out).mono ?_);(case side1=>exact cl_ (Kd.C_below HR0_1.out HB.out));(case side2=>exact HC0_1.out);rintro e w60 ⟨rfl,hb⟩;refine ⟨_,rfl,?_⟩;replace BK912:=bz BK912 hb;replace BK913:=bz BK913 hb;replace BK914:=bz BK914 hb;replace HB:=A_ (below_step bb_ hb);(try clear hb);(try clear hb2);(try clear hk);(try clear hi);have hnb61:=NB914_913.out;have hnc61:=NB913_914.out;have hcz62_0 : w60.cell? ⟨gb914,0,none⟩ = some (.int .i64 0):=blk_cell BK914.out 0;have hcz62_1 : w60.cell? ⟨gb914,1,none⟩ = some (.slice none 0 0):=blk_cell BK914.out 1;have hfz62_0:=blk_frozen BK914.out 0;have hfz62_1:=blk_frozen BK914.out 1))
  refine bodyPost_ret (results_ct rfl _ _ gb914 26 #[.int .i64 0,.slice none 0 0] (0,0) _ rfl (by (with_reducible repeat (first|refine blk_drewN ?_ _|refine blk_drew ?_|refine blk_alloc ?_ _));refine blk_put (cs:=#[.int .i64 0,.slice none 0 0]) ?_ 1 _ rfl;(with_reducible repeat (first|refine blk_drewN ?_ _|refine blk_drew ?_|refine blk_alloc ?_ _));refine blk_put (cs:=#[.int .i64 0,.slice none 0 0]) ?_ 0 _ rfl;(with_reducible repeat (first|refine blk_drewN ?_ _|refine blk_drew ?_|refine blk_alloc ?_ _));exact BK914.out) Tryd.underlying26 rfl (by kernel_rfl)) rfl ?_
  exact ⟨_,by first|rfl|(simp [errW_none,errW_some] <;> rfl)|(simp [*,errW_none,errW_some] <;> rfl),by first|exact Kd.R_nil _ _ _ _ _|exact Kd.N_nil _ _ _ _ _|exact Kd.V_nil _ _ _ _ _|exact Kd.Q_nil _ _ _ _ _|exact Kd.S_nil _ _ _ _ _,bb_⟩
def impl_Order_mirror_1.f (a0 : Int) (a1 : Int) (a2_0 : Int) (l2_1 : List Int) : Option (Bool) := (impl_Order_better.f a2_0 l2_1 a1 a0).bind fun t367 => (some t367)
set_option maxHeartbeats 8000000 in
set_option maxRecDepth 100000 in
theorem impl_Order_mirror_1.calls (a0 : Int) (a1 : Int) (g2_ : Nat) (a2_0 : Int) (A2_1 : Option Addr) (c2_1 : Nat) (l2_1 : List Int) (r : Bool) (w : World) (hb2 : w.heap[g2_]? = some (.cells #[.int .i64 a2_0,.slice A2_1 l2_1.length c2_1] 26 (0,0))) (hr2_1 : Kd.C (Kd.int .i64) w A2_1 l2_1.length l2_1) (hc2_1 : l2_1.length ≤ c2_1) (h : impl_Order_mirror_1.f a0 a1 a2_0 l2_1 = some r) :
 Calls Tryd.prog 155 #[.int .i64 a0,.int .i64 a1,.pointer (some ⟨g2_,0,none⟩)] w fun e w'=>e = .returned (.bool r) ∧ Below w.heap.size w w':=by
 have hu26:=Tryd.underlying26;have HR2_1:=A_ hr2_1;have HC2_1:=A_ hc2_1;clear hr2_1 hc2_1;have BK366:=A_ hb2;clear hb2;have HB:=A_ (Below.refl w.heap.size w);have H : ((impl_Order_better.f a2_0 l2_1 a1 a0).bind fun t367=>(some t367)) = some r:=h;clear h;replace H:=Option.bind_eq_some_iff.mp H;obtain ⟨t367,A40,H⟩:=H;replace H : (some t367) = some r:=H;have A4:=A_ A40;clear A40;obtain rfl:=Option.some.inj H;have hcz5_0 : w.cell? ⟨g2_,0,none⟩ = some (.int .i64 a2_0):=blk_cell BK366.out 0;have hcz5_1 : w.cell? ⟨g2_,1,none⟩ = some (.slice A2_1 l2_1.length c2_1):=blk_cell BK366.out 1;have hfz5_0:=blk_frozen BK366.out 0;have hfz5_1:=blk_frozen BK366.out 1;go_enter Tryd.func155,Tryd.ntmps155
 go_wp2_with (first|((with_reducible refine gate_callee (f:=87) rfl ?_);refine goesL_ (some 9) rfl rfl Tryd.func87 (by kernel_rfl) rfl #[.agg #[.int .i64 a2_0,.slice A2_1 l2_1.length c2_1],.int .i64 a1,.int .i64 a0] rfl au_ ?_;(with_reducible refine (impl_Order_better.calls a2_0 _ _ l2_1 a1 a0 t367 _ ?side1 ?side2 A4.out).mono ?_);(case side1=>repeat (first|exact HR2_1.out|(with_reducible refine Kd.C_alloc ?_ _)|(with_reducible refine Kd.C_drewN ?_ _)|(with_reducible refine Kd.C_drew ?_)));(case side2=>exact HC2_1.out);rintro e w6 ⟨rfl,hb⟩;refine ⟨_,rfl,?_⟩;replace BK366:=bz BK366 hb;replace HB:=A_ (below_step bb_ hb);(try clear hb);(try clear hb2);(try clear hk);(try clear hi)))
 go_ret
 exact ⟨by first|rfl|(simp [errW_none,errW_some] <;> rfl)|(simp [*,errW_none,errW_some] <;> rfl),bb_⟩
def impl_Order_mirror.f (k : Nat) (a0_0 : Int) (l0_1 : List Int) : Option (Int × List Int) := (impl_relation.f k a0_0 (fun x0_ x1_ => impl_Order_mirror_1.f x0_ x1_ a0_0 l0_1)).bind fun bt370 => (some (bt370.1, bt370.2))
set_option maxHeartbeats 8000000 in
set_option maxRecDepth 100000 in
theorem impl_Order_mirror.calls (k : Nat) (a0_0 : Int) (A0_1 : Option Addr) (c0_1 : Nat) (l0_1 : List Int) (r1 : Int) (r2 : List Int) (w : World) (hr0_1 : Kd.C (Kd.int .i64) w A0_1 l0_1.length l0_1) (hc0_1 : l0_1.length ≤ c0_1) (h : impl_Order_mirror.f k a0_0 l0_1 = some (r1,r2)) :
 Calls Tryd.prog 103 #[.agg #[.int .i64 a0_0,.slice A0_1 l0_1.length c0_1]] w fun e w'=>∃ v1_ : Value,e = .returned (.agg #[.int .i64 r1,v1_]) ∧ Kd.R (Kd.int .i64) 3 w' w.heap.size (fun _=>True) v1_ r2 ∧ Below w.heap.size w w':=by
 have hu26:=Tryd.underlying26;have HR0_1:=A_ hr0_1;have HC0_1:=A_ hc0_1;clear hr0_1 hc0_1;have HB:=A_ (Below.refl w.heap.size w);have H : ((impl_relation.f k a0_0 (fun x0_ x1_=>impl_Order_mirror_1.f x0_ x1_ a0_0 l0_1)).bind fun bt370=>(some (bt370.1,bt370.2))) = some (r1,r2):=h;clear h;replace H:=Option.bind_eq_some_iff.mp H;obtain ⟨⟨t370,t371⟩,A20,H⟩:=H;replace H : (some (t370,t371)) = some (r1,r2):=H;have A2:=A_ A20;clear A20;simp only [Option.some.injEq,Prod.mk.injEq] at H
 obtain ⟨rfl,rfl⟩:=H;go_enter Tryd.func103,Tryd.ntmps103
 go_wp2_with (first|((with_reducible refine gate_dst (N:=1) rfl ?_);refine box_event ?hg (N:=1) ?hd (cs:=#[.int .i64 a0_0,.slice A0_1 l0_1.length c0_1]) (t:=26) ?hr ?_;(case hd=>rfl);(case hg=>rfl);(case hr=>first|(go_simp;done)|(go_simp;rfl));intro gb368 hg w3 hbox hb;have BK368:=A_ (hbox);have GW368:=A_ ((by rw [hg];exact (below_size bb_) : w.heap.size ≤ gb368));have GE368:=A_ ((by rw [hg];exact (below_size bb_) : w.heap.size ≤ gb368));replace HB:=A_ (below_step bb_ hb);clear hb hbox hg)|((with_reducible refine gate_dst (N:=2) rfl ?_);refine box_event ?hg (N:=2) ?hd (cs:=#[.int .i64 0,.slice none 0 0]) (t:=26) ?hr ?_;(case hd=>rfl);(case hg=>rfl);(case hr=>first|(go_simp;done)|(go_simp;rfl));intro gb369 hg w4 hbox hb;have BK369:=A_ (hbox);have GW369:=A_ ((by rw [hg];exact (below_size bb_) : w.heap.size ≤ gb369));have GE369:=A_ ((by rw [hg];exact (below_size bb_) : w.heap.size ≤ gb369));replace HB:=A_ (below_step bb_ hb);have NB368_369:=A_ ((by rw [hg];exact Nat.ne_of_lt (blk_lt (bl_ BK368)) : gb368 ≠ gb369));have NB369_368:=A_ ((by rw [hg];exact Nat.ne_of_gt (blk_lt (bl_ BK368)) : gb369 ≠ gb368));replace BK368:=bz BK368 hb;clear hb hbox hg;have hnb5:=NB368_369.out;have hnc5:=NB369_368.out;have hcz6_0 : w4.cell? ⟨gb368,0,none⟩ = some (.int .i64 a0_0):=blk_cell BK368.out 0;have hcz6_1 : w4.cell? ⟨gb368,1,none⟩ = some (.slice A0_1 l0_1.length c0_1):=blk_cell BK368.out 1;have hfz6_0:=blk_frozen BK368.out 0;have hfz6_1:=blk_frozen BK368.out 1)|((with_reducible refine gate_callee (f:=85) rfl ?_);refine goesL_ (some 6) rfl rfl Tryd.func85 (by kernel_rfl) rfl #[.int .i64 a0_0,.func (.func 155) #[] #[.pointer (some ⟨gb368,0,none⟩)]] rfl au_ ?_;(with_reducible refine (impl_relation.calls k a0_0 (fun x0_ x1_=>impl_Order_mirror_1.f x0_ x1_ a0_0 l0_1) t370 t371 _ _ _ ?side1 ?side2 A2.out).mono ?_);(case side1=>exact fun a_ w_=>enters_of Tryd.func155 (by kernel_rfl) rfl a_ w_);(case side2=>(intro W_ x0_ x1_ r_ hB_ h_;refine Calls.mono (impl_Order_mirror_1.calls x0_ x1_ gb368 a0_0 _ _ l0_1 r_ W_ (blk_below (g:=gb368) (o:=.cells #[.int .i64 a0_0,.slice A0_1 l0_1.length c0_1] 26 (0,0)) (bl_ BK368) hB_) (Kd.C_below (by exact cl_ (Kd.C_below HR0_1.out HB.out)) hB_) (by exact HC0_1.out) h_) ?_;rintro e_ w_ ⟨h1_,h2_⟩;exact ⟨h1_,h2_⟩));rintro e w7 ⟨v372,rfl,ho0,hb⟩;refine ⟨_,rfl,?_⟩;have HO373:=A_ (Kd.R_lower ho0 (below_size bb_));replace BK368:=bz BK368 hb;replace BK369:=bz BK369 hb;replace HB:=A_ (below_step bb_ hb);(try clear hb);(try clear hb2);(try clear hk);(try clear hi);(try clear ho0);have hcz8_0 : w7.cell? ⟨gb369,0,none⟩ = some (.int .i64 0):=blk_cell BK369.out 0;have hcz8_1 : w7.cell? ⟨gb369,1,none⟩ = some (.slice none 0 0):=blk_cell BK369.out 1;have hfz8_0:=blk_frozen BK369.out 0;have hfz8_1:=blk_frozen BK369.out 1;obtain ⟨Ao9,co9,eo9⟩:=Kd.R_slice HO373.out;subst eo9))
 refine bodyPost_ret (results_cell_row rfl _ _ gb369 26 #[.int .i64 t370,.slice Ao9 t371.length co9] (0,0) _ rfl (by (with_reducible repeat (first|refine blk_drewN ?_ _|refine blk_drew ?_|refine blk_alloc ?_ _));refine blk_put (cs:=#[.int .i64 t370,.slice none 0 0]) ?_ 1 _ rfl;(with_reducible repeat (first|refine blk_drewN ?_ _|refine blk_drew ?_|refine blk_alloc ?_ _));refine blk_put (cs:=#[.int .i64 0,.slice none 0 0]) ?_ 0 _ rfl;(with_reducible repeat (first|refine blk_drewN ?_ _|refine blk_drew ?_|refine blk_alloc ?_ _));exact BK369.out) Tryd.underlying26 rfl (by kernel_rfl)) rfl ?_
 exact ⟨_,by first|rfl|(simp [errW_none,errW_some] <;> rfl)|(simp [*,errW_none,errW_some] <;> rfl),by (with_reducible repeat (first|apply Kd.R_alloc|apply Kd.R_drewN|apply Kd.R_drew));exact Kd.R_mono (Kd.R_far (p:=⟨gb369,1,none⟩) (Kd.R_far (p:=⟨gb369,0,none⟩) (Kd.R_types HO373.out BK369.out (by decide)) (fun _ hk=>hk.2) (.int .i64 t370)) (fun _ hk=>hk.2) (.slice Ao9 t371.length co9)) (fun _ hk=>trivial),bb_⟩
def impl_Order_all.f (a0_0 : Int) (l0_1 : List Int) : Option (Int) := if 0 ≤ a0_0 then (some (wrap64 ((shl .i64 1 a0_0) - 1))) else (none)
set_option maxHeartbeats 8000000 in
set_option maxRecDepth 100000 in
theorem impl_Order_all.calls (a0_0 : Int) (A0_1 : Option Addr) (c0_1 : Nat) (l0_1 : List Int) (r : Int) (w : World) (hr0_1 : Kd.C (Kd.int .i64) w A0_1 l0_1.length l0_1) (hc0_1 : l0_1.length ≤ c0_1) (h : impl_Order_all.f a0_0 l0_1 = some r) :
 Calls Tryd.prog 118 #[.agg #[.int .i64 a0_0,.slice A0_1 l0_1.length c0_1]] w fun e w'=>e = .returned (.int .i64 r) ∧ Below w.heap.size w w':=by
 have hu26:=Tryd.underlying26;have HR0_1:=A_ hr0_1;have HC0_1:=A_ hc0_1;clear hr0_1 hc0_1;have HB:=A_ (Below.refl w.heap.size w);have H : (if 0 ≤ a0_0 then (some (wrap64 ((shl .i64 1 a0_0) - 1))) else (none)) = some r:=h;clear h;by_cases c2 : 0 ≤ a0_0
 ·rw [if_pos c2] at H;have c2b0:=eq_true c2;have c2b1 : decide (0 ≤ a0_0) = true:=decide_eq_true c2;clear c2;obtain ⟨ji3,hji3⟩ : ∃ j_ : Int,(shl .i64 1 a0_0) = j_:=⟨_,rfl⟩;replace H : (some (wrap64 ((ji3) - 1))) = some r:=by first|(rw [hji3] at H;exact H)|(simp only [hji3] at H ⊢;exact H)
  have hji3_ : (IntKind.i64.wrap (1 * 2 ^ min a0_0.toNat 64)) = ji3:=hji3;have hji3z : a0_0 ≤ 64 → (IntKind.i64.wrap (1 * 2 ^ a0_0.toNat)) = ji3:=shl_small hji3;have hji3u : (IntKind.i64.wrap (2 ^ min a0_0.toNat 64)) = ji3:=by have h_:=hji3_;rw [Int.one_mul] at h_;exact h_
  have hji3v : a0_0 ≤ 64 → (IntKind.i64.wrap (2 ^ a0_0.toNat)) = ji3:=fun hle_=>by have h_:=hji3z hle_;rw [Int.one_mul] at h_;exact h_
  have hji3y : (wrap64 (1 * 2 ^ min a0_0.toNat 64)) = ji3:=(i64_w _).symm.trans hji3_;have hji3x : a0_0 ≤ 64 → (wrap64 (1 * 2 ^ a0_0.toNat)) = ji3:=fun h_=>(i64_w _).symm.trans (hji3z h_)
  obtain rfl:=Option.some.inj H;go_enter Tryd.func118,Tryd.ntmps118
  go_wp2_with (first|((with_reducible refine gate_dst (N:=1) rfl ?_);refine box_event ?hg (N:=1) ?hd (cs:=#[.int .i64 a0_0,.slice A0_1 l0_1.length c0_1]) (t:=26) ?hr ?_;(case hd=>rfl);(case hg=>rfl);(case hr=>first|(go_simp;done)|(go_simp;rfl));intro gb374 hg w4 hbox hb;have BK374:=A_ (hbox);have GW374:=A_ ((by rw [hg];exact (below_size bb_) : w.heap.size ≤ gb374));have GE374:=A_ ((by rw [hg];exact (below_size bb_) : w.heap.size ≤ gb374));replace HB:=A_ (below_step bb_ hb);clear hb hbox hg;have hcz5_0 : w4.cell? ⟨gb374,0,none⟩ = some (.int .i64 a0_0):=blk_cell BK374.out 0;have hcz5_1 : w4.cell? ⟨gb374,1,none⟩ = some (.slice A0_1 l0_1.length c0_1):=blk_cell BK374.out 1;have hfz5_0:=blk_frozen BK374.out 0;have hfz5_1:=blk_frozen BK374.out 1))
  go_ret
  exact ⟨by first|rfl|(simp [errW_none,errW_some] <;> rfl)|(simp only [← hji3];first|rfl|(simp [errW_none,errW_some] <;> rfl))|(simp [*,errW_none,errW_some] <;> rfl),bb_⟩
 ·rw [if_neg c2] at H;exact absurd H (by simp)
mutual
def impl_CountExtensions.l0 : Nat → List Int → Int → Int → Int → List Int → Int → List Int → Option (Int × Bool)
 | 0,_,_,_,_,_,_,_=>none
 | k + 1,x5,x20,x21,x922000,x922001,x928000,x928001=>if x21 < x20 then (impl_CountExtensions.l1 k x5 x21 x20 x21 x922000 0 x922000 x922001 x928000 x928001) else ((impl_Order_all.f x922000 x922001).bind fun t932=>(if 0 ≤ t932 then (if t932 < (x5.length : Int) then (some (rd x5 t932,true)) else (none)) else (none)))
def impl_CountExtensions.l1 : Nat → List Int → Int → Int → Int → Int → Int → Int → List Int → Int → List Int → Option (Int × Bool)
 | 0,_,_,_,_,_,_,_,_,_,_=>none
 | k + 1,x5,x6,x20,x21,x25,x26,x922000,x922001,x928000,x928001=>if x26 < x25 then (if 0 ≤ x26 then (if (Go.bits .and .i64 (shr .i64 x6 x26) 1) = 0 then (if x26 < (x928001.length : Int) then (if (Go.bits .andNot .i64 (rd x928001 x26) x6) = 0 then (if 0 ≤ (Go.bits .or .i64 x6 (shl .i64 1 x26)) then (if (Go.bits .or .i64 x6 (shl .i64 1 x26)) < (x5.length : Int) then (if 0 ≤ x6 then (if x6 < (x5.length : Int) then (impl_CountExtensions.l1 k (x5.set ((Go.bits .or .i64 x6 (shl .i64 1 x26)) : Int).toNat (wrap64 ((rd x5 (Go.bits .or .i64 x6 (shl .i64 1 x26))) + (rd x5 x6)))) x6 x20 x21 x25 (wrap64 (x26 + 1)) x922000 x922001 x928000 x928001) else (none)) else (none)) else (none)) else (none)) else (impl_CountExtensions.l1 k x5 x6 x20 x21 x25 (wrap64 (x26 + 1)) x922000 x922001 x928000 x928001)) else (none)) else (impl_CountExtensions.l1 k x5 x6 x20 x21 x25 (wrap64 (x26 + 1)) x922000 x922001 x928000 x928001)) else (none)) else (impl_CountExtensions.l0 k x5 x20 (wrap64 (x21 + 1)) x922000 x922001 x928000 x928001)
end
def impl_CountExtensions.f (k : Nat) (a0_0 : Int) (l0_1 : List Int) : Option (Int × Bool) := (impl_IsOrder.f k a0_0 l0_1).bind fun t922 => (if t922 = true then ((impl_Order_mirror.f k a0_0 l0_1).bind fun bt923 => (if 0 ≤ a0_0 then (if 0 ≤ (shl .i64 1 a0_0) then (if (shl .i64 1 a0_0 : Int).toNat ≤ 35184372088832 then ((some (List.replicate (shl .i64 1 a0_0 : Int).toNat 0 : List Int)).bind fun y928 => (if 0 < (y928.length : Int) then (impl_CountExtensions.l0 k (y928.set (0 : Int).toNat 1) (y928.length : Int) 0 a0_0 l0_1 bt923.1 bt923.2) else (none))) else (none)) else (none)) else (none))) else (some (0, false)))
def impl_CountExtensions.T13 : Bool × List (List Nat × List Nat) := (true, [([], []), ([], []), ([], []), ([2], [2]), ([1, 3], [1, 3]), ([0, 4], [0, 4]), ([5], [5]), ([], []), ([], []), ([7, 8], [7, 8]), ([9], [9]), ([6, 10], [6, 10]), ([0, 4, 0, 1, 2, 3, 4, 5, 6, 7, 8, 9, 10, 11], [0, 4]), ([12, 11, 0, 1, 2, 3, 4, 5, 6, 7, 8, 9, 10, 11], [11, 12])])
def impl_CountExtensions.B13 : List Nat := [0, 0, 0, 4, 14, 31, 63, 0, 0, 384, 896, 2047, 4095, 8191]
theorem impl_CountExtensions.tab13 : rtab .any (opsOf Tryd.f47 13) = impl_CountExtensions.T13:=by kernel_rfl
theorem impl_CountExtensions.bits13 : waitsOk impl_CountExtensions.T13.2 impl_CountExtensions.B13 = true:=by kernel_rfl
set_option maxHeartbeats 8000000 in
set_option maxRecDepth 100000 in
theorem impl_CountExtensions.calls (k : Nat) (a0_0 : Int) (A0_1 : Option Addr) (c0_1 : Nat) (l0_1 : List Int) (r1 : Int) (r2 : Bool) (w : World) (hr0_1 : Kd.C (Kd.int .i64) w A0_1 l0_1.length l0_1) (hc0_1 : l0_1.length ≤ c0_1) (hT : TabOK w) (h : impl_CountExtensions.f k a0_0 l0_1 = some (r1,r2)) :
 Calls Tryd.prog 47 #[.agg #[.int .i64 a0_0,.slice A0_1 l0_1.length c0_1]] w fun e w'=>e = .returned (.tuple #[.int .i64 r1,.bool r2]) ∧ Below w.heap.size w w':=by
 have hu26:=Tryd.underlying26;have HT:=A_ hT;clear hT;have HR0_1:=A_ hr0_1;have HC0_1:=A_ hc0_1;clear hr0_1 hc0_1;have HB:=A_ (Below.refl w.heap.size w);have H : ((impl_IsOrder.f k a0_0 l0_1).bind fun t922=>(if t922 = true then ((impl_Order_mirror.f k a0_0 l0_1).bind fun bt923=>(if 0 ≤ a0_0 then (if 0 ≤ (shl .i64 1 a0_0) then (if (shl .i64 1 a0_0 : Int).toNat ≤ 35184372088832 then ((some (List.replicate (shl .i64 1 a0_0 : Int).toNat 0 : List Int)).bind fun y928=>(if 0 < (y928.length : Int) then (impl_CountExtensions.l0 k (y928.set (0 : Int).toNat 1) (y928.length : Int) 0 a0_0 l0_1 bt923.1 bt923.2) else (none))) else (none)) else (none)) else (none))) else (some (0,false)))) = some (r1,r2):=h;clear h;replace H:=Option.bind_eq_some_iff.mp H;obtain ⟨t922,A20,H⟩:=H;replace H : (if t922 = true then ((impl_Order_mirror.f k a0_0 l0_1).bind fun bt923=>(if 0 ≤ a0_0 then (if 0 ≤ (shl .i64 1 a0_0) then (if (shl .i64 1 a0_0 : Int).toNat ≤ 35184372088832 then ((some (List.replicate (shl .i64 1 a0_0 : Int).toNat 0 : List Int)).bind fun y928=>(if 0 < (y928.length : Int) then (impl_CountExtensions.l0 k (y928.set (0 : Int).toNat 1) (y928.length : Int) 0 a0_0 l0_1 bt923.1 bt923.2) else (none))) else (none)) else (none)) else (none))) else (some (0,false))) = some (r1,r2):=H;have A2:=A_ A20;clear A20;by_cases c3 : t922 = true
 ·subst c3;have H1 : ((impl_Order_mirror.f k a0_0 l0_1).bind fun bt923=>(if 0 ≤ a0_0 then (if 0 ≤ (shl .i64 1 a0_0) then (if (shl .i64 1 a0_0 : Int).toNat ≤ 35184372088832 then ((some (List.replicate (shl .i64 1 a0_0 : Int).toNat 0 : List Int)).bind fun y928=>(if 0 < (y928.length : Int) then (impl_CountExtensions.l0 k (y928.set (0 : Int).toNat 1) (y928.length : Int) 0 a0_0 l0_1 bt923.1 bt923.2) else (none))) else (none)) else (none)) else (none))) = some (r1,r2):=by rw [if_pos rfl] at H;exact H
  clear H;have H:=H1;clear H1;replace H:=Option.bind_eq_some_iff.mp H;obtain ⟨⟨t923,t924⟩,A40,H⟩:=H;replace H : (if 0 ≤ a0_0 then (if 0 ≤ (shl .i64 1 a0_0) then (if (shl .i64 1 a0_0 : Int).toNat ≤ 35184372088832 then ((some (List.replicate (shl .i64 1 a0_0 : Int).toNat 0 : List Int)).bind fun y928=>(if 0 < (y928.length : Int) then (impl_CountExtensions.l0 k (y928.set (0 : Int).toNat 1) (y928.length : Int) 0 a0_0 l0_1 t923 t924) else (none))) else (none)) else (none)) else (none)) = some (r1,r2):=H;have A4:=A_ A40;clear A40;by_cases c5 : 0 ≤ a0_0
  ·rw [if_pos c5] at H;have c5b0:=eq_true c5;have c5b1 : decide (0 ≤ a0_0) = true:=decide_eq_true c5;clear c5;obtain ⟨ji6,hji6⟩ : ∃ j_ : Int,(shl .i64 1 a0_0) = j_:=⟨_,rfl⟩;replace H : (if 0 ≤ (ji6) then (if (ji6 : Int).toNat ≤ 35184372088832 then ((some (List.replicate (ji6 : Int).toNat 0 : List Int)).bind fun y928=>(if 0 < (y928.length : Int) then (impl_CountExtensions.l0 k (y928.set (0 : Int).toNat 1) (y928.length : Int) 0 a0_0 l0_1 t923 t924) else (none))) else (none)) else (none)) = some (r1,r2):=by first|(rw [hji6] at H;exact H)|(simp only [hji6] at H ⊢;exact H)
   (try rw [hji6] at A2);(try rw [hji6] at A4);have hji6_ : (IntKind.i64.wrap (1 * 2 ^ min a0_0.toNat 64)) = ji6:=hji6;have hji6z : a0_0 ≤ 64 → (IntKind.i64.wrap (1 * 2 ^ a0_0.toNat)) = ji6:=shl_small hji6;have hji6u : (IntKind.i64.wrap (2 ^ min a0_0.toNat 64)) = ji6:=by have h_:=hji6_;rw [Int.one_mul] at h_;exact h_
   have hji6v : a0_0 ≤ 64 → (IntKind.i64.wrap (2 ^ a0_0.toNat)) = ji6:=fun hle_=>by have h_:=hji6z hle_;rw [Int.one_mul] at h_;exact h_
   have hji6y : (wrap64 (1 * 2 ^ min a0_0.toNat 64)) = ji6:=(i64_w _).symm.trans hji6_;have hji6x : a0_0 ≤ 64 → (wrap64 (1 * 2 ^ a0_0.toNat)) = ji6:=fun h_=>(i64_w _).symm.trans (hji6z h_)
   by_cases c7 : 0 ≤ (ji6)
   ·rw [if_pos c7] at H;have c7b0:=eq_true c7;have c7b1 : decide (0 ≤ (ji6)) = true:=decide_eq_true c7;clear c7;by_cases c8 : (ji6 : Int).toNat ≤ 35184372088832
    ·rw [if_pos c8] at H;have c8b0:=eq_true c8;have c8b1 : decide ((ji6 : Int).toNat ≤ 35184372088832) = true:=decide_eq_true c8;clear c8;obtain ⟨y928,hy928⟩ : ∃ y_ : List Int,y_ = (List.replicate (ji6 : Int).toNat 0):=⟨_,rfl⟩;replace H : (if 0 < (y928.length : Int) then (impl_CountExtensions.l0 k (y928.set (0 : Int).toNat 1) (y928.length : Int) 0 a0_0 l0_1 t923 t924) else (none)) = some (r1,r2):=by first|(rw [hy928];with_reducible exact H)|(have H2_:=(Option.bind_some _ _).symm.trans H;rw [hy928];with_reducible exact H2_)|(have H2_:=(Option.bind_some _ _).symm.trans H;with_reducible exact H2_)|with_reducible exact H|(rw [hy928];exact H)|exact H
     have Ny928:=A_ hy928;clear hy928;by_cases c9 : 0 < (y928.length : Int)
     ·rw [if_pos c9] at H;have c9b0 : decide (0 < (y928.length : Int)) = true:=decide_eq_true c9;have c9b1 : decide (0 < y928.length) = true:=decide_eq_true (by omega);clear c9;obtain ⟨y931,hy931⟩ : ∃ y_ : List Int,y_ = (y928.set (0 : Int).toNat 1):=⟨_,rfl⟩;replace H : (impl_CountExtensions.l0 k y931 (y928.length : Int) 0 a0_0 l0_1 t923 t924) = some (r1,r2):=by first|(rw [hy931];with_reducible exact H)|(have H2_:=(Option.bind_some _ _).symm.trans H;rw [hy931];with_reducible exact H2_)|(have H2_:=(Option.bind_some _ _).symm.trans H;with_reducible exact H2_)|with_reducible exact H|(rw [hy931];exact H)|exact H
      have Ny931:=A_ hy931;clear hy931;have H':=A_ H;clear H;go_enter Tryd.func47,Tryd.ntmps47
      go_wp2_with (first|((with_reducible refine gate_dst (N:=1) rfl ?_);refine box_event ?hg (N:=1) ?hd (cs:=#[.int .i64 a0_0,.slice A0_1 l0_1.length c0_1]) (t:=26) ?hr ?_;(case hd=>rfl);(case hg=>rfl);(case hr=>first|(go_simp;done)|(go_simp;rfl));intro gb921 hg w11 hbox hb;have BK921:=A_ (hbox);have GW921:=A_ ((by rw [hg];exact (below_size bb_) : w.heap.size ≤ gb921));have GE921:=A_ ((by rw [hg];exact (below_size bb_) : w.heap.size ≤ gb921));replace HB:=A_ (below_step bb_ hb);clear hb hbox hg;have hcz12_0 : w11.cell? ⟨gb921,0,none⟩ = some (.int .i64 a0_0):=blk_cell BK921.out 0;have hcz12_1 : w11.cell? ⟨gb921,1,none⟩ = some (.slice A0_1 l0_1.length c0_1):=blk_cell BK921.out 1;have hfz12_0:=blk_frozen BK921.out 0;have hfz12_1:=blk_frozen BK921.out 1)|((with_reducible refine gate_callee (f:=32) rfl ?_);refine goesL_ (some 9) rfl rfl Tryd.func32 (by kernel_rfl) rfl #[.agg #[.int .i64 a0_0,.slice A0_1 l0_1.length c0_1]] rfl au_ ?_;(with_reducible refine (impl_IsOrder.calls k a0_0 _ _ l0_1 true _ ?side1 ?side2 ?side3 A2.out).mono ?_);(case side1=>exact cl_ (Kd.C_below HR0_1.out HB.out));(case side2=>exact HC0_1.out);(case side3=>first|exact HT.out|exact HT.out.below bb_|(repeat (first|exact HT.out|apply TabOK.drewN|apply TabOK.drew|apply TabOK.alloc)));rintro e w13 ⟨rfl,hb⟩;refine ⟨_,rfl,?_⟩;replace BK921:=bz BK921 hb;replace HB:=A_ (below_step bb_ hb);(try clear hb);(try clear hb2);(try clear hk);(try clear hi);have hcz14_0 : w13.cell? ⟨gb921,0,none⟩ = some (.int .i64 a0_0):=blk_cell BK921.out 0;have hcz14_1 : w13.cell? ⟨gb921,1,none⟩ = some (.slice A0_1 l0_1.length c0_1):=blk_cell BK921.out 1;have hfz14_0:=blk_frozen BK921.out 0;have hfz14_1:=blk_frozen BK921.out 1)|((with_reducible refine gate_callee (f:=103) rfl ?_);refine goesL_ (some 12) rfl rfl Tryd.func103 (by kernel_rfl) rfl #[.agg #[.int .i64 a0_0,.slice A0_1 l0_1.length c0_1]] rfl au_ ?_;(with_reducible refine (impl_Order_mirror.calls k a0_0 _ _ l0_1 t923 t924 _ ?side1 ?side2 A4.out).mono ?_);(case side1=>exact cl_ (Kd.C_below HR0_1.out HB.out));(case side2=>exact HC0_1.out);rintro e w15 ⟨v925,rfl,ho0,hb⟩;refine ⟨_,rfl,?_⟩;have HO926:=A_ (Kd.R_lower ho0 (below_size bb_));replace BK921:=bz BK921 hb;replace HB:=A_ (below_step bb_ hb);(try clear hb);(try clear hb2);(try clear hk);(try clear hi);(try clear ho0))|((with_reducible refine gate_dst (N:=4) rfl ?_);refine box_event ?hg (N:=4) ?hd (cs:=#[.int .i64 0,.slice none 0 0]) (t:=26) ?hr ?_;(case hd=>rfl);(case hg=>rfl);(case hr=>first|(go_simp;done)|(go_simp;rfl));intro gb927 hg w16 hbox hb;replace HO926:=rb_ HO926 hb;have BK927:=A_ (hbox);have GW927:=A_ ((by rw [hg];exact (below_size bb_) : w.heap.size ≤ gb927));have GE927:=A_ ((by rw [hg];exact (below_size bb_) : w.heap.size ≤ gb927));replace HB:=A_ (below_step bb_ hb);have NB921_927:=A_ ((by rw [hg];exact Nat.ne_of_lt (blk_lt (bl_ BK921)) : gb921 ≠ gb927));have NB927_921:=A_ ((by rw [hg];exact Nat.ne_of_gt (blk_lt (bl_ BK921)) : gb927 ≠ gb921));replace BK921:=bz BK921 hb;clear hb hbox hg;have hnb17:=NB927_921.out;have hnc17:=NB921_927.out;have hcz18_0 : w16.cell? ⟨gb927,0,none⟩ = some (.int .i64 0):=blk_cell BK927.out 0;have hcz18_1 : w16.cell? ⟨gb927,1,none⟩ = some (.slice none 0 0):=blk_cell BK927.out 1;have hfz18_0:=blk_frozen BK927.out 0;have hfz18_1:=blk_frozen BK927.out 1;obtain ⟨Ao19,co19,eo19⟩:=Kd.R_slice HO926.out;subst eo19;have hcz20_0 : w16.cell? ⟨gb921,0,none⟩ = some (.int .i64 a0_0):=blk_cell BK921.out 0;have hcz20_1 : w16.cell? ⟨gb921,1,none⟩ = some (.slice A0_1 l0_1.length c0_1):=blk_cell BK921.out 1;have hfz20_0:=blk_frozen BK921.out 0;have hfz20_1:=blk_frozen BK921.out 1)|((with_reducible refine gate_dst (N:=16) rfl ?_);refine Kd.R_make (Kd.int .i64) _ 3 rfl (N:=16) rfl 22 _ _ rfl ji6 rfl rfl Tryd.underlying22 (.int .i64 0) 8 info3 rfl (by decide) (by omega) 0 (ok:=fun _=>True) (okp:=fun _=>True) rfl (fun _ hk=>hk) trivial (of_decide_eq_true (by first|(with_reducible assumption)|assumption)) (Nat.le_trans (Nat.mul_le_mul_right _ (of_decide_eq_true (by first|(with_reducible assumption)|assumption) : ji6.toNat ≤ 35184372088832)) (by omega)) (Below.refl _ _) (Nat.le_refl _) ?_;intro v929 w21 ho22 hb hg_ hnew_;clear hg_ hnew_;(first|rw [← Ny928.out] at ho22|(simp only [Int.reduceToNat] at ho22;rw [← Ny928.out] at ho22));have HO930:=A_ (Kd.R_lower (Kd.R_new' ho22 (Kd.R_lt (by (with_reducible repeat (first|apply Kd.R_alloc|apply Kd.R_drewN|apply Kd.R_drew));exact (Kd.R_mono (Kd.R_far (p:=⟨gb927,1,none⟩) (Kd.R_far (p:=⟨gb927,0,none⟩) (Kd.R_types HO926.out BK927.out (by decide)) (fun _ hk=>hk.2) (.int .i64 t923)) (fun _ hk=>hk.2) (.slice Ao19 t924.length co19)) (fun _ h_=>h_.1))))) (below_size bb_));replace HO926:=A_ (Kd.R_elder' (by (with_reducible repeat (first|apply Kd.R_alloc|apply Kd.R_drewN|apply Kd.R_drew));exact (Kd.R_mono (Kd.R_far (p:=⟨gb927,1,none⟩) (Kd.R_far (p:=⟨gb927,0,none⟩) (Kd.R_types HO926.out BK927.out (by decide)) (fun _ hk=>hk.2) (.int .i64 t923)) (fun _ hk=>hk.2) (.slice Ao19 t924.length co19)) (fun _ h_=>h_.1))) (Kd.R_base ho22) hb);replace BK921:=A_ (blk_below (g:=gb921) (o:=.cells #[.int .i64 a0_0,.slice A0_1 l0_1.length c0_1] 26 (0,0)) (by (with_reducible repeat (first|refine blk_drewN ?_ _|refine blk_drew ?_|refine blk_alloc ?_ _));refine blk_far ?_ NB921_927.out _;(with_reducible repeat (first|refine blk_drewN ?_ _|refine blk_drew ?_|refine blk_alloc ?_ _));refine blk_far ?_ NB921_927.out _;(with_reducible repeat (first|refine blk_drewN ?_ _|refine blk_drew ?_|refine blk_alloc ?_ _));exact BK921.out) hb);replace BK927:=A_ (blk_below (g:=gb927) (o:=.cells #[.int .i64 t923,.slice Ao19 t924.length co19] 26 (0,0)) (by (with_reducible repeat (first|refine blk_drewN ?_ _|refine blk_drew ?_|refine blk_alloc ?_ _));refine blk_put (cs:=#[.int .i64 t923,.slice none 0 0]) ?_ 1 _ rfl;(with_reducible repeat (first|refine blk_drewN ?_ _|refine blk_drew ?_|refine blk_alloc ?_ _));refine blk_put (cs:=#[.int .i64 0,.slice none 0 0]) ?_ 0 _ rfl;(with_reducible repeat (first|refine blk_drewN ?_ _|refine blk_drew ?_|refine blk_alloc ?_ _));exact BK927.out) hb);replace HB:=A_ (below_step bb_ hb);clear hb ho22;have p10 : 0 ≤ (0 : Int):=(by omega);have q10 : (0 : Int) < ((y928.length : Int) : Int):=of_decide_eq_true (by first|(with_reducible assumption)|assumption);have qi10 : (0 < y928.length) = True:=eq_true (by omega);obtain ⟨go10,co10,eo10,gb10,gl10,cl10,HG10⟩:=Kd.R_form HO930.out (by omega);(first|cases eo10|(injection eo10 with ea_ en_ ec_;(first|subst ea_|(injection ea_ with ea_;subst ea_));subst ec_;clear en_));have GB10:=A_ gb10;have GG10:=A_ HG10;clear gb10 gl10 HG10;obtain ⟨hx10_0,hf10_0⟩:=Kd.R_celln 0 HO930.out (0 : Int) p10 q10;(try rw [show ((0 : Int)).toNat = 0 from rfl] at hx10_0);(try simp only [Nat.reduceMul,Nat.zero_mul,Nat.zero_add,Nat.reduceAdd] at hx10_0);(try rw [show ((0 : Int)).toNat = 0 from rfl] at hf10_0);(try simp only [Nat.reduceMul,Nat.zero_mul,Nat.zero_add,Nat.reduceAdd] at hf10_0);replace p10:=eq_true p10;replace q10:=eq_true q10;have n_:=A_ (Kd.R_mono (ok':=(fun k_=>some k_ ≠ (.slice Ao19 t924.length co19 : Value).ownBlock)) HO930.out (fun k_ hk=>hk.2));clear HO930;have HO930:=n_;clear n_;obtain ⟨hy23_,hz23_⟩:=Kd.R_celln 0 HO930.out (0 : Int) (by omega) (of_decide_eq_true (by first|(with_reducible assumption)|assumption));(try simp only [Int.reduceToNat,Int.toNat_zero,Int.toNat_ofNat,Nat.reduceMul,Nat.zero_mul,Nat.zero_add] at hy23_ hz23_);(try rw [show ((0 : Int)).toNat = 0 from rfl] at hy23_);(try rw [show ((0 : Int)).toNat = 0 from rfl] at hz23_);have HP23:=Kd.R_putg HO930.out (0 : Int) 1)|((with_reducible refine gate_store (t:=3) (p:=18) rfl ?_);refine store_event (t:=3) (p:=18) (v:=?vo_w24) (w1:=(w21.setCell ⟨go10,(0 : Int).toNat,none⟩ (.int .i64 1))) ?hg ?ho ?hn ?hr ?_;(case ho=>rfl);(case hg=>rfl);(case hn=>rfl);(case hr=>first|(go_simp;done)|(go_simp;rfl));intro w24 hw;have hg : w21.grownBy w24 (some go10):=(by rw [hw];exact HP23.2);have hp_ : Kd.R (Kd.int .i64) 3 w24 w.heap.size (fun k_=>some k_ ≠ (.slice Ao19 t924.length co19 : Value).ownBlock) (.slice (some ⟨go10,0,none⟩) y928.length co10) y931:=(by rw [hw,Ny931.out];exact HP23.1);clear HP23;replace BK921:=A_ (blk_grown (g:=gb921) (o:=.cells #[.int .i64 a0_0,.slice A0_1 l0_1.length c0_1] 26 (0,0)) (bl_ BK921) hg (Kd.R_ne HO930.out BK921.out (by decide)));replace HO926:=A_ (Kd.R_after (v:=(.slice (some ⟨go10,0,none⟩) y928.length co10)) (v1:=(.slice (some ⟨go10,0,none⟩) y928.length co10)) (ok:=(fun _=>True)) (rl_ HO926) hg (.inl rfl));replace BK927:=A_ (blk_grown (g:=gb927) (o:=.cells #[.int .i64 t923,.slice Ao19 t924.length co19] 26 (0,0)) (bl_ BK927) hg (Kd.R_ne HO930.out BK927.out (by decide)));replace HO930:=A_ (hp_);replace HB:=A_ ((by rw [hw];exact below_set (HB.out) GB10.out : Below w.heap.size w w24));clear hg hw hp_))
      go_loopg [21] k (fun kq v21 w'=>∃ (x5_1 : List Int) (x21_1 : Int),v21 = .int .i64 x21_1 ∧ Aside0 (impl_CountExtensions.l0 kq x5_1 (y928.length : Int) x21_1 a0_0 l0_1 t923 t924 = some (r1,r2)) ∧ Aside0 (kq ≤ k) ∧ Aside0 (Kd.R (Kd.int .i64) 3 w' w.heap.size (fun k_=>some k_ ≠ ((.slice Ao19 t924.length co19) : Value).ownBlock) (.slice (some ⟨go10,0,none⟩) y928.length co10) x5_1) ∧ Aside0 (Kd.R (Kd.int .i64) 3 w' w.heap.size (fun k_=>some k_ ≠ ((.slice (some ⟨go10,0,none⟩) y928.length co10) : Value).ownBlock) (.slice Ao19 t924.length co19) t924) ∧ Aside0 (w'.heap[gb921]? = some (.cells #[.int .i64 a0_0,(.slice A0_1 l0_1.length c0_1)] 26 (0,0))) ∧ Aside0 (w'.heap[gb927]? = some (.cells #[.int .i64 t923,(.slice Ao19 t924.length co19)] 26 (0,0))) ∧ Aside0 (Below w.heap.size w w'))
      case atStart=>exact ⟨(y931),(0),(by first|rfl|(simp;done)|(simp [*];done)),H',⟨Nat.le_refl _⟩,⟨by (with_reducible repeat (first|apply Kd.R_alloc|apply Kd.R_drewN|apply Kd.R_drew));exact HO930.out⟩,⟨by (with_reducible repeat (first|apply Kd.R_alloc|apply Kd.R_drewN|apply Kd.R_drew));exact Kd.R_mono HO926.out (fun _ hk=>hk.2)⟩,⟨bl_ BK921⟩,⟨bl_ BK927⟩,⟨bb_⟩⟩
      case round =>
       clear H';try clear c1
       try clear p1
       try clear q1
       try clear hx1
       try clear qi1
       try clear hf1
       try clear p2
       try clear c3
       try clear c4
       try clear c5
       try clear c5b0
       try clear c5b1
       try clear p6
       try clear c7
       try clear c7b0
       try clear c7b1
       try clear c8
       try clear c8b0
       try clear c8b1
       try clear c9
       try clear c9b0
       try clear c9b1
       try clear c10
       try clear p10
       try clear q10
       try clear hx10
       try clear qi10
       try clear hf10
       try clear c17
       try clear hcz12_0
       try clear hcz12_1
       try clear hcz14_0
       try clear hcz14_1
       try clear hcz18_0
       try clear hcz18_1
       try clear hcz20_0
       try clear hcz20_1
       try clear hfz12_0
       try clear hfz12_1
       try clear hfz14_0
       try clear hfz14_1
       try clear hfz18_0
       try clear hfz18_1
       try clear hfz20_0
       try clear hfz20_1
       try clear hx10_0
       try clear p10
       try clear q10
       obtain ⟨x5_1,x21_1,rfl,HA,HK1,HO_5,HO_928001,BK921,BK927,HB⟩:=hrel;have hl5_1:=(Kd.R_reads' HO_5.out).1;rw [hl5_1] at HO_5;(try simp only [hl5_1]);(try simp only [hl5_1] at BK921);(try simp only [hl5_1] at BK927);(try simp only [hl5_1] at HO_928001);cases gk with
       | zero=>exact absurd HA.out (by simp [impl_CountExtensions.l0])
       | succ k1 =>
        have H:=HA.out;clear HA;simp only [impl_CountExtensions.l0] at H
        by_cases c25 : x21_1 < (y928.length : Int)
        ·rw [if_pos c25] at H;have c25b0 : decide (x21_1 < (y928.length : Int)) = true:=decide_eq_true c25;(try (have c25b8:=c25b0;simp only [hl5_1] at c25b8));clear c25;have H':=A_ H;clear H;have hnb26:=NB921_927.out;have hnc26:=NB927_921.out;have hcz27_0 : wr.cell? ⟨gb921,0,none⟩ = some (.int .i64 a0_0):=blk_cell BK921.out 0;have hcz27_1 : wr.cell? ⟨gb921,1,none⟩ = some (.slice A0_1 l0_1.length c0_1):=blk_cell BK921.out 1;have hfz27_0:=blk_frozen BK921.out 0;have hfz27_1:=blk_frozen BK921.out 1;go_wp2
         go_loopg [26] k1 (fun kq v26 w'=>∃ (x5_2 : List Int) (x26_2 : Int),v26 = .int .i64 x26_2 ∧ Aside0 (impl_CountExtensions.l1 kq x5_2 x21_1 (y928.length : Int) x21_1 a0_0 x26_2 a0_0 l0_1 t923 t924 = some (r1,r2)) ∧ Aside0 (kq ≤ k1) ∧ Aside0 (Kd.R (Kd.int .i64) 3 w' w.heap.size (fun k_=>some k_ ≠ ((.slice Ao19 t924.length co19) : Value).ownBlock) (.slice (some ⟨go10,0,none⟩) x5_1.length co10) x5_2) ∧ Aside0 (Kd.R (Kd.int .i64) 3 w' w.heap.size (fun k_=>some k_ ≠ ((.slice (some ⟨go10,0,none⟩) x5_1.length co10) : Value).ownBlock) (.slice Ao19 t924.length co19) t924) ∧ Aside0 (w'.heap[gb921]? = some (.cells #[.int .i64 a0_0,(.slice A0_1 l0_1.length c0_1)] 26 (0,0))) ∧ Aside0 (w'.heap[gb927]? = some (.cells #[.int .i64 t923,(.slice Ao19 t924.length co19)] 26 (0,0))) ∧ Aside0 (Below w.heap.size w w'))
         case atStart=>exact ⟨(x5_1),(0),(by first|rfl|(simp;done)|(simp [*];done)),H',⟨Nat.le_refl _⟩,⟨by (try simp only [hl5_1]);(with_reducible repeat (first|apply Kd.R_alloc|apply Kd.R_drewN|apply Kd.R_drew));exact HO_5.out⟩,⟨by (try simp only [hl5_1]);(with_reducible repeat (first|apply Kd.R_alloc|apply Kd.R_drewN|apply Kd.R_drew));exact HO_928001.out⟩,⟨by (try simp only [hl5_1]);(with_reducible repeat (first|refine blk_drewN ?_ _|refine blk_drew ?_|refine blk_alloc ?_ _));exact BK921.out⟩,⟨by (try simp only [hl5_1]);(with_reducible repeat (first|refine blk_drewN ?_ _|refine blk_drew ?_|refine blk_alloc ?_ _));exact BK927.out⟩,⟨bb_⟩⟩
         case round =>
          clear H';try clear c1
          try clear p1
          try clear q1
          try clear hx1
          try clear qi1
          try clear hf1
          try clear c2
          try clear p2
          try clear c3
          try clear c4
          try clear c5
          try clear c5b0
          try clear c5b1
          try clear p6
          try clear c7
          try clear c7b0
          try clear c7b1
          try clear c8
          try clear c8b0
          try clear c8b1
          try clear c9
          try clear c9b0
          try clear c9b1
          try clear c10
          try clear p10
          try clear q10
          try clear hx10
          try clear qi10
          try clear hf10
          try clear c17
          try clear c25
          try clear c25b0
          try clear c26
          try clear hcz12_0
          try clear hcz12_1
          try clear hcz14_0
          try clear hcz14_1
          try clear hcz18_0
          try clear hcz18_1
          try clear hcz20_0
          try clear hcz20_1
          try clear hcz27_0
          try clear hcz27_1
          try clear hfz12_0
          try clear hfz12_1
          try clear hfz14_0
          try clear hfz14_1
          try clear hfz18_0
          try clear hfz18_1
          try clear hfz20_0
          try clear hfz20_1
          try clear hfz27_0
          try clear hfz27_1
          try clear hx10_0
          try clear p1
          try clear p10
          try clear p2
          try clear p6
          try clear q1
          try clear q10
          obtain ⟨x5_2,x26_2,rfl,HA,HK2,HO_5,HO_928001,BK921,BK927,HB⟩:=hrel;have hl5_2:=(Kd.R_reads' HO_5.out).1;rw [hl5_2] at HO_5;(try simp only [hl5_2]);(try simp only [hl5_2] at BK921);(try simp only [hl5_2] at BK927);(try simp only [hl5_2] at HO_928001);cases gk with
          | zero=>exact absurd HA.out (by simp [impl_CountExtensions.l1])
          | succ k2 =>
           have H:=HA.out;clear HA;simp only [impl_CountExtensions.l1] at H
           by_cases c28 : x26_2 < a0_0
           ·rw [if_pos c28] at H;have c28b0 : decide (x26_2 < a0_0) = true:=decide_eq_true c28;clear c28;by_cases c29 : 0 ≤ x26_2
            ·rw [if_pos c29] at H;have c29b0:=eq_true c29;have c29b1 : decide (0 ≤ x26_2) = true:=decide_eq_true c29;clear c29;obtain ⟨ji30,hji30⟩ : ∃ j_ : Int,(shr .i64 x21_1 x26_2) = j_:=⟨_,rfl⟩;replace H : (if (Go.bits .and .i64 (ji30) 1) = 0 then (if x26_2 < (t924.length : Int) then (if (Go.bits .andNot .i64 (rd t924 x26_2) x21_1) = 0 then (if 0 ≤ (Go.bits .or .i64 x21_1 (shl .i64 1 x26_2)) then (if (Go.bits .or .i64 x21_1 (shl .i64 1 x26_2)) < (x5_2.length : Int) then (if 0 ≤ x21_1 then (if x21_1 < (x5_2.length : Int) then (impl_CountExtensions.l1 k2 (x5_2.set ((Go.bits .or .i64 x21_1 (shl .i64 1 x26_2)) : Int).toNat (wrap64 ((rd x5_2 (Go.bits .or .i64 x21_1 (shl .i64 1 x26_2))) + (rd x5_2 x21_1)))) x21_1 (y928.length : Int) x21_1 a0_0 (wrap64 (x26_2 + 1)) a0_0 l0_1 t923 t924) else (none)) else (none)) else (none)) else (none)) else (impl_CountExtensions.l1 k2 x5_2 x21_1 (y928.length : Int) x21_1 a0_0 (wrap64 (x26_2 + 1)) a0_0 l0_1 t923 t924)) else (none)) else (impl_CountExtensions.l1 k2 x5_2 x21_1 (y928.length : Int) x21_1 a0_0 (wrap64 (x26_2 + 1)) a0_0 l0_1 t923 t924)) = some (r1,r2):=by first|(rw [hji30] at H;exact H)|(simp only [hji30] at H ⊢;exact H)
             have hji30_ : (x21_1 / 2 ^ min x26_2.toNat 64) = ji30:=hji30;have hji30z : x26_2 ≤ 64 → (x21_1 / 2 ^ x26_2.toNat) = ji30:=shr_small hji30;by_cases c31 : (Go.bits .and .i64 (ji30) 1) = 0
             ·rw [if_pos c31] at H;have c31b0 : ((Go.bits .and .i64 (ji30) 1) == 0) = true:=beq_iff_eq.mpr c31;have c31b1 : ((Go.bits .and .i64 (ji30) 1) != 0) = false:=bne_eq_false_iff_eq.mpr c31;clear c31;by_cases c32 : x26_2 < (t924.length : Int)
              ·rw [if_pos c32] at H;have c32b0 : decide (x26_2 < (t924.length : Int)) = true:=decide_eq_true c32;(try (have c32b8:=c32b0;simp only [hl5_1,hl5_2] at c32b8));clear c32;by_cases c33 : (Go.bits .andNot .i64 (rd t924 x26_2) x21_1) = 0
               ·rw [if_pos c33] at H;have c33b0 : ((Go.bits .andNot .i64 (rd t924 x26_2) x21_1) == 0) = true:=beq_iff_eq.mpr c33;have c33b1 : ((Go.bits .andNot .i64 (rd t924 x26_2) x21_1) != 0) = false:=bne_eq_false_iff_eq.mpr c33;clear c33;have c34b0:=eq_true (of_decide_eq_true (by first|(with_reducible assumption)|assumption) : 0 ≤ x26_2);obtain ⟨ji35,hji35⟩ : ∃ j_ : Int,(shl .i64 1 x26_2) = j_:=⟨_,rfl⟩;replace H : (if 0 ≤ (Go.bits .or .i64 x21_1 (ji35)) then (if (Go.bits .or .i64 x21_1 (ji35)) < (x5_2.length : Int) then (if 0 ≤ x21_1 then (if x21_1 < (x5_2.length : Int) then (impl_CountExtensions.l1 k2 (x5_2.set ((Go.bits .or .i64 x21_1 (ji35)) : Int).toNat (wrap64 ((rd x5_2 (Go.bits .or .i64 x21_1 (ji35))) + (rd x5_2 x21_1)))) x21_1 (y928.length : Int) x21_1 a0_0 (wrap64 (x26_2 + 1)) a0_0 l0_1 t923 t924) else (none)) else (none)) else (none)) else (none)) = some (r1,r2):=by first|(rw [hji35] at H;exact H)|(simp only [hji35] at H ⊢;exact H)
                have hji35_ : (IntKind.i64.wrap (1 * 2 ^ min x26_2.toNat 64)) = ji35:=hji35;have hji35z : x26_2 ≤ 64 → (IntKind.i64.wrap (1 * 2 ^ x26_2.toNat)) = ji35:=shl_small hji35;have hji35u : (IntKind.i64.wrap (2 ^ min x26_2.toNat 64)) = ji35:=by have h_:=hji35_;rw [Int.one_mul] at h_;exact h_
                have hji35v : x26_2 ≤ 64 → (IntKind.i64.wrap (2 ^ x26_2.toNat)) = ji35:=fun hle_=>by have h_:=hji35z hle_;rw [Int.one_mul] at h_;exact h_
                have hji35y : (wrap64 (1 * 2 ^ min x26_2.toNat 64)) = ji35:=(i64_w _).symm.trans hji35_;have hji35x : x26_2 ≤ 64 → (wrap64 (1 * 2 ^ x26_2.toNat)) = ji35:=fun h_=>(i64_w _).symm.trans (hji35z h_)
                by_cases c36 : 0 ≤ (Go.bits .or .i64 x21_1 (ji35))
                ·rw [if_pos c36] at H;have c36b0 : decide (0 ≤ (Go.bits .or .i64 x21_1 (ji35))) = true:=decide_eq_true c36;clear c36;by_cases c37 : (Go.bits .or .i64 x21_1 (ji35)) < (x5_2.length : Int)
                 ·rw [if_pos c37] at H;have c37b0 : decide ((Go.bits .or .i64 x21_1 (ji35)) < (x5_2.length : Int)) = true:=decide_eq_true c37;(try (have c37b8:=c37b0;simp only [hl5_1,hl5_2] at c37b8));clear c37;by_cases c38 : 0 ≤ x21_1
                  ·rw [if_pos c38] at H;have c38b0 : decide (0 ≤ x21_1) = true:=decide_eq_true c38;clear c38;by_cases c39 : x21_1 < (x5_2.length : Int)
                   ·rw [if_pos c39] at H;have c39b0 : decide (x21_1 < (x5_2.length : Int)) = true:=decide_eq_true c39;(try (have c39b8:=c39b0;simp only [hl5_1,hl5_2] at c39b8));clear c39;obtain ⟨y937,hy937⟩ : ∃ y_ : List Int,y_ = (x5_2.set ((Go.bits .or .i64 x21_1 (ji35)) : Int).toNat (wrap64 ((rd x5_2 (Go.bits .or .i64 x21_1 (ji35))) + (rd x5_2 x21_1)))):=⟨_,rfl⟩;replace H : (impl_CountExtensions.l1 k2 y937 x21_1 (y928.length : Int) x21_1 a0_0 (wrap64 (x26_2 + 1)) a0_0 l0_1 t923 t924) = some (r1,r2):=by first|(rw [hy937];with_reducible exact H)|(have H2_:=(Option.bind_some _ _).symm.trans H;rw [hy937];with_reducible exact H2_)|(have H2_:=(Option.bind_some _ _).symm.trans H;with_reducible exact H2_)|with_reducible exact H|(rw [hy937];exact H)|exact H
                    have Ny937:=A_ hy937;clear hy937;have H':=A_ H;clear H;have hnb41:=NB927_921.out;have hnc41:=NB921_927.out;have hcz42_0 : wr.cell? ⟨gb927,0,none⟩ = some (.int .i64 t923):=blk_cell BK927.out 0;have hcz42_1 : wr.cell? ⟨gb927,1,none⟩ = some (.slice Ao19 t924.length co19):=blk_cell BK927.out 1;have hfz42_0:=blk_frozen BK927.out 0;have hfz42_1:=blk_frozen BK927.out 1;have p934 : 0 ≤ (x26_2 : Int):=of_decide_eq_true (by first|(with_reducible assumption)|assumption);have q934 : x26_2 < (t924.length : Int):=of_decide_eq_true (by first|(with_reducible assumption)|assumption);obtain ⟨ad934,e934,hx934_0⟩:=Kd.at_int (Kd.R_reads' HO_928001.out).2.2 x26_2 p934 q934;cases e934
                    replace p934:=eq_true p934;replace q934:=eq_true q934;try go_wp2
                    replace HO_5:=A_ (Kd.R_drew HO_5.out);replace HO_928001:=A_ (Kd.R_drew HO_928001.out);replace BK921:=A_ (blk_drew BK921.out);replace BK927:=A_ (blk_drew BK927.out);replace HB:=A_ (below_drew1 HB.out);have p935 : 0 ≤ ((Go.bits .or .i64 x21_1 (ji35)) : Int):=of_decide_eq_true (by first|(with_reducible assumption)|assumption);have q935 : (Go.bits .or .i64 x21_1 (ji35)) < (x5_2.length : Int):=of_decide_eq_true (by first|(with_reducible assumption)|assumption);obtain ⟨ad935,e935,hx935_0⟩:=Kd.at_int (Kd.R_reads' HO_5.out).2.2 (Go.bits .or .i64 x21_1 (ji35)) p935 q935;obtain rfl : (⟨go10,0,none⟩ : Addr) = ad935:=(by injection e935);(first|simp only [add_plain] at hx935_0|simp only [add_at] at hx935_0|simp only [Addr.add,Nat.zero_add] at hx935_0|skip)
                    replace p935:=eq_true p935;replace q935:=eq_true q935;have p936 : 0 ≤ (x21_1 : Int):=of_decide_eq_true (by first|(with_reducible assumption)|assumption);have q936 : x21_1 < (x5_2.length : Int):=of_decide_eq_true (by first|(with_reducible assumption)|assumption);obtain ⟨ad936,e936,hx936_0⟩:=Kd.at_int (Kd.R_reads' HO_5.out).2.2 x21_1 p936 q936;obtain rfl : (⟨go10,0,none⟩ : Addr) = ad936:=(by injection e936);(first|simp only [add_plain] at hx936_0|simp only [add_at] at hx936_0|simp only [Addr.add,Nat.zero_add] at hx936_0|skip)
                    replace p936:=eq_true p936;replace q936:=eq_true q936;have p40 : 0 ≤ ((Go.bits .or .i64 x21_1 (ji35)) : Int):=of_decide_eq_true (by first|(with_reducible assumption)|assumption);have q40 : ((Go.bits .or .i64 x21_1 (ji35)) : Int) < ((x5_2.length : Int) : Int):=of_decide_eq_true (by first|(with_reducible assumption)|assumption);obtain ⟨hx40_0,hf40_0⟩:=Kd.R_celln 0 HO_5.out ((Go.bits .or .i64 x21_1 (ji35)) : Int) p40 q40;replace p40:=eq_true p40;replace q40:=eq_true q40;have HP44:=Kd.R_putn HO_5.out ((Go.bits .or .i64 x21_1 (ji35)) : Int) (wrap64 ((rd x5_2 (Go.bits .or .i64 x21_1 (ji35))) + (rd x5_2 x21_1)));rw [← Ny937.out] at HP44;have HQ44:=A_ HP44;clear HP44;refine start_ (n:=14) (S:=fun w'=>w'.cell? ⟨go10,((Go.bits .or .i64 x21_1 (ji35))).toNat,none⟩ = some (.int .i64 (rd x5_2 (Go.bits .or .i64 x21_1 (ji35)))) ∧ w'.cell? ⟨go10,(x21_1).toNat,none⟩ = some (.int .i64 (rd x5_2 x21_1))) (ds:=[13]) #[F,F,F,F,F,F,F,F,F,F,F,F,F,F] (by kernel_rfl) rfl rfl ⟨hx935_0,hx936_0⟩ (fun hHeld=>?_);refine with_tabW impl_CountExtensions.tab13 impl_CountExtensions.bits13 (fun HT_ HW_=>?_)
                    generalize wr.drew = w43 at HO_5 HO_928001 BK921 BK927 HB HQ44 hf40_0 hx40_0 hx935_0 hx936_0 hHeld ⊢
                    refine pure_ (i:=0) (N:=some 44) (v:=?_) (a':=?_) #[T,F,F,F,F,F,F,F,F,F,F,F,F,F] rfl rfl (any_of HT_.out (by kernel_rfl)) (fun _ _ _ h=>h) (Or.inl ⟨by rfl,?_⟩) ?_ ?_
                    rotate_left;·intro w';go_simp;with_reducible rfl
                    rotate_left;·simp only [Act.put,L_,M_,N_,i64_w,i32_w];rfl
                    refine pure_ (i:=1) (N:=some 45) (v:=?_) (a':=?_) #[T,T,F,F,F,F,F,F,F,F,F,F,F,F] rfl rfl (any_of HT_.out (by kernel_rfl)) (fun _ _ _ h=>h) (Or.inl ⟨by rfl,?_⟩) ?_ ?_
                    rotate_left;·intro w';go_simp;with_reducible rfl
                    rotate_left;·simp only [Act.put,L_,M_,N_,i64_w,i32_w];rfl
                    refine pure_ (i:=2) (N:=some 46) (v:=?_) (a':=?_) #[T,T,T,F,F,F,F,F,F,F,F,F,F,F] rfl rfl (any_of HT_.out (by kernel_rfl)) (fun _ _ _ h=>h) (Or.inl ⟨by rfl,?_⟩) ?_ ?_
                    rotate_left;·intro w';go_simp;with_reducible rfl
                    rotate_left;·simp only [Act.put,L_,M_,N_,i64_w,i32_w];rfl
                    refine pure_ (i:=3) (N:=some 47) (v:=?_) (a':=?_) #[T,T,T,T,F,F,F,F,F,F,F,F,F,F] rfl rfl (any_of HT_.out (by kernel_rfl)) (fun _ _ _ h=>h) (Or.inl ⟨by rfl,?_⟩) ?_ ?_
                    rotate_left;·intro w';go_simp;with_reducible rfl
                    rotate_left;·simp only [Act.put,L_,M_,N_,i64_w,i32_w];rfl
                    refine pure_ (i:=4) (N:=some 48) (v:=?_) (a':=?_) #[T,T,T,T,T,F,F,F,F,F,F,F,F,F] rfl rfl (any_of HT_.out (by kernel_rfl)) (fun _ _ _ h=>h) (Or.inl ⟨by rfl,?_⟩) ?_ ?_
                    rotate_left;·intro w';go_simp;with_reducible rfl
                    rotate_left;·simp only [Act.put,L_,M_,N_,i64_w,i32_w];rfl
                    refine pure_ (i:=5) (N:=some 49) (v:=?_) (a':=?_) #[T,T,T,T,T,T,F,F,F,F,F,F,F,F] rfl rfl (any_of HT_.out (by kernel_rfl)) (fun _ _ _ h=>h) (Or.inl ⟨by rfl,?_⟩) ?_ ?_
                    rotate_left;·intro w';go_simp;with_reducible rfl
                    rotate_left;·simp only [Act.put,L_,M_,N_,i64_w,i32_w];rfl
                    refine pure_ (i:=7) (N:=some 51) (v:=?_) (a':=?_) #[T,T,T,T,T,T,F,T,F,F,F,F,F,F] rfl rfl (any_of HT_.out (by kernel_rfl)) (fun _ _ _ h=>h) (Or.inl ⟨by rfl,?_⟩) ?_ ?_
                    rotate_left;·intro w';go_simp;with_reducible rfl
                    rotate_left;·simp only [Act.put,L_,M_,N_,i64_w,i32_w];rfl
                    refine pure_ (i:=8) (N:=some 52) (v:=?_) (a':=?_) #[T,T,T,T,T,T,F,T,T,F,F,F,F,F] rfl rfl (any_of HT_.out (by kernel_rfl)) (fun _ _ _ h=>h) (Or.inl ⟨by rfl,?_⟩) ?_ ?_
                    rotate_left;·intro w';go_simp;with_reducible rfl
                    rotate_left;·simp only [Act.put,L_,M_,N_,i64_w,i32_w];rfl
                    refine pure_ (i:=9) (N:=some 53) (v:=?_) (a':=?_) #[T,T,T,T,T,T,F,T,T,T,F,F,F,F] rfl rfl (any_of HT_.out (by kernel_rfl)) (fun _ _ _ h=>h) (Or.inl ⟨by rfl,?_⟩) ?_ ?_
                    rotate_left;·intro w';go_simp;with_reducible rfl
                    rotate_left;·simp only [Act.put,L_,M_,N_,i64_w,i32_w];rfl
                    refine take_ (i:=6) (N:=some 50) (v:=?_) (a':=?_) #[T,T,T,T,T,T,T,T,T,T,F,F,F,F] rfl rfl (take_ofW HT_.out HW_.out (by kernel_rfl)) (fun _ _ _ h=>h) (Or.inl ⟨by rfl,?_⟩) hHeld ?_ ?_
                    rotate_left
                    ·rintro w' ⟨s0,s1⟩
                     go_simp
                     with_reducible rfl
                    rotate_left;·simp only [Act.put,L_,M_,N_,i64_w,i32_w];rfl
                    refine take_ (i:=10) (N:=some 54) (v:=?_) (a':=?_) #[T,T,T,T,T,T,T,T,T,T,T,F,F,F] rfl rfl (take_ofW HT_.out HW_.out (by kernel_rfl)) (fun _ _ _ h=>h) (Or.inl ⟨by rfl,?_⟩) hHeld ?_ ?_
                    rotate_left
                    ·rintro w' ⟨s0,s1⟩
                     go_simp
                     with_reducible rfl
                    rotate_left;·simp only [Act.put,L_,M_,N_,i64_w,i32_w];rfl
                    refine pure_ (i:=11) (N:=some 55) (v:=?_) (a':=?_) #[T,T,T,T,T,T,T,T,T,T,T,T,F,F] rfl rfl (any_of HT_.out (by kernel_rfl)) (fun _ _ _ h=>h) (Or.inl ⟨by rfl,?_⟩) ?_ ?_
                    rotate_left;·intro w';go_simp;with_reducible rfl
                    rotate_left;·simp only [Act.put,L_,M_,N_,i64_w,i32_w];rfl
                    refine pure_ (i:=12) (N:=some 56) (v:=?_) (a':=?_) #[T,T,T,T,T,T,T,T,T,T,T,T,T,F] rfl rfl (any_of HT_.out (by kernel_rfl)) (fun _ _ _ h=>h) (Or.inl ⟨by rfl,?_⟩) ?_ ?_
                    rotate_left;·intro w';go_simp;with_reducible rfl
                    rotate_left;·simp only [Act.put,L_,M_,N_,i64_w,i32_w];rfl
                    refine last_ (i:=13) (N:=none) #[T,T,T,T,T,T,T,T,T,T,T,T,T,T] rfl rfl (one_of HT_.out (by kernel_rfl)) (by decide) (fun K hK=>?_)
                    refine skip_ (w1:=?_) (by rfl) rfl ?_ ?_
                    rotate_left
                    ·go_simp
                     rfl
                    refine hK.out _ _ ?_
                    clear hK K;refine done_ (done_of HT_.out (by kernel_rfl)) ?_
                    try go_wp2
                    (try simp only [← hl5_2]);go_roundg k2
                    case measure=>have:=HK1.out;have:=HK2.out;omega
                    case rel=>exact ⟨(y937),(wrap64 (x26_2 + 1)),(by first|rfl|(simp;done)|(simp [*];done)),H',⟨by have:=HK1.out;have:=HK2.out;omega⟩,⟨by (try simp only [hl5_1]);(try simp only [hl5_2]);(with_reducible repeat (first|apply Kd.R_alloc|apply Kd.R_drewN|apply Kd.R_drew));exact HQ44.out⟩,⟨by (try simp only [hl5_1]);(try simp only [hl5_2]);(with_reducible repeat (first|apply Kd.R_alloc|apply Kd.R_drewN|apply Kd.R_drew));exact Kd.R_mono (Kd.R_far (p:=⟨go10,((Go.bits .or .i64 x21_1 (ji35)) : Int).toNat,none⟩) (Kd.R_mono HO_928001.out (fun k_ hk=>(⟨hk,fun e_=>hk (by rw [e_];rfl)⟩ : _ ∧ k_ ≠ go10))) (fun _ hk=>hk.2) (.int .i64 (wrap64 ((rd x5_2 (Go.bits .or .i64 x21_1 (ji35))) + (rd x5_2 x21_1))))) (fun _ hk=>hk.1)⟩,⟨by (try simp only [hl5_1]);(try simp only [hl5_2]);(with_reducible repeat (first|refine blk_drewN ?_ _|refine blk_drew ?_|refine blk_alloc ?_ _));refine blk_far ?_ (by have h_:=Kd.R_ne HO_5.out BK921.out (by decide);intro e_;exact h_ (by rw [e_];rfl)) _;(with_reducible repeat (first|refine blk_drewN ?_ _|refine blk_drew ?_|refine blk_alloc ?_ _));exact BK921.out⟩,⟨by (try simp only [hl5_1]);(try simp only [hl5_2]);(with_reducible repeat (first|refine blk_drewN ?_ _|refine blk_drew ?_|refine blk_alloc ?_ _));refine blk_far ?_ (by have h_:=Kd.R_ne HO_5.out BK927.out (by decide);intro e_;exact h_ (by rw [e_];rfl)) _;(with_reducible repeat (first|refine blk_drewN ?_ _|refine blk_drew ?_|refine blk_alloc ?_ _));exact BK927.out⟩,⟨by repeat (first|(with_reducible first|exact HB.out|apply below_alloc|apply pw_below_drewN|apply below_drew1|refine below_set ?_ GB10.out|refine below_set ?_ (Aside0.out (by assumption)))|exact HB.out)⟩⟩
                   ·rw [if_neg c39] at H;exact absurd H (by simp)
                  ·rw [if_neg c38] at H;exact absurd H (by simp)
                 ·rw [if_neg c37] at H;exact absurd H (by simp)
                ·rw [if_neg c36] at H;exact absurd H (by simp)
               ·rw [if_neg c33] at H;have c33b0 : ((Go.bits .andNot .i64 (rd t924 x26_2) x21_1) == 0) = false:=beq_eq_false_iff_ne.mpr c33;have c33b1 : ((Go.bits .andNot .i64 (rd t924 x26_2) x21_1) != 0) = true:=bne_iff_ne.mpr c33;have H':=A_ H;clear H;have hnb45:=NB927_921.out;have hnc45:=NB921_927.out;have hcz46_0 : wr.cell? ⟨gb927,0,none⟩ = some (.int .i64 t923):=blk_cell BK927.out 0;have hcz46_1 : wr.cell? ⟨gb927,1,none⟩ = some (.slice Ao19 t924.length co19):=blk_cell BK927.out 1;have hfz46_0:=blk_frozen BK927.out 0;have hfz46_1:=blk_frozen BK927.out 1;have p934 : 0 ≤ (x26_2 : Int):=of_decide_eq_true (by first|(with_reducible assumption)|assumption);have q934 : x26_2 < (t924.length : Int):=of_decide_eq_true (by first|(with_reducible assumption)|assumption);obtain ⟨ad934,e934,hx934_0⟩:=Kd.at_int (Kd.R_reads' HO_928001.out).2.2 x26_2 p934 q934;cases e934
                replace p934:=eq_true p934;replace q934:=eq_true q934;go_wp2
                (try simp only [← hl5_2]);go_roundg k2
                case measure=>have:=HK1.out;have:=HK2.out;omega
                case rel=>exact ⟨(x5_2),(wrap64 (x26_2 + 1)),(by first|rfl|(simp;done)|(simp [*];done)),H',⟨by have:=HK1.out;have:=HK2.out;omega⟩,⟨by (try simp only [hl5_1]);(try simp only [hl5_2]);(with_reducible repeat (first|apply Kd.R_alloc|apply Kd.R_drewN|apply Kd.R_drew));exact HO_5.out⟩,⟨by (try simp only [hl5_1]);(try simp only [hl5_2]);(with_reducible repeat (first|apply Kd.R_alloc|apply Kd.R_drewN|apply Kd.R_drew));exact HO_928001.out⟩,⟨by (try simp only [hl5_1]);(try simp only [hl5_2]);(with_reducible repeat (first|refine blk_drewN ?_ _|refine blk_drew ?_|refine blk_alloc ?_ _));exact BK921.out⟩,⟨by (try simp only [hl5_1]);(try simp only [hl5_2]);(with_reducible repeat (first|refine blk_drewN ?_ _|refine blk_drew ?_|refine blk_alloc ?_ _));exact BK927.out⟩,⟨bb_⟩⟩
              ·rw [if_neg c32] at H;exact absurd H (by simp)
             ·rw [if_neg c31] at H;have c31b0 : ((Go.bits .and .i64 (ji30) 1) == 0) = false:=beq_eq_false_iff_ne.mpr c31;have c31b1 : ((Go.bits .and .i64 (ji30) 1) != 0) = true:=bne_iff_ne.mpr c31;have H':=A_ H;clear H;go_wp2
              (try simp only [← hl5_2]);go_roundg k2
              case measure=>have:=HK1.out;have:=HK2.out;omega
              case rel=>exact ⟨(x5_2),(wrap64 (x26_2 + 1)),(by first|rfl|(simp;done)|(simp [*];done)),H',⟨by have:=HK1.out;have:=HK2.out;omega⟩,⟨by (try simp only [hl5_1]);(try simp only [hl5_2]);(with_reducible repeat (first|apply Kd.R_alloc|apply Kd.R_drewN|apply Kd.R_drew));exact HO_5.out⟩,⟨by (try simp only [hl5_1]);(try simp only [hl5_2]);(with_reducible repeat (first|apply Kd.R_alloc|apply Kd.R_drewN|apply Kd.R_drew));exact HO_928001.out⟩,⟨by (try simp only [hl5_1]);(try simp only [hl5_2]);(with_reducible repeat (first|refine blk_drewN ?_ _|refine blk_drew ?_|refine blk_alloc ?_ _));exact BK921.out⟩,⟨by (try simp only [hl5_1]);(try simp only [hl5_2]);(with_reducible repeat (first|refine blk_drewN ?_ _|refine blk_drew ?_|refine blk_alloc ?_ _));exact BK927.out⟩,⟨bb_⟩⟩
            ·rw [if_neg c29] at H;exact absurd H (by simp)
           ·rw [if_neg c28] at H;have c28b0 : decide (x26_2 < a0_0) = false:=decide_eq_false c28;clear c28;have H':=A_ H;clear H;go_wp2
            (try simp only [← hl5_1,← hl5_2]);go_roundg k2
            case measure=>have:=HK1.out;have:=HK2.out;omega
            case rel=>exact ⟨(x5_2),(wrap64 (x21_1 + 1)),(by first|rfl|(simp;done)|(simp [*];done)),H',⟨by have:=HK1.out;have:=HK2.out;omega⟩,⟨by (try simp only [hl5_1]);(try simp only [hl5_2]);(with_reducible repeat (first|apply Kd.R_alloc|apply Kd.R_drewN|apply Kd.R_drew));exact HO_5.out⟩,⟨by (try simp only [hl5_1]);(try simp only [hl5_2]);(with_reducible repeat (first|apply Kd.R_alloc|apply Kd.R_drewN|apply Kd.R_drew));exact HO_928001.out⟩,⟨by (try simp only [hl5_1]);(try simp only [hl5_2]);(with_reducible repeat (first|refine blk_drewN ?_ _|refine blk_drew ?_|refine blk_alloc ?_ _));exact BK921.out⟩,⟨by (try simp only [hl5_1]);(try simp only [hl5_2]);(with_reducible repeat (first|refine blk_drewN ?_ _|refine blk_drew ?_|refine blk_alloc ?_ _));exact BK927.out⟩,⟨bb_⟩⟩
        ·rw [if_neg c25] at H;have c25b0 : decide (x21_1 < (y928.length : Int)) = false:=decide_eq_false c25;(try (have c25b8:=c25b0;simp only [hl5_1] at c25b8));clear c25;replace H:=Option.bind_eq_some_iff.mp H;obtain ⟨t932,A470,H⟩:=H;replace H : (if 0 ≤ t932 then (if t932 < (x5_1.length : Int) then (some (rd x5_1 t932,true)) else (none)) else (none)) = some (r1,r2):=H;have A47:=A_ A470;clear A470;by_cases c48 : 0 ≤ t932
         ·rw [if_pos c48] at H;have c48b0 : decide (0 ≤ t932) = true:=decide_eq_true c48;clear c48;by_cases c49 : t932 < (x5_1.length : Int)
          ·rw [if_pos c49] at H;have c49b0 : decide (t932 < (x5_1.length : Int)) = true:=decide_eq_true c49;(try (have c49b8:=c49b0;simp only [hl5_1] at c49b8));clear c49;simp only [Option.some.injEq,Prod.mk.injEq] at H
           obtain ⟨rfl,rfl⟩:=H;have hnb50:=NB921_927.out;have hnc50:=NB927_921.out;have hcz51_0 : wr.cell? ⟨gb921,0,none⟩ = some (.int .i64 a0_0):=blk_cell BK921.out 0;have hcz51_1 : wr.cell? ⟨gb921,1,none⟩ = some (.slice A0_1 l0_1.length c0_1):=blk_cell BK921.out 1;have hfz51_0:=blk_frozen BK921.out 0;have hfz51_1:=blk_frozen BK921.out 1;go_wp2_with (first|((with_reducible refine gate_callee (f:=118) rfl ?_);refine goesL_ (some 61) rfl rfl Tryd.func118 (by kernel_rfl) rfl #[.agg #[.int .i64 a0_0,.slice A0_1 l0_1.length c0_1]] rfl au_ ?_;(with_reducible refine (impl_Order_all.calls a0_0 _ _ l0_1 t932 _ ?side1 ?side2 A47.out).mono ?_);(case side1=>exact cl_ (Kd.C_below HR0_1.out HB.out));(case side2=>exact HC0_1.out);rintro e w52 ⟨rfl,hb⟩;refine ⟨_,rfl,?_⟩;replace HO_5:=rb_ HO_5 hb;replace HO_928001:=rb_ HO_928001 hb;replace BK921:=bz BK921 hb;replace BK927:=bz BK927 hb;replace HB:=A_ (below_step bb_ hb);(try clear hb);(try clear hb2);(try clear hk);(try clear hi);have p933 : 0 ≤ (t932 : Int):=of_decide_eq_true (by first|(with_reducible assumption)|assumption);have q933 : t932 < (x5_1.length : Int):=of_decide_eq_true (by first|(with_reducible assumption)|assumption);obtain ⟨ad933,e933,hx933_0⟩:=Kd.at_int (Kd.R_reads' HO_5.out).2.2 t932 p933 q933;obtain rfl : (⟨go10,0,none⟩ : Addr) = ad933:=(by injection e933);(first|simp only [add_plain] at hx933_0|simp only [add_at] at hx933_0|simp only [Addr.add,Nat.zero_add] at hx933_0|skip);replace p933:=eq_true p933;replace q933:=eq_true q933))
           go_ret2
           exact ⟨by first|rfl|(simp [errW_none,errW_some] <;> rfl)|(simp only [← hji6];first|rfl|(simp [errW_none,errW_some] <;> rfl))|(simp [*,errW_none,errW_some] <;> rfl),bb_⟩
          ·rw [if_neg c49] at H;exact absurd H (by simp)
         ·rw [if_neg c48] at H;exact absurd H (by simp)
     ·rw [if_neg c9] at H;exact absurd H (by simp)
    ·rw [if_neg c8] at H;exact absurd H (by simp)
   ·rw [if_neg c7] at H;exact absurd H (by simp)
  ·rw [if_neg c5] at H;exact absurd H (by simp)
 ·replace c3:=Bool.eq_false_iff.mpr c3;subst c3;have H1 : (some (0,false)) = some (r1,r2):=by rw [if_neg (show ¬ (false = true) by decide)] at H;exact H
  clear H;have H:=H1;clear H1;simp only [Option.some.injEq,Prod.mk.injEq] at H
  obtain ⟨rfl,rfl⟩:=H;go_enter Tryd.func47,Tryd.ntmps47
  go_wp2_with (first|((with_reducible refine gate_dst (N:=1) rfl ?_);refine box_event ?hg (N:=1) ?hd (cs:=#[.int .i64 a0_0,.slice A0_1 l0_1.length c0_1]) (t:=26) ?hr ?_;(case hd=>rfl);(case hg=>rfl);(case hr=>first|(go_simp;done)|(go_simp;rfl));intro gb921 hg w53 hbox hb;have BK921:=A_ (hbox);have GW921:=A_ ((by rw [hg];exact (below_size bb_) : w.heap.size ≤ gb921));have GE921:=A_ ((by rw [hg];exact (below_size bb_) : w.heap.size ≤ gb921));replace HB:=A_ (below_step bb_ hb);clear hb hbox hg;have hcz54_0 : w53.cell? ⟨gb921,0,none⟩ = some (.int .i64 a0_0):=blk_cell BK921.out 0;have hcz54_1 : w53.cell? ⟨gb921,1,none⟩ = some (.slice A0_1 l0_1.length c0_1):=blk_cell BK921.out 1;have hfz54_0:=blk_frozen BK921.out 0;have hfz54_1:=blk_frozen BK921.out 1)|((with_reducible refine gate_callee (f:=32) rfl ?_);refine goesL_ (some 9) rfl rfl Tryd.func32 (by kernel_rfl) rfl #[.agg #[.int .i64 a0_0,.slice A0_1 l0_1.length c0_1]] rfl au_ ?_;(with_reducible refine (impl_IsOrder.calls k a0_0 _ _ l0_1 false _ ?side1 ?side2 ?side3 A2.out).mono ?_);(case side1=>exact cl_ (Kd.C_below HR0_1.out HB.out));(case side2=>exact HC0_1.out);(case side3=>first|exact HT.out|exact HT.out.below bb_|(repeat (first|exact HT.out|apply TabOK.drewN|apply TabOK.drew|apply TabOK.alloc)));rintro e w55 ⟨rfl,hb⟩;refine ⟨_,rfl,?_⟩;replace BK921:=bz BK921 hb;replace HB:=A_ (below_step bb_ hb);(try clear hb);(try clear hb2);(try clear hk);(try clear hi)))
  go_ret2
  exact ⟨by first|rfl|(simp [errW_none,errW_some] <;> rfl)|(simp [*,errW_none,errW_some] <;> rfl),bb_⟩
def spec_orBelow.l0 : Nat → Int → Int → List Int → Int → Int → Option (Int)
 | 0,_,_,_,_,_=>none
 | k + 1,x1,x5,x9,x10,x11=>if x11 < x10 then (if 0 ≤ x11 then (if x11 < (x9.length : Int) then ((spec_orHas.f (rd x9 x11) x1).bind fun t619=>(if t619 = true then (spec_orBelow.l0 k x1 (Go.bits .or .i64 x5 (shl .i64 1 x11)) x9 x10 (wrap64 (x11 + 1))) else (spec_orBelow.l0 k x1 x5 x9 x10 (wrap64 (x11 + 1))))) else (none)) else (none)) else (some x5)
def spec_orBelow.f (k : Nat) (a0_0 : Int) (l0_1 : List Int) (a1 : Int) : Option (Int) := spec_orBelow.l0 k a1 0 l0_1 (l0_1.length : Int) 0
set_option maxHeartbeats 8000000 in
set_option maxRecDepth 100000 in
theorem spec_orBelow.calls (k : Nat) (a0_0 : Int) (A0_1 : Option Addr) (c0_1 : Nat) (l0_1 : List Int) (a1 : Int) (r : Int) (w : World) (hr0_1 : Kd.C (Kd.int .i64) w A0_1 l0_1.length l0_1) (hc0_1 : l0_1.length ≤ c0_1) (h : spec_orBelow.f k a0_0 l0_1 a1 = some r) :
 Calls Tryd.prog 156 #[.agg #[.int .i64 a0_0,.slice A0_1 l0_1.length c0_1],.int .i64 a1] w fun e w'=>e = .returned (.int .i64 r) ∧ Below w.heap.size w w':=by
 have hu26:=Tryd.underlying26;have HR0_1:=A_ hr0_1;have HC0_1:=A_ hc0_1;clear hr0_1 hc0_1;have HB:=A_ (Below.refl w.heap.size w);have H : (spec_orBelow.l0 k a1 0 l0_1 (l0_1.length : Int) 0) = some r:=h;clear h;have H':=A_ H;clear H;go_enter Tryd.func156,Tryd.ntmps156
 go_wp2_with (first|((with_reducible refine gate_dst (N:=2) rfl ?_);refine box_event ?hg (N:=2) ?hd (cs:=#[.int .i64 a0_0,.slice A0_1 l0_1.length c0_1]) (t:=26) ?hr ?_;(case hd=>rfl);(case hg=>rfl);(case hr=>first|(go_simp;done)|(go_simp;rfl));intro gb617 hg w3 hbox hb;have BK617:=A_ (hbox);have GW617:=A_ ((by rw [hg];exact (below_size bb_) : w.heap.size ≤ gb617));have GE617:=A_ ((by rw [hg];exact (below_size bb_) : w.heap.size ≤ gb617));replace HB:=A_ (below_step bb_ hb);clear hb hbox hg;have hcz4_0 : w3.cell? ⟨gb617,0,none⟩ = some (.int .i64 a0_0):=blk_cell BK617.out 0;have hcz4_1 : w3.cell? ⟨gb617,1,none⟩ = some (.slice A0_1 l0_1.length c0_1):=blk_cell BK617.out 1;have hfz4_0:=blk_frozen BK617.out 0;have hfz4_1:=blk_frozen BK617.out 1))
 go_loopg [5,11] k (fun kq v5 v11 w'=>∃ (x5_1 : Int) (x11_1 : Int),v5 = .int .i64 x5_1 ∧ v11 = .int .i64 x11_1 ∧ Aside0 (spec_orBelow.l0 kq a1 x5_1 l0_1 (l0_1.length : Int) x11_1 = some r) ∧ Aside0 (kq ≤ k) ∧ Aside0 (w'.heap[gb617]? = some (.cells #[.int .i64 a0_0,(.slice A0_1 l0_1.length c0_1)] 26 (0,0))) ∧ Aside0 (Below w.heap.size w w'))
 case atStart=>exact ⟨(0),(0),(by first|rfl|(simp;done)|(simp [*];done)),(by first|rfl|(simp;done)|(simp [*];done)),H',⟨Nat.le_refl _⟩,⟨bl_ BK617⟩,⟨bb_⟩⟩
 case round =>
  clear H';try clear c1
  try clear p2
  try clear hcz4_0
  try clear hcz4_1
  try clear hfz4_0
  try clear hfz4_1
  obtain ⟨x5_1,x11_1,rfl,rfl,HA,HK1,BK617,HB⟩:=hrel;cases gk with
  | zero => exact absurd HA.out (by simp [spec_orBelow.l0])
  | succ k1 =>
   have H:=HA.out;clear HA;simp only [spec_orBelow.l0] at H
   by_cases c5 : x11_1 < (l0_1.length : Int)
   ·rw [if_pos c5] at H;have c5b0 : decide (x11_1 < (l0_1.length : Int)) = true:=decide_eq_true c5;clear c5;by_cases c6 : 0 ≤ x11_1
    ·rw [if_pos c6] at H;have c6b0 : decide (0 ≤ x11_1) = true:=decide_eq_true c6;clear c6;by_cases c7 : x11_1 < (l0_1.length : Int)
     ·rw [if_pos c7] at H;have c7b0 : decide (x11_1 < (l0_1.length : Int)) = true:=decide_eq_true c7;clear c7;replace H:=Option.bind_eq_some_iff.mp H;obtain ⟨t619,A80,H⟩:=H;replace H : (if t619 = true then (spec_orBelow.l0 k1 a1 (Go.bits .or .i64 x5_1 (shl .i64 1 x11_1)) l0_1 (l0_1.length : Int) (wrap64 (x11_1 + 1))) else (spec_orBelow.l0 k1 a1 x5_1 l0_1 (l0_1.length : Int) (wrap64 (x11_1 + 1)))) = some r:=H;have A8:=A_ A80;clear A80;by_cases c9 : t619 = true
      ·subst c9;have H1 : (spec_orBelow.l0 k1 a1 (Go.bits .or .i64 x5_1 (shl .i64 1 x11_1)) l0_1 (l0_1.length : Int) (wrap64 (x11_1 + 1))) = some r:=by rw [if_pos rfl] at H;exact H
       clear H;have H:=H1;clear H1;have c10b0:=eq_true (of_decide_eq_true (by first|(with_reducible assumption)|assumption) : 0 ≤ x11_1);obtain ⟨ji11,hji11⟩ : ∃ j_ : Int,(shl .i64 1 x11_1) = j_:=⟨_,rfl⟩;replace H : (spec_orBelow.l0 k1 a1 (Go.bits .or .i64 x5_1 (ji11)) l0_1 (l0_1.length : Int) (wrap64 (x11_1 + 1))) = some r:=by first|(rw [hji11] at H;exact H)|(simp only [hji11] at H ⊢;exact H)
       (try rw [hji11] at A8);have hji11_ : (IntKind.i64.wrap (1 * 2 ^ min x11_1.toNat 64)) = ji11:=hji11;have hji11z : x11_1 ≤ 64 → (IntKind.i64.wrap (1 * 2 ^ x11_1.toNat)) = ji11:=shl_small hji11;have hji11u : (IntKind.i64.wrap (2 ^ min x11_1.toNat 64)) = ji11:=by have h_:=hji11_;rw [Int.one_mul] at h_;exact h_
       have hji11v : x11_1 ≤ 64 → (IntKind.i64.wrap (2 ^ x11_1.toNat)) = ji11:=fun hle_=>by have h_:=hji11z hle_;rw [Int.one_mul] at h_;exact h_
       have hji11y : (wrap64 (1 * 2 ^ min x11_1.toNat 64)) = ji11:=(i64_w _).symm.trans hji11_;have hji11x : x11_1 ≤ 64 → (wrap64 (1 * 2 ^ x11_1.toNat)) = ji11:=fun h_=>(i64_w _).symm.trans (hji11z h_)
       have H':=A_ H;clear H;have p618 : 0 ≤ (x11_1 : Int):=of_decide_eq_true (by first|(with_reducible assumption)|assumption);have q618 : x11_1 < (l0_1.length : Int):=of_decide_eq_true (by first|(with_reducible assumption)|assumption);obtain ⟨ad618,e618,hx618_0⟩:=Kd.at_int HR0_1.out x11_1 p618 q618;cases e618
       (try replace hx618_0:=(HB.out.cell (World.block_lt_of_cell? w _ hx618_0)).trans hx618_0);replace p618:=eq_true p618;replace q618:=eq_true q618;go_wp2_with (first|((with_reducible refine gate_callee (f:=113) rfl ?_);refine goesL_ (some 18) rfl rfl Tryd.func113 (by kernel_rfl) rfl #[.int .i64 (rd l0_1 x11_1),.int .i64 a1] rfl au_ ?_;(with_reducible refine (spec_orHas.calls (rd l0_1 x11_1) a1 true _ A8.out).mono ?_);rintro e w' ⟨rfl,⟨nd,rfl⟩⟩;refine ⟨_,rfl,?_⟩))
       go_roundg k1
       case measure=>have:=HK1.out;omega
       case rel=>exact ⟨(Go.bits .or .i64 x5_1 (ji11)),(wrap64 (x11_1 + 1)),(by first|rfl|(simp;done)|(simp only [← hji11] <;> (first|rfl|simp))|(simp [*];done)),(by first|rfl|(simp;done)|(simp [*];done)),H',⟨by have:=HK1.out;omega⟩,⟨bl_ BK617⟩,⟨bb_⟩⟩
      ·replace c9:=Bool.eq_false_iff.mpr c9;subst c9;have H1 : (spec_orBelow.l0 k1 a1 x5_1 l0_1 (l0_1.length : Int) (wrap64 (x11_1 + 1))) = some r:=by rw [if_neg (show ¬ (false = true) by decide)] at H;exact H
       clear H;have H:=H1;clear H1;have H':=A_ H;clear H;have p618 : 0 ≤ (x11_1 : Int):=of_decide_eq_true (by first|(with_reducible assumption)|assumption);have q618 : x11_1 < (l0_1.length : Int):=of_decide_eq_true (by first|(with_reducible assumption)|assumption);obtain ⟨ad618,e618,hx618_0⟩:=Kd.at_int HR0_1.out x11_1 p618 q618;cases e618
       (try replace hx618_0:=(HB.out.cell (World.block_lt_of_cell? w _ hx618_0)).trans hx618_0);replace p618:=eq_true p618;replace q618:=eq_true q618;go_wp2_with (first|((with_reducible refine gate_callee (f:=113) rfl ?_);refine goesL_ (some 18) rfl rfl Tryd.func113 (by kernel_rfl) rfl #[.int .i64 (rd l0_1 x11_1),.int .i64 a1] rfl au_ ?_;(with_reducible refine (spec_orHas.calls (rd l0_1 x11_1) a1 false _ A8.out).mono ?_);rintro e w' ⟨rfl,⟨nd,rfl⟩⟩;refine ⟨_,rfl,?_⟩))
       go_roundg k1
       case measure=>have:=HK1.out;omega
       case rel=>exact ⟨(x5_1),(wrap64 (x11_1 + 1)),(by first|rfl|(simp;done)|(simp [*];done)),(by first|rfl|(simp;done)|(simp [*];done)),H',⟨by have:=HK1.out;omega⟩,⟨bl_ BK617⟩,⟨bb_⟩⟩
     ·rw [if_neg c7] at H;exact absurd H (by simp)
    ·rw [if_neg c6] at H;exact absurd H (by simp)
   ·rw [if_neg c5] at H;have c5b0 : decide (x11_1 < (l0_1.length : Int)) = false:=decide_eq_false c5;clear c5;obtain rfl:=Option.some.inj H;go_wp2
    go_ret
    exact ⟨by first|rfl|(simp [errW_none,errW_some] <;> rfl)|(simp [*,errW_none,errW_some] <;> rfl),bb_⟩
mutual
def spec_orCount.l0 : Nat → List Int → Int → Int → Int → List Int → Option (List Int)
 | 0,_,_,_,_,_=>none
 | k + 1,x3,x13,x14,x939000,x939001=>if x14 < x13 then (spec_orCount.l1 k x3 x14 0 x13 x14 x939000 x939001) else (some x3)
def spec_orCount.l1 : Nat → List Int → Int → Int → Int → Int → Int → List Int → Option (List Int)
 | 0,_,_,_,_,_,_,_=>none
 | k + 1,x3,x4,x5,x13,x14,x939000,x939001=>if x5 < x939000 then ((spec_orHas.f x4 x5).bind fun t943=>(if t943 = true then (spec_orCount.l1 k x3 x4 (wrap64 (x5 + 1)) x13 x14 x939000 x939001) else ((spec_orBelow.f k x939000 x939001 x5).bind fun t944=>(if (Go.bits .andNot .i64 t944 x4) = 0 then (if 0 ≤ x5 then (if 0 ≤ (Go.bits .or .i64 x4 (shl .i64 1 x5)) then (if (Go.bits .or .i64 x4 (shl .i64 1 x5)) < (x3.length : Int) then (if 0 ≤ x4 then (if x4 < (x3.length : Int) then (spec_orCount.l1 k (x3.set ((Go.bits .or .i64 x4 (shl .i64 1 x5)) : Int).toNat (wrap64 ((rd x3 (Go.bits .or .i64 x4 (shl .i64 1 x5))) + (rd x3 x4)))) x4 (wrap64 (x5 + 1)) x13 x14 x939000 x939001) else (none)) else (none)) else (none)) else (none)) else (none)) else (spec_orCount.l1 k x3 x4 (wrap64 (x5 + 1)) x13 x14 x939000 x939001))))) else (spec_orCount.l0 k x3 x13 (wrap64 (x14 + 1)) x939000 x939001)
end
def spec_orCount.f (k : Nat) (a0_0 : Int) (l0_1 : List Int) : Option (List Int) := if 0 ≤ a0_0 then (if 0 ≤ (shl .i64 1 a0_0) then (if (shl .i64 1 a0_0 : Int).toNat ≤ 35184372088832 then ((some (List.replicate (shl .i64 1 a0_0 : Int).toNat 0 : List Int)).bind fun y939 => (if 0 < (y939.length : Int) then (spec_orCount.l0 k (y939.set (0 : Int).toNat 1) (y939.length : Int) 0 a0_0 l0_1) else (none))) else (none)) else (none)) else (none)
def spec_orCount.T10 : Bool × List (List Nat × List Nat) := (true, [([], []), ([], []), ([], []), ([2], [2]), ([1, 3], [1, 3]), ([0, 4], [0, 4]), ([5], [5]), ([], []), ([], []), ([7, 8], [7, 8]), ([9], [9]), ([6, 10], [6, 10]), ([0, 4, 0, 1, 2, 3, 4, 5, 6, 7, 8, 9, 10, 11], [0, 4]), ([12, 11, 0, 1, 2, 3, 4, 5, 6, 7, 8, 9, 10, 11], [11, 12])])
def spec_orCount.B10 : List Nat := [0, 0, 0, 4, 14, 31, 63, 0, 0, 384, 896, 2047, 4095, 8191]
theorem spec_orCount.tab10 : rtab .any (opsOf Tryd.f119 10) = spec_orCount.T10:=by kernel_rfl
theorem spec_orCount.bits10 : waitsOk spec_orCount.T10.2 spec_orCount.B10 = true:=by kernel_rfl
set_option maxHeartbeats 8000000 in
set_option maxRecDepth 100000 in
theorem spec_orCount.calls (k : Nat) (a0_0 : Int) (A0_1 : Option Addr) (c0_1 : Nat) (l0_1 : List Int) (r : List Int) (w : World) (hr0_1 : Kd.C (Kd.int .i64) w A0_1 l0_1.length l0_1) (hc0_1 : l0_1.length ≤ c0_1) (h : spec_orCount.f k a0_0 l0_1 = some r) :
 Calls Tryd.prog 119 #[.agg #[.int .i64 a0_0,.slice A0_1 l0_1.length c0_1]] w fun e w'=>∃ v0_ : Value,e = .returned (v0_) ∧ Kd.R (Kd.int .i64) 3 w' w.heap.size (fun _=>True) v0_ r ∧ Below w.heap.size w w':=by
 have hu26:=Tryd.underlying26;have HR0_1:=A_ hr0_1;have HC0_1:=A_ hc0_1;clear hr0_1 hc0_1;have HB:=A_ (Below.refl w.heap.size w);have H : (if 0 ≤ a0_0 then (if 0 ≤ (shl .i64 1 a0_0) then (if (shl .i64 1 a0_0 : Int).toNat ≤ 35184372088832 then ((some (List.replicate (shl .i64 1 a0_0 : Int).toNat 0 : List Int)).bind fun y939=>(if 0 < (y939.length : Int) then (spec_orCount.l0 k (y939.set (0 : Int).toNat 1) (y939.length : Int) 0 a0_0 l0_1) else (none))) else (none)) else (none)) else (none)) = some r:=h;clear h;by_cases c2 : 0 ≤ a0_0
 ·rw [if_pos c2] at H;have c2b0:=eq_true c2;have c2b1 : decide (0 ≤ a0_0) = true:=decide_eq_true c2;clear c2;obtain ⟨ji3,hji3⟩ : ∃ j_ : Int,(shl .i64 1 a0_0) = j_:=⟨_,rfl⟩;replace H : (if 0 ≤ (ji3) then (if (ji3 : Int).toNat ≤ 35184372088832 then ((some (List.replicate (ji3 : Int).toNat 0 : List Int)).bind fun y939=>(if 0 < (y939.length : Int) then (spec_orCount.l0 k (y939.set (0 : Int).toNat 1) (y939.length : Int) 0 a0_0 l0_1) else (none))) else (none)) else (none)) = some r:=by first|(rw [hji3] at H;exact H)|(simp only [hji3] at H ⊢;exact H)
  have hji3_ : (IntKind.i64.wrap (1 * 2 ^ min a0_0.toNat 64)) = ji3:=hji3;have hji3z : a0_0 ≤ 64 → (IntKind.i64.wrap (1 * 2 ^ a0_0.toNat)) = ji3:=shl_small hji3;have hji3u : (IntKind.i64.wrap (2 ^ min a0_0.toNat 64)) = ji3:=by have h_:=hji3_;rw [Int.one_mul] at h_;exact h_
  have hji3v : a0_0 ≤ 64 → (IntKind.i64.wrap (2 ^ a0_0.toNat)) = ji3:=fun hle_=>by have h_:=hji3z hle_;rw [Int.one_mul] at h_;exact h_
  have hji3y : (wrap64 (1 * 2 ^ min a0_0.toNat 64)) = ji3:=(i64_w _).symm.trans hji3_;have hji3x : a0_0 ≤ 64 → (wrap64 (1 * 2 ^ a0_0.toNat)) = ji3:=fun h_=>(i64_w _).symm.trans (hji3z h_)
  by_cases c4 : 0 ≤ (ji3)
  ·rw [if_pos c4] at H;have c4b0:=eq_true c4;have c4b1 : decide (0 ≤ (ji3)) = true:=decide_eq_true c4;clear c4;by_cases c5 : (ji3 : Int).toNat ≤ 35184372088832
   ·rw [if_pos c5] at H;have c5b0:=eq_true c5;have c5b1 : decide ((ji3 : Int).toNat ≤ 35184372088832) = true:=decide_eq_true c5;clear c5;obtain ⟨y939,hy939⟩ : ∃ y_ : List Int,y_ = (List.replicate (ji3 : Int).toNat 0):=⟨_,rfl⟩;replace H : (if 0 < (y939.length : Int) then (spec_orCount.l0 k (y939.set (0 : Int).toNat 1) (y939.length : Int) 0 a0_0 l0_1) else (none)) = some r:=by first|(rw [hy939];with_reducible exact H)|(have H2_:=(Option.bind_some _ _).symm.trans H;rw [hy939];with_reducible exact H2_)|(have H2_:=(Option.bind_some _ _).symm.trans H;with_reducible exact H2_)|with_reducible exact H|(rw [hy939];exact H)|exact H
    have Ny939:=A_ hy939;clear hy939;by_cases c6 : 0 < (y939.length : Int)
    ·rw [if_pos c6] at H;have c6b0 : decide (0 < (y939.length : Int)) = true:=decide_eq_true c6;have c6b1 : decide (0 < y939.length) = true:=decide_eq_true (by omega);clear c6;obtain ⟨y942,hy942⟩ : ∃ y_ : List Int,y_ = (y939.set (0 : Int).toNat 1):=⟨_,rfl⟩;replace H : (spec_orCount.l0 k y942 (y939.length : Int) 0 a0_0 l0_1) = some r:=by first|(rw [hy942];with_reducible exact H)|(have H2_:=(Option.bind_some _ _).symm.trans H;rw [hy942];with_reducible exact H2_)|(have H2_:=(Option.bind_some _ _).symm.trans H;with_reducible exact H2_)|with_reducible exact H|(rw [hy942];exact H)|exact H
     have Ny942:=A_ hy942;clear hy942;have H':=A_ H;clear H;go_enter Tryd.func119,Tryd.ntmps119
     go_wp2_with (first|((with_reducible refine gate_dst (N:=1) rfl ?_);refine box_event ?hg (N:=1) ?hd (cs:=#[.int .i64 a0_0,.slice A0_1 l0_1.length c0_1]) (t:=26) ?hr ?_;(case hd=>rfl);(case hg=>rfl);(case hr=>first|(go_simp;done)|(go_simp;rfl));intro gb938 hg w8 hbox hb;have BK938:=A_ (hbox);have GW938:=A_ ((by rw [hg];exact (below_size bb_) : w.heap.size ≤ gb938));have GE938:=A_ ((by rw [hg];exact (below_size bb_) : w.heap.size ≤ gb938));replace HB:=A_ (below_step bb_ hb);clear hb hbox hg;have hcz9_0 : w8.cell? ⟨gb938,0,none⟩ = some (.int .i64 a0_0):=blk_cell BK938.out 0;have hcz9_1 : w8.cell? ⟨gb938,1,none⟩ = some (.slice A0_1 l0_1.length c0_1):=blk_cell BK938.out 1;have hfz9_0:=blk_frozen BK938.out 0;have hfz9_1:=blk_frozen BK938.out 1)|((with_reducible refine gate_dst (N:=9) rfl ?_);refine Kd.R_make (Kd.int .i64) _ 3 rfl (N:=9) rfl 22 _ _ rfl ji3 rfl rfl Tryd.underlying22 (.int .i64 0) 8 info3 rfl (by decide) (by omega) 0 (ok:=fun _=>True) (okp:=fun _=>True) rfl (fun _ hk=>hk) trivial (of_decide_eq_true (by first|(with_reducible assumption)|assumption)) (Nat.le_trans (Nat.mul_le_mul_right _ (of_decide_eq_true (by first|(with_reducible assumption)|assumption) : ji3.toNat ≤ 35184372088832)) (by omega)) (Below.refl _ _) (Nat.le_refl _) ?_;intro v940 w10 ho11 hb hg_ hnew_;clear hg_ hnew_;(first|rw [← Ny939.out] at ho11|(simp only [Int.reduceToNat] at ho11;rw [← Ny939.out] at ho11));have HO941:=A_ (Kd.R_lower ho11 (below_size bb_));replace BK938:=bz BK938 hb;replace HB:=A_ (below_step bb_ hb);clear hb ho11;have p7 : 0 ≤ (0 : Int):=(by omega);have q7 : (0 : Int) < ((y939.length : Int) : Int):=of_decide_eq_true (by first|(with_reducible assumption)|assumption);have qi7 : (0 < y939.length) = True:=eq_true (by omega);obtain ⟨go7,co7,eo7,gb7,gl7,cl7,HG7⟩:=Kd.R_form HO941.out (by omega);(first|cases eo7|(injection eo7 with ea_ en_ ec_;(first|subst ea_|(injection ea_ with ea_;subst ea_));subst ec_;clear en_));have GB7:=A_ gb7;have GG7:=A_ HG7;clear gb7 gl7 HG7;obtain ⟨hx7_0,hf7_0⟩:=Kd.R_celln 0 HO941.out (0 : Int) p7 q7;(try rw [show ((0 : Int)).toNat = 0 from rfl] at hx7_0);(try simp only [Nat.reduceMul,Nat.zero_mul,Nat.zero_add,Nat.reduceAdd] at hx7_0);(try rw [show ((0 : Int)).toNat = 0 from rfl] at hf7_0);(try simp only [Nat.reduceMul,Nat.zero_mul,Nat.zero_add,Nat.reduceAdd] at hf7_0);replace p7:=eq_true p7;replace q7:=eq_true q7;obtain ⟨hy12_,hz12_⟩:=Kd.R_celln 0 HO941.out (0 : Int) (by omega) (of_decide_eq_true (by first|(with_reducible assumption)|assumption));(try simp only [Int.reduceToNat,Int.toNat_zero,Int.toNat_ofNat,Nat.reduceMul,Nat.zero_mul,Nat.zero_add] at hy12_ hz12_);(try rw [show ((0 : Int)).toNat = 0 from rfl] at hy12_);(try rw [show ((0 : Int)).toNat = 0 from rfl] at hz12_);have HP12:=Kd.R_putg HO941.out (0 : Int) 1)|((with_reducible refine gate_store (t:=3) (p:=11) rfl ?_);refine store_event (t:=3) (p:=11) (v:=?vo_w13) (w1:=(w10.setCell ⟨go7,(0 : Int).toNat,none⟩ (.int .i64 1))) ?hg ?ho ?hn ?hr ?_;(case ho=>rfl);(case hg=>rfl);(case hn=>rfl);(case hr=>first|(go_simp;done)|(go_simp;rfl));intro w13 hw;have hg : w10.grownBy w13 (some go7):=(by rw [hw];exact HP12.2);have hp_ : Kd.R (Kd.int .i64) 3 w13 w.heap.size (fun _=>True) (.slice (some ⟨go7,0,none⟩) y939.length co7) y942:=(by rw [hw,Ny942.out];exact HP12.1);clear HP12;replace BK938:=A_ (blk_grown (g:=gb938) (o:=.cells #[.int .i64 a0_0,.slice A0_1 l0_1.length c0_1] 26 (0,0)) (bl_ BK938) hg (Kd.R_ne HO941.out BK938.out (by decide)));replace HO941:=A_ (hp_);replace HB:=A_ ((by rw [hw];exact below_set (HB.out) GB7.out : Below w.heap.size w w13));clear hg hw hp_))
     go_loopg [14] k (fun kq v14 w'=>∃ (x3_1 : List Int) (x14_1 : Int),v14 = .int .i64 x14_1 ∧ Aside0 (spec_orCount.l0 kq x3_1 (y939.length : Int) x14_1 a0_0 l0_1 = some r) ∧ Aside0 (kq ≤ k) ∧ Aside0 (Kd.R (Kd.int .i64) 3 w' w.heap.size (fun _=>True) (.slice (some ⟨go7,0,none⟩) y939.length co7) x3_1) ∧ Aside0 (w'.heap[gb938]? = some (.cells #[.int .i64 a0_0,(.slice A0_1 l0_1.length c0_1)] 26 (0,0))) ∧ Aside0 (Below w.heap.size w w'))
     case atStart=>exact ⟨(y942),(0),(by first|rfl|(simp;done)|(simp [*];done)),H',⟨Nat.le_refl _⟩,⟨by (with_reducible repeat (first|apply Kd.R_alloc|apply Kd.R_drewN|apply Kd.R_drew));exact HO941.out⟩,⟨bl_ BK938⟩,⟨bb_⟩⟩
     case round =>
      clear H';try clear c1
      try clear c2
      try clear c2b0
      try clear c2b1
      try clear p2
      try clear c4
      try clear c4b0
      try clear c4b1
      try clear c5
      try clear c5b0
      try clear c5b1
      try clear c6
      try clear c6b0
      try clear c6b1
      try clear p6
      try clear p7
      try clear q7
      try clear hx7
      try clear qi7
      try clear hf7
      try clear c11
      try clear hcz9_0
      try clear hcz9_1
      try clear hfz9_0
      try clear hfz9_1
      try clear hx7_0
      try clear p7
      try clear q7
      obtain ⟨x3_1,x14_1,rfl,HA,HK1,HO_3,BK938,HB⟩:=hrel;have hl3_1:=(Kd.R_reads' HO_3.out).1;rw [hl3_1] at HO_3;(try simp only [hl3_1]);(try simp only [hl3_1] at BK938);cases gk with
      | zero=>exact absurd HA.out (by simp [spec_orCount.l0])
      | succ k1 =>
       have H:=HA.out;clear HA;simp only [spec_orCount.l0] at H
       by_cases c14 : x14_1 < (y939.length : Int)
       ·rw [if_pos c14] at H;have c14b0 : decide (x14_1 < (y939.length : Int)) = true:=decide_eq_true c14;(try (have c14b8:=c14b0;simp only [hl3_1] at c14b8));clear c14;have H':=A_ H;clear H;go_wp2
        go_loopg [5] k1 (fun kq v5 w'=>∃ (x3_2 : List Int) (x5_2 : Int),v5 = .int .i64 x5_2 ∧ Aside0 (spec_orCount.l1 kq x3_2 x14_1 x5_2 (y939.length : Int) x14_1 a0_0 l0_1 = some r) ∧ Aside0 (kq ≤ k1) ∧ Aside0 (Kd.R (Kd.int .i64) 3 w' w.heap.size (fun _=>True) (.slice (some ⟨go7,0,none⟩) x3_1.length co7) x3_2) ∧ Aside0 (w'.heap[gb938]? = some (.cells #[.int .i64 a0_0,(.slice A0_1 l0_1.length c0_1)] 26 (0,0))) ∧ Aside0 (Below w.heap.size w w'))
        case atStart=>exact ⟨(x3_1),(0),(by first|rfl|(simp;done)|(simp [*];done)),H',⟨Nat.le_refl _⟩,⟨by (try simp only [hl3_1]);(with_reducible repeat (first|apply Kd.R_alloc|apply Kd.R_drewN|apply Kd.R_drew));exact HO_3.out⟩,⟨by (try simp only [hl3_1]);(with_reducible repeat (first|refine blk_drewN ?_ _|refine blk_drew ?_|refine blk_alloc ?_ _));exact BK938.out⟩,⟨bb_⟩⟩
        case round =>
         clear H';try clear c1
         try clear c2
         try clear c2b0
         try clear c2b1
         try clear p2
         try clear c4
         try clear c4b0
         try clear c4b1
         try clear c5
         try clear c5b0
         try clear c5b1
         try clear c6
         try clear c6b0
         try clear c6b1
         try clear p6
         try clear p7
         try clear q7
         try clear hx7
         try clear qi7
         try clear hf7
         try clear c11
         try clear c14
         try clear c14b0
         try clear hcz9_0
         try clear hcz9_1
         try clear hfz9_0
         try clear hfz9_1
         try clear hx7_0
         try clear p2
         try clear p6
         try clear p7
         try clear q7
         obtain ⟨x3_2,x5_2,rfl,HA,HK2,HO_3,BK938,HB⟩:=hrel;have hl3_2:=(Kd.R_reads' HO_3.out).1;rw [hl3_2] at HO_3;(try simp only [hl3_2]);(try simp only [hl3_2] at BK938);cases gk with
         | zero=>exact absurd HA.out (by simp [spec_orCount.l1])
         | succ k2 =>
          have H:=HA.out;clear HA;simp only [spec_orCount.l1] at H
          by_cases c15 : x5_2 < a0_0
          ·rw [if_pos c15] at H;have c15b0 : decide (x5_2 < a0_0) = true:=decide_eq_true c15;clear c15;replace H:=Option.bind_eq_some_iff.mp H;obtain ⟨t943,A160,H⟩:=H;replace H : (if t943 = true then (spec_orCount.l1 k2 x3_2 x14_1 (wrap64 (x5_2 + 1)) (y939.length : Int) x14_1 a0_0 l0_1) else ((spec_orBelow.f k2 a0_0 l0_1 x5_2).bind fun t944=>(if (Go.bits .andNot .i64 t944 x14_1) = 0 then (if 0 ≤ x5_2 then (if 0 ≤ (Go.bits .or .i64 x14_1 (shl .i64 1 x5_2)) then (if (Go.bits .or .i64 x14_1 (shl .i64 1 x5_2)) < (x3_2.length : Int) then (if 0 ≤ x14_1 then (if x14_1 < (x3_2.length : Int) then (spec_orCount.l1 k2 (x3_2.set ((Go.bits .or .i64 x14_1 (shl .i64 1 x5_2)) : Int).toNat (wrap64 ((rd x3_2 (Go.bits .or .i64 x14_1 (shl .i64 1 x5_2))) + (rd x3_2 x14_1)))) x14_1 (wrap64 (x5_2 + 1)) (y939.length : Int) x14_1 a0_0 l0_1) else (none)) else (none)) else (none)) else (none)) else (none)) else (spec_orCount.l1 k2 x3_2 x14_1 (wrap64 (x5_2 + 1)) (y939.length : Int) x14_1 a0_0 l0_1)))) = some r:=H;have A16:=A_ A160;clear A160;by_cases c17 : t943 = true
           ·subst c17;have H1 : (spec_orCount.l1 k2 x3_2 x14_1 (wrap64 (x5_2 + 1)) (y939.length : Int) x14_1 a0_0 l0_1) = some r:=by rw [if_pos rfl] at H;exact H
            clear H;have H:=H1;clear H1;have H':=A_ H;clear H;have hcz18_0 : wr.cell? ⟨gb938,0,none⟩ = some (.int .i64 a0_0):=blk_cell BK938.out 0;have hcz18_1 : wr.cell? ⟨gb938,1,none⟩ = some (.slice A0_1 l0_1.length c0_1):=blk_cell BK938.out 1;have hfz18_0:=blk_frozen BK938.out 0;have hfz18_1:=blk_frozen BK938.out 1;go_wp2_with (first|((with_reducible refine gate_callee (f:=113) rfl ?_);refine goesL_ (some 25) rfl rfl Tryd.func113 (by kernel_rfl) rfl #[.int .i64 x14_1,.int .i64 x5_2] rfl au_ ?_;(with_reducible refine (spec_orHas.calls x14_1 x5_2 true _ A16.out).mono ?_);rintro e w' ⟨rfl,⟨nd,rfl⟩⟩;refine ⟨_,rfl,?_⟩))
            (try simp only [← hl3_2]);go_roundg k2
            case measure=>have:=HK1.out;have:=HK2.out;omega
            case rel=>exact ⟨(x3_2),(wrap64 (x5_2 + 1)),(by first|rfl|(simp;done)|(simp [*];done)),H',⟨by have:=HK1.out;have:=HK2.out;omega⟩,⟨by (try simp only [hl3_1]);(try simp only [hl3_2]);(with_reducible repeat (first|apply Kd.R_alloc|apply Kd.R_drewN|apply Kd.R_drew));exact HO_3.out⟩,⟨by (try simp only [hl3_1]);(try simp only [hl3_2]);(with_reducible repeat (first|refine blk_drewN ?_ _|refine blk_drew ?_|refine blk_alloc ?_ _));exact BK938.out⟩,⟨bb_⟩⟩
           ·replace c17:=Bool.eq_false_iff.mpr c17;subst c17;have H1 : ((spec_orBelow.f k2 a0_0 l0_1 x5_2).bind fun t944=>(if (Go.bits .andNot .i64 t944 x14_1) = 0 then (if 0 ≤ x5_2 then (if 0 ≤ (Go.bits .or .i64 x14_1 (shl .i64 1 x5_2)) then (if (Go.bits .or .i64 x14_1 (shl .i64 1 x5_2)) < (x3_2.length : Int) then (if 0 ≤ x14_1 then (if x14_1 < (x3_2.length : Int) then (spec_orCount.l1 k2 (x3_2.set ((Go.bits .or .i64 x14_1 (shl .i64 1 x5_2)) : Int).toNat (wrap64 ((rd x3_2 (Go.bits .or .i64 x14_1 (shl .i64 1 x5_2))) + (rd x3_2 x14_1)))) x14_1 (wrap64 (x5_2 + 1)) (y939.length : Int) x14_1 a0_0 l0_1) else (none)) else (none)) else (none)) else (none)) else (none)) else (spec_orCount.l1 k2 x3_2 x14_1 (wrap64 (x5_2 + 1)) (y939.length : Int) x14_1 a0_0 l0_1))) = some r:=by rw [if_neg (show ¬ (false = true) by decide)] at H;exact H
            clear H;have H:=H1;clear H1;replace H:=Option.bind_eq_some_iff.mp H;obtain ⟨t944,A190,H⟩:=H;replace H : (if (Go.bits .andNot .i64 t944 x14_1) = 0 then (if 0 ≤ x5_2 then (if 0 ≤ (Go.bits .or .i64 x14_1 (shl .i64 1 x5_2)) then (if (Go.bits .or .i64 x14_1 (shl .i64 1 x5_2)) < (x3_2.length : Int) then (if 0 ≤ x14_1 then (if x14_1 < (x3_2.length : Int) then (spec_orCount.l1 k2 (x3_2.set ((Go.bits .or .i64 x14_1 (shl .i64 1 x5_2)) : Int).toNat (wrap64 ((rd x3_2 (Go.bits .or .i64 x14_1 (shl .i64 1 x5_2))) + (rd x3_2 x14_1)))) x14_1 (wrap64 (x5_2 + 1)) (y939.length : Int) x14_1 a0_0 l0_1) else (none)) else (none)) else (none)) else (none)) else (none)) else (spec_orCount.l1 k2 x3_2 x14_1 (wrap64 (x5_2 + 1)) (y939.length : Int) x14_1 a0_0 l0_1)) = some r:=H;have A19:=A_ A190;clear A190;by_cases c20 : (Go.bits .andNot .i64 t944 x14_1) = 0
            ·rw [if_pos c20] at H;have c20b0 : ((Go.bits .andNot .i64 t944 x14_1) == 0) = true:=beq_iff_eq.mpr c20;have c20b1 : ((Go.bits .andNot .i64 t944 x14_1) != 0) = false:=bne_eq_false_iff_eq.mpr c20;clear c20;by_cases c21 : 0 ≤ x5_2
             ·rw [if_pos c21] at H;have c21b0:=eq_true c21;have c21b1 : decide (0 ≤ x5_2) = true:=decide_eq_true c21;clear c21;obtain ⟨ji22,hji22⟩ : ∃ j_ : Int,(shl .i64 1 x5_2) = j_:=⟨_,rfl⟩;replace H : (if 0 ≤ (Go.bits .or .i64 x14_1 (ji22)) then (if (Go.bits .or .i64 x14_1 (ji22)) < (x3_2.length : Int) then (if 0 ≤ x14_1 then (if x14_1 < (x3_2.length : Int) then (spec_orCount.l1 k2 (x3_2.set ((Go.bits .or .i64 x14_1 (ji22)) : Int).toNat (wrap64 ((rd x3_2 (Go.bits .or .i64 x14_1 (ji22))) + (rd x3_2 x14_1)))) x14_1 (wrap64 (x5_2 + 1)) (y939.length : Int) x14_1 a0_0 l0_1) else (none)) else (none)) else (none)) else (none)) = some r:=by first|(rw [hji22] at H;exact H)|(simp only [hji22] at H ⊢;exact H)
              (try rw [hji22] at A16);(try rw [hji22] at A19);have hji22_ : (IntKind.i64.wrap (1 * 2 ^ min x5_2.toNat 64)) = ji22:=hji22;have hji22z : x5_2 ≤ 64 → (IntKind.i64.wrap (1 * 2 ^ x5_2.toNat)) = ji22:=shl_small hji22;have hji22u : (IntKind.i64.wrap (2 ^ min x5_2.toNat 64)) = ji22:=by have h_:=hji22_;rw [Int.one_mul] at h_;exact h_
              have hji22v : x5_2 ≤ 64 → (IntKind.i64.wrap (2 ^ x5_2.toNat)) = ji22:=fun hle_=>by have h_:=hji22z hle_;rw [Int.one_mul] at h_;exact h_
              have hji22y : (wrap64 (1 * 2 ^ min x5_2.toNat 64)) = ji22:=(i64_w _).symm.trans hji22_;have hji22x : x5_2 ≤ 64 → (wrap64 (1 * 2 ^ x5_2.toNat)) = ji22:=fun h_=>(i64_w _).symm.trans (hji22z h_)
              by_cases c23 : 0 ≤ (Go.bits .or .i64 x14_1 (ji22))
              ·rw [if_pos c23] at H;have c23b0 : decide (0 ≤ (Go.bits .or .i64 x14_1 (ji22))) = true:=decide_eq_true c23;clear c23;by_cases c24 : (Go.bits .or .i64 x14_1 (ji22)) < (x3_2.length : Int)
               ·rw [if_pos c24] at H;have c24b0 : decide ((Go.bits .or .i64 x14_1 (ji22)) < (x3_2.length : Int)) = true:=decide_eq_true c24;(try (have c24b8:=c24b0;simp only [hl3_1,hl3_2] at c24b8));clear c24;by_cases c25 : 0 ≤ x14_1
                ·rw [if_pos c25] at H;have c25b0 : decide (0 ≤ x14_1) = true:=decide_eq_true c25;clear c25;by_cases c26 : x14_1 < (x3_2.length : Int)
                 ·rw [if_pos c26] at H;have c26b0 : decide (x14_1 < (x3_2.length : Int)) = true:=decide_eq_true c26;(try (have c26b8:=c26b0;simp only [hl3_1,hl3_2] at c26b8));clear c26;obtain ⟨y947,hy947⟩ : ∃ y_ : List Int,y_ = (x3_2.set ((Go.bits .or .i64 x14_1 (ji22)) : Int).toNat (wrap64 ((rd x3_2 (Go.bits .or .i64 x14_1 (ji22))) + (rd x3_2 x14_1)))):=⟨_,rfl⟩;replace H : (spec_orCount.l1 k2 y947 x14_1 (wrap64 (x5_2 + 1)) (y939.length : Int) x14_1 a0_0 l0_1) = some r:=by first|(rw [hy947];with_reducible exact H)|(have H2_:=(Option.bind_some _ _).symm.trans H;rw [hy947];with_reducible exact H2_)|(have H2_:=(Option.bind_some _ _).symm.trans H;with_reducible exact H2_)|with_reducible exact H|(rw [hy947];exact H)|exact H
                  have Ny947:=A_ hy947;clear hy947;have H':=A_ H;clear H;have hcz28_0 : wr.cell? ⟨gb938,0,none⟩ = some (.int .i64 a0_0):=blk_cell BK938.out 0;have hcz28_1 : wr.cell? ⟨gb938,1,none⟩ = some (.slice A0_1 l0_1.length c0_1):=blk_cell BK938.out 1;have hfz28_0:=blk_frozen BK938.out 0;have hfz28_1:=blk_frozen BK938.out 1;try go_wp2_with (first|((with_reducible refine gate_callee (f:=113) rfl ?_);refine goesL_ (some 25) rfl rfl Tryd.func113 (by kernel_rfl) rfl #[.int .i64 x14_1,.int .i64 x5_2] rfl au_ ?_;(with_reducible refine (spec_orHas.calls x14_1 x5_2 false _ A16.out).mono ?_);rintro e w' ⟨rfl,⟨nd,rfl⟩⟩;refine ⟨_,rfl,?_⟩;(try (rw [drewN_self wr];generalize hq_ : World.drewN wr _ = wr;have n0_ : Aside0 (Kd.R (Kd.int .i64) 3 wr w.heap.size (fun _=>True) (.slice (some ⟨go7,0,none⟩) x3_2.length co7) x3_2):=⟨by rw [← hq_];exact (rl_ HO_3)⟩;have n1_ : Aside0 (wr.heap[gb938]? = some (.cells #[.int .i64 a0_0,.slice A0_1 l0_1.length c0_1] 26 (0,0))):=⟨by rw [← hq_];exact (bl_ BK938)⟩;have n2_ : Aside0 (Below w.heap.size w wr):=⟨by rw [← hq_];exact bb_⟩;clear HO_3 BK938 HB hq_;have HO_3:=n0_;have BK938:=n1_;have HB:=n2_;clear n0_ n1_ n2_;have hcu938_0 : wr.cell? ⟨gb938,0,none⟩ = some (.int .i64 a0_0):=blk_cell BK938.out 0;have hfu938_0:=blk_frozen BK938.out 0;have hcu938_1 : wr.cell? ⟨gb938,1,none⟩ = some (.slice A0_1 l0_1.length c0_1):=blk_cell BK938.out 1;have hfu938_1:=blk_frozen BK938.out 1)))|(go_at_call 156;(with_reducible refine (spec_orBelow.calls k2 a0_0 _ _ l0_1 x5_2 t944 _ ?side1 ?side2 A19.out).mono ?_);(case side1=>exact cl_ (Kd.C_below HR0_1.out HB.out));(case side2=>exact HC0_1.out);rintro e w29 ⟨rfl,hb⟩;replace HO_3:=rb_ HO_3 hb;replace BK938:=bz BK938 hb;replace HB:=A_ (below_step bb_ hb);(try clear hb);(try clear hb2);(try clear hk);(try clear hi)))
                  replace HO_3:=A_ (Kd.R_drew HO_3.out);replace BK938:=A_ (blk_drew BK938.out);replace HB:=A_ (below_drew1 HB.out);have p945 : 0 ≤ ((Go.bits .or .i64 x14_1 (ji22)) : Int):=of_decide_eq_true (by first|(with_reducible assumption)|assumption);have q945 : (Go.bits .or .i64 x14_1 (ji22)) < (x3_2.length : Int):=of_decide_eq_true (by first|(with_reducible assumption)|assumption);obtain ⟨ad945,e945,hx945_0⟩:=Kd.at_int (Kd.R_reads' HO_3.out).2.2 (Go.bits .or .i64 x14_1 (ji22)) p945 q945;obtain rfl : (⟨go7,0,none⟩ : Addr) = ad945:=(by injection e945);(first|simp only [add_plain] at hx945_0|simp only [add_at] at hx945_0|simp only [Addr.add,Nat.zero_add] at hx945_0|skip)
                  replace p945:=eq_true p945;replace q945:=eq_true q945;have p946 : 0 ≤ (x14_1 : Int):=of_decide_eq_true (by first|(with_reducible assumption)|assumption);have q946 : x14_1 < (x3_2.length : Int):=of_decide_eq_true (by first|(with_reducible assumption)|assumption);obtain ⟨ad946,e946,hx946_0⟩:=Kd.at_int (Kd.R_reads' HO_3.out).2.2 x14_1 p946 q946;obtain rfl : (⟨go7,0,none⟩ : Addr) = ad946:=(by injection e946);(first|simp only [add_plain] at hx946_0|simp only [add_at] at hx946_0|simp only [Addr.add,Nat.zero_add] at hx946_0|skip)
                  replace p946:=eq_true p946;replace q946:=eq_true q946;have p27 : 0 ≤ ((Go.bits .or .i64 x14_1 (ji22)) : Int):=of_decide_eq_true (by first|(with_reducible assumption)|assumption);have q27 : ((Go.bits .or .i64 x14_1 (ji22)) : Int) < ((x3_2.length : Int) : Int):=of_decide_eq_true (by first|(with_reducible assumption)|assumption);obtain ⟨hx27_0,hf27_0⟩:=Kd.R_celln 0 HO_3.out ((Go.bits .or .i64 x14_1 (ji22)) : Int) p27 q27;replace p27:=eq_true p27;replace q27:=eq_true q27;have HP31:=Kd.R_putn HO_3.out ((Go.bits .or .i64 x14_1 (ji22)) : Int) (wrap64 ((rd x3_2 (Go.bits .or .i64 x14_1 (ji22))) + (rd x3_2 x14_1)));rw [← Ny947.out] at HP31;have HQ31:=A_ HP31;clear HP31;refine start_ (n:=14) (S:=fun w'=>w'.cell? ⟨go7,((Go.bits .or .i64 x14_1 (ji22))).toNat,none⟩ = some (.int .i64 (rd x3_2 (Go.bits .or .i64 x14_1 (ji22)))) ∧ w'.cell? ⟨go7,(x14_1).toNat,none⟩ = some (.int .i64 (rd x3_2 x14_1))) (ds:=[13]) #[F,F,F,F,F,F,F,F,F,F,F,F,F,F] (by kernel_rfl) rfl rfl ⟨hx945_0,hx946_0⟩ (fun hHeld=>?_);refine with_tabW spec_orCount.tab10 spec_orCount.bits10 (fun HT_ HW_=>?_)
                  generalize w29.drew = w30 at HO_3 BK938 HB HQ31 hf27_0 hx27_0 hx945_0 hx946_0 hHeld ⊢
                  refine pure_ (i:=0) (N:=some 35) (v:=?_) (a':=?_) #[T,F,F,F,F,F,F,F,F,F,F,F,F,F] rfl rfl (any_of HT_.out (by kernel_rfl)) (fun _ _ _ h=>h) (Or.inl ⟨by rfl,?_⟩) ?_ ?_
                  rotate_left;·intro w';go_simp;with_reducible rfl
                  rotate_left;·simp only [Act.put,L_,M_,N_,i64_w,i32_w];rfl
                  refine pure_ (i:=1) (N:=some 36) (v:=?_) (a':=?_) #[T,T,F,F,F,F,F,F,F,F,F,F,F,F] rfl rfl (any_of HT_.out (by kernel_rfl)) (fun _ _ _ h=>h) (Or.inl ⟨by rfl,?_⟩) ?_ ?_
                  rotate_left;·intro w';go_simp;with_reducible rfl
                  rotate_left;·simp only [Act.put,L_,M_,N_,i64_w,i32_w];rfl
                  refine pure_ (i:=2) (N:=some 37) (v:=?_) (a':=?_) #[T,T,T,F,F,F,F,F,F,F,F,F,F,F] rfl rfl (any_of HT_.out (by kernel_rfl)) (fun _ _ _ h=>h) (Or.inl ⟨by rfl,?_⟩) ?_ ?_
                  rotate_left;·intro w';go_simp;with_reducible rfl
                  rotate_left;·simp only [Act.put,L_,M_,N_,i64_w,i32_w];rfl
                  refine pure_ (i:=3) (N:=some 38) (v:=?_) (a':=?_) #[T,T,T,T,F,F,F,F,F,F,F,F,F,F] rfl rfl (any_of HT_.out (by kernel_rfl)) (fun _ _ _ h=>h) (Or.inl ⟨by rfl,?_⟩) ?_ ?_
                  rotate_left;·intro w';go_simp;with_reducible rfl
                  rotate_left;·simp only [Act.put,L_,M_,N_,i64_w,i32_w];rfl
                  refine pure_ (i:=4) (N:=some 39) (v:=?_) (a':=?_) #[T,T,T,T,T,F,F,F,F,F,F,F,F,F] rfl rfl (any_of HT_.out (by kernel_rfl)) (fun _ _ _ h=>h) (Or.inl ⟨by rfl,?_⟩) ?_ ?_
                  rotate_left;·intro w';go_simp;with_reducible rfl
                  rotate_left;·simp only [Act.put,L_,M_,N_,i64_w,i32_w];rfl
                  refine pure_ (i:=5) (N:=some 40) (v:=?_) (a':=?_) #[T,T,T,T,T,T,F,F,F,F,F,F,F,F] rfl rfl (any_of HT_.out (by kernel_rfl)) (fun _ _ _ h=>h) (Or.inl ⟨by rfl,?_⟩) ?_ ?_
                  rotate_left;·intro w';go_simp;with_reducible rfl
                  rotate_left;·simp only [Act.put,L_,M_,N_,i64_w,i32_w];rfl
                  refine pure_ (i:=7) (N:=some 42) (v:=?_) (a':=?_) #[T,T,T,T,T,T,F,T,F,F,F,F,F,F] rfl rfl (any_of HT_.out (by kernel_rfl)) (fun _ _ _ h=>h) (Or.inl ⟨by rfl,?_⟩) ?_ ?_
                  rotate_left;·intro w';go_simp;with_reducible rfl
                  rotate_left;·simp only [Act.put,L_,M_,N_,i64_w,i32_w];rfl
                  refine pure_ (i:=8) (N:=some 43) (v:=?_) (a':=?_) #[T,T,T,T,T,T,F,T,T,F,F,F,F,F] rfl rfl (any_of HT_.out (by kernel_rfl)) (fun _ _ _ h=>h) (Or.inl ⟨by rfl,?_⟩) ?_ ?_
                  rotate_left;·intro w';go_simp;with_reducible rfl
                  rotate_left;·simp only [Act.put,L_,M_,N_,i64_w,i32_w];rfl
                  refine pure_ (i:=9) (N:=some 44) (v:=?_) (a':=?_) #[T,T,T,T,T,T,F,T,T,T,F,F,F,F] rfl rfl (any_of HT_.out (by kernel_rfl)) (fun _ _ _ h=>h) (Or.inl ⟨by rfl,?_⟩) ?_ ?_
                  rotate_left;·intro w';go_simp;with_reducible rfl
                  rotate_left;·simp only [Act.put,L_,M_,N_,i64_w,i32_w];rfl
                  refine take_ (i:=6) (N:=some 41) (v:=?_) (a':=?_) #[T,T,T,T,T,T,T,T,T,T,F,F,F,F] rfl rfl (take_ofW HT_.out HW_.out (by kernel_rfl)) (fun _ _ _ h=>h) (Or.inl ⟨by rfl,?_⟩) hHeld ?_ ?_
                  rotate_left
                  ·rintro w' ⟨s0,s1⟩
                   go_simp
                   with_reducible rfl
                  rotate_left;·simp only [Act.put,L_,M_,N_,i64_w,i32_w];rfl
                  refine take_ (i:=10) (N:=some 45) (v:=?_) (a':=?_) #[T,T,T,T,T,T,T,T,T,T,T,F,F,F] rfl rfl (take_ofW HT_.out HW_.out (by kernel_rfl)) (fun _ _ _ h=>h) (Or.inl ⟨by rfl,?_⟩) hHeld ?_ ?_
                  rotate_left
                  ·rintro w' ⟨s0,s1⟩
                   go_simp
                   with_reducible rfl
                  rotate_left;·simp only [Act.put,L_,M_,N_,i64_w,i32_w];rfl
                  refine pure_ (i:=11) (N:=some 46) (v:=?_) (a':=?_) #[T,T,T,T,T,T,T,T,T,T,T,T,F,F] rfl rfl (any_of HT_.out (by kernel_rfl)) (fun _ _ _ h=>h) (Or.inl ⟨by rfl,?_⟩) ?_ ?_
                  rotate_left;·intro w';go_simp;with_reducible rfl
                  rotate_left;·simp only [Act.put,L_,M_,N_,i64_w,i32_w];rfl
                  refine pure_ (i:=12) (N:=some 47) (v:=?_) (a':=?_) #[T,T,T,T,T,T,T,T,T,T,T,T,T,F] rfl rfl (any_of HT_.out (by kernel_rfl)) (fun _ _ _ h=>h) (Or.inl ⟨by rfl,?_⟩) ?_ ?_
                  rotate_left;·intro w';go_simp;with_reducible rfl
                  rotate_left;·simp only [Act.put,L_,M_,N_,i64_w,i32_w];rfl
                  refine last_ (i:=13) (N:=none) #[T,T,T,T,T,T,T,T,T,T,T,T,T,T] rfl rfl (one_of HT_.out (by kernel_rfl)) (by decide) (fun K hK=>?_)
                  refine skip_ (w1:=?_) (by rfl) rfl ?_ ?_
                  rotate_left
                  ·go_simp
                   rfl
                  refine hK.out _ _ ?_
                  clear hK K;refine done_ (done_of HT_.out (by kernel_rfl)) ?_
                  try go_wp2
                  (try simp only [← hl3_2]);go_roundg k2
                  case measure=>have:=HK1.out;have:=HK2.out;omega
                  case rel=>exact ⟨(y947),(wrap64 (x5_2 + 1)),(by first|rfl|(simp;done)|(simp [*];done)),H',⟨by have:=HK1.out;have:=HK2.out;omega⟩,⟨by (try simp only [hl3_1]);(try simp only [hl3_2]);(with_reducible repeat (first|apply Kd.R_alloc|apply Kd.R_drewN|apply Kd.R_drew));exact HQ31.out⟩,⟨by (try simp only [hl3_1]);(try simp only [hl3_2]);(with_reducible repeat (first|refine blk_drewN ?_ _|refine blk_drew ?_|refine blk_alloc ?_ _));refine blk_far ?_ (by have h_:=Kd.R_ne HO_3.out BK938.out (by decide);intro e_;exact h_ (by rw [e_];rfl)) _;(with_reducible repeat (first|refine blk_drewN ?_ _|refine blk_drew ?_|refine blk_alloc ?_ _));exact BK938.out⟩,⟨by repeat (first|(with_reducible first|exact HB.out|apply below_alloc|apply pw_below_drewN|apply below_drew1|refine below_set ?_ GB7.out|refine below_set ?_ (Aside0.out (by assumption)))|exact HB.out)⟩⟩
                 ·rw [if_neg c26] at H;exact absurd H (by simp)
                ·rw [if_neg c25] at H;exact absurd H (by simp)
               ·rw [if_neg c24] at H;exact absurd H (by simp)
              ·rw [if_neg c23] at H;exact absurd H (by simp)
             ·rw [if_neg c21] at H;exact absurd H (by simp)
            ·rw [if_neg c20] at H;have c20b0 : ((Go.bits .andNot .i64 t944 x14_1) == 0) = false:=beq_eq_false_iff_ne.mpr c20;have c20b1 : ((Go.bits .andNot .i64 t944 x14_1) != 0) = true:=bne_iff_ne.mpr c20;have H':=A_ H;clear H;have hcz32_0 : wr.cell? ⟨gb938,0,none⟩ = some (.int .i64 a0_0):=blk_cell BK938.out 0;have hcz32_1 : wr.cell? ⟨gb938,1,none⟩ = some (.slice A0_1 l0_1.length c0_1):=blk_cell BK938.out 1;have hfz32_0:=blk_frozen BK938.out 0;have hfz32_1:=blk_frozen BK938.out 1;go_wp2_with (first|((with_reducible refine gate_callee (f:=113) rfl ?_);refine goesL_ (some 25) rfl rfl Tryd.func113 (by kernel_rfl) rfl #[.int .i64 x14_1,.int .i64 x5_2] rfl au_ ?_;(with_reducible refine (spec_orHas.calls x14_1 x5_2 false _ A16.out).mono ?_);rintro e w' ⟨rfl,⟨nd,rfl⟩⟩;refine ⟨_,rfl,?_⟩)|(go_at_call 156;(with_reducible refine (spec_orBelow.calls k2 a0_0 _ _ l0_1 x5_2 t944 _ ?side1 ?side2 A19.out).mono ?_);(case side1=>exact cl_ (Kd.C_below HR0_1.out bb_));(case side2=>exact HC0_1.out);rintro e w33 ⟨rfl,hb⟩;replace HO_3:=rb_ HO_3 hb;replace BK938:=bz BK938 hb;replace HB:=A_ (below_step bb_ hb);(try clear hb);(try clear hb2);(try clear hk);(try clear hi)))
             (try simp only [← hl3_2]);go_roundg k2
             case measure=>have:=HK1.out;have:=HK2.out;omega
             case rel=>exact ⟨(x3_2),(wrap64 (x5_2 + 1)),(by first|rfl|(simp;done)|(simp [*];done)),H',⟨by have:=HK1.out;have:=HK2.out;omega⟩,⟨by (try simp only [hl3_1]);(try simp only [hl3_2]);(with_reducible repeat (first|apply Kd.R_alloc|apply Kd.R_drewN|apply Kd.R_drew));exact HO_3.out⟩,⟨by (try simp only [hl3_1]);(try simp only [hl3_2]);(with_reducible repeat (first|refine blk_drewN ?_ _|refine blk_drew ?_|refine blk_alloc ?_ _));exact BK938.out⟩,⟨bb_⟩⟩
          ·rw [if_neg c15] at H;have c15b0 : decide (x5_2 < a0_0) = false:=decide_eq_false c15;clear c15;have H':=A_ H;clear H;have hcz34_0 : wr.cell? ⟨gb938,0,none⟩ = some (.int .i64 a0_0):=blk_cell BK938.out 0;have hcz34_1 : wr.cell? ⟨gb938,1,none⟩ = some (.slice A0_1 l0_1.length c0_1):=blk_cell BK938.out 1;have hfz34_0:=blk_frozen BK938.out 0;have hfz34_1:=blk_frozen BK938.out 1;go_wp2
           (try simp only [← hl3_1,← hl3_2]);go_roundg k2
           case measure=>have:=HK1.out;have:=HK2.out;omega
           case rel=>exact ⟨(x3_2),(wrap64 (x14_1 + 1)),(by first|rfl|(simp;done)|(simp [*];done)),H',⟨by have:=HK1.out;have:=HK2.out;omega⟩,⟨by (try simp only [hl3_1]);(try simp only [hl3_2]);(with_reducible repeat (first|apply Kd.R_alloc|apply Kd.R_drewN|apply Kd.R_drew));exact HO_3.out⟩,⟨by (try simp only [hl3_1]);(try simp only [hl3_2]);(with_reducible repeat (first|refine blk_drewN ?_ _|refine blk_drew ?_|refine blk_alloc ?_ _));exact BK938.out⟩,⟨bb_⟩⟩
       ·rw [if_neg c14] at H;have c14b0 : decide (x14_1 < (y939.length : Int)) = false:=decide_eq_false c14;(try (have c14b8:=c14b0;simp only [hl3_1] at c14b8));clear c14;obtain rfl:=Option.some.inj H;go_wp2
        go_ret
        exact ⟨_,by first|rfl|(simp [errW_none,errW_some] <;> rfl)|(simp only [← hji3];first|rfl|(simp [errW_none,errW_some] <;> rfl))|(simp [*,errW_none,errW_some] <;> rfl),by (with_reducible repeat (first|apply Kd.R_alloc|apply Kd.R_drewN|apply Kd.R_drew));exact HO_3.out,bb_⟩
    ·rw [if_neg c6] at H;exact absurd H (by simp)
   ·rw [if_neg c5] at H;exact absurd H (by simp)
  ·rw [if_neg c4] at H;exact absurd H (by simp)
 ·rw [if_neg c2] at H;exact absurd H (by simp)
def spec_CountExtensions.f (k : Nat) (a0_0 : Int) (l0_1 : List Int) : Option (Int × Bool) := (spec_orGood.f k a0_0 l0_1).bind fun t949 => (if t949 = true then ((spec_orCount.f k a0_0 l0_1).bind fun t950 => (if 0 ≤ a0_0 then (if 0 ≤ (wrap64 ((shl .i64 1 a0_0) - 1)) then (if (wrap64 ((shl .i64 1 a0_0) - 1)) < (t950.length : Int) then (some (rd t950 (wrap64 ((shl .i64 1 a0_0) - 1)), true)) else (none)) else (none)) else (none))) else (some (0, false)))
def spec_CountExtensions.T3 : Bool × List (List Nat × List Nat) := (true, [([], []), ([0], [0]), ([], []), ([2], [2]), ([3], [3]), ([4], [4]), ([1, 5], [1, 5]), ([6], [6]), ([7, 1, 0, 1, 2, 3, 4, 5, 6, 7], [7]), ([8, 0, 1, 2, 3, 4, 5, 6, 7, 8], [])])
def spec_CountExtensions.B3 : List Nat := [0, 1, 0, 4, 12, 28, 63, 127, 255, 511]
theorem spec_CountExtensions.tab3 : rtab .any (opsOf Tryd.f48 3) = spec_CountExtensions.T3:=by kernel_rfl
theorem spec_CountExtensions.bits3 : waitsOk spec_CountExtensions.T3.2 spec_CountExtensions.B3 = true:=by kernel_rfl
set_option maxHeartbeats 8000000 in
set_option maxRecDepth 100000 in
theorem spec_CountExtensions.calls (k : Nat) (a0_0 : Int) (A0_1 : Option Addr) (c0_1 : Nat) (l0_1 : List Int) (r1 : Int) (r2 : Bool) (w : World) (hr0_1 : Kd.C (Kd.int .i64) w A0_1 l0_1.length l0_1) (hc0_1 : l0_1.length ≤ c0_1) (h : spec_CountExtensions.f k a0_0 l0_1 = some (r1,r2)) :
 Calls Tryd.prog 48 #[.agg #[.int .i64 a0_0,.slice A0_1 l0_1.length c0_1]] w fun e w'=>e = .returned (.tuple #[.int .i64 r1,.bool r2]) ∧ Below w.heap.size w w':=by
 have hu26:=Tryd.underlying26;have HR0_1:=A_ hr0_1;have HC0_1:=A_ hc0_1;clear hr0_1 hc0_1;have HB:=A_ (Below.refl w.heap.size w);have H : ((spec_orGood.f k a0_0 l0_1).bind fun t949=>(if t949 = true then ((spec_orCount.f k a0_0 l0_1).bind fun t950=>(if 0 ≤ a0_0 then (if 0 ≤ (wrap64 ((shl .i64 1 a0_0) - 1)) then (if (wrap64 ((shl .i64 1 a0_0) - 1)) < (t950.length : Int) then (some (rd t950 (wrap64 ((shl .i64 1 a0_0) - 1)),true)) else (none)) else (none)) else (none))) else (some (0,false)))) = some (r1,r2):=h;clear h;replace H:=Option.bind_eq_some_iff.mp H;obtain ⟨t949,A20,H⟩:=H;replace H : (if t949 = true then ((spec_orCount.f k a0_0 l0_1).bind fun t950=>(if 0 ≤ a0_0 then (if 0 ≤ (wrap64 ((shl .i64 1 a0_0) - 1)) then (if (wrap64 ((shl .i64 1 a0_0) - 1)) < (t950.length : Int) then (some (rd t950 (wrap64 ((shl .i64 1 a0_0) - 1)),true)) else (none)) else (none)) else (none))) else (some (0,false))) = some (r1,r2):=H;have A2:=A_ A20;clear A20;by_cases c3 : t949 = true
 ·subst c3;have H1 : ((spec_orCount.f k a0_0 l0_1).bind fun t950=>(if 0 ≤ a0_0 then (if 0 ≤ (wrap64 ((shl .i64 1 a0_0) - 1)) then (if (wrap64 ((shl .i64 1 a0_0) - 1)) < (t950.length : Int) then (some (rd t950 (wrap64 ((shl .i64 1 a0_0) - 1)),true)) else (none)) else (none)) else (none))) = some (r1,r2):=by rw [if_pos rfl] at H;exact H
  clear H;have H:=H1;clear H1;replace H:=Option.bind_eq_some_iff.mp H;obtain ⟨t950,A40,H⟩:=H;replace H : (if 0 ≤ a0_0 then (if 0 ≤ (wrap64 ((shl .i64 1 a0_0) - 1)) then (if (wrap64 ((shl .i64 1 a0_0) - 1)) < (t950.length : Int) then (some (rd t950 (wrap64 ((shl .i64 1 a0_0) - 1)),true)) else (none)) else (none)) else (none)) = some (r1,r2):=H;have A4:=A_ A40;clear A40;by_cases c5 : 0 ≤ a0_0
  ·rw [if_pos c5] at H;have c5b0:=eq_true c5;have c5b1 : decide (0 ≤ a0_0) = true:=decide_eq_true c5;clear c5;obtain ⟨ji6,hji6⟩ : ∃ j_ : Int,(shl .i64 1 a0_0) = j_:=⟨_,rfl⟩;replace H : (if 0 ≤ (wrap64 ((ji6) - 1)) then (if (wrap64 ((ji6) - 1)) < (t950.length : Int) then (some (rd t950 (wrap64 ((ji6) - 1)),true)) else (none)) else (none)) = some (r1,r2):=by first|(rw [hji6] at H;exact H)|(simp only [hji6] at H ⊢;exact H)
   (try rw [hji6] at A2);(try rw [hji6] at A4);have hji6_ : (IntKind.i64.wrap (1 * 2 ^ min a0_0.toNat 64)) = ji6:=hji6;have hji6z : a0_0 ≤ 64 → (IntKind.i64.wrap (1 * 2 ^ a0_0.toNat)) = ji6:=shl_small hji6;have hji6u : (IntKind.i64.wrap (2 ^ min a0_0.toNat 64)) = ji6:=by have h_:=hji6_;rw [Int.one_mul] at h_;exact h_
   have hji6v : a0_0 ≤ 64 → (IntKind.i64.wrap (2 ^ a0_0.toNat)) = ji6:=fun hle_=>by have h_:=hji6z hle_;rw [Int.one_mul] at h_;exact h_
   have hji6y : (wrap64 (1 * 2 ^ min a0_0.toNat 64)) = ji6:=(i64_w _).symm.trans hji6_;have hji6x : a0_0 ≤ 64 → (wrap64 (1 * 2 ^ a0_0.toNat)) = ji6:=fun h_=>(i64_w _).symm.trans (hji6z h_)
   obtain ⟨ji7,hji7⟩ : ∃ j_ : Int,(wrap64 ((ji6) - 1)) = j_:=⟨_,rfl⟩;replace H : (if 0 ≤ (ji7) then (if (ji7) < (t950.length : Int) then (some (rd t950 (ji7),true)) else (none)) else (none)) = some (r1,r2):=by first|(rw [hji7] at H;exact H)|(simp only [hji7] at H ⊢;exact H)
   (try rw [hji7] at A2);(try rw [hji7] at A4);have hji7w : (IntKind.i64.wrap ((ji6) - 1)) = ji7:=(i64_w _).trans hji7;by_cases c8 : 0 ≤ (ji7)
   ·rw [if_pos c8] at H;have c8b0 : decide (0 ≤ (ji7)) = true:=decide_eq_true c8;clear c8;by_cases c9 : (ji7) < (t950.length : Int)
    ·rw [if_pos c9] at H;have c9b0 : decide ((ji7) < (t950.length : Int)) = true:=decide_eq_true c9;clear c9;simp only [Option.some.injEq,Prod.mk.injEq] at H
     obtain ⟨rfl,rfl⟩:=H;go_enter Tryd.func48,Tryd.ntmps48
     try go_wp2_with (first|((with_reducible refine gate_dst (N:=1) rfl ?_);refine box_event ?hg (N:=1) ?hd (cs:=#[.int .i64 a0_0,.slice A0_1 l0_1.length c0_1]) (t:=26) ?hr ?_;(case hd=>rfl);(case hg=>rfl);(case hr=>first|(go_simp;done)|(go_simp;rfl));intro gb948 hg w10 hbox hb;have BK948:=A_ (hbox);have GW948:=A_ ((by rw [hg];exact (below_size bb_) : w.heap.size ≤ gb948));have GE948:=A_ ((by rw [hg];exact (below_size bb_) : w.heap.size ≤ gb948));replace HB:=A_ (below_step bb_ hb);clear hb hbox hg;have hcz11_0 : w10.cell? ⟨gb948,0,none⟩ = some (.int .i64 a0_0):=blk_cell BK948.out 0;have hcz11_1 : w10.cell? ⟨gb948,1,none⟩ = some (.slice A0_1 l0_1.length c0_1):=blk_cell BK948.out 1;have hfz11_0:=blk_frozen BK948.out 0;have hfz11_1:=blk_frozen BK948.out 1)|((with_reducible refine gate_callee (f:=83) rfl ?_);refine goesL_ (some 5) rfl rfl Tryd.func83 (by kernel_rfl) rfl #[.agg #[.int .i64 a0_0,.slice A0_1 l0_1.length c0_1]] rfl au_ ?_;(with_reducible refine (spec_orGood.calls k a0_0 _ _ l0_1 true _ ?side1 ?side2 A2.out).mono ?_);(case side1=>exact cl_ (Kd.C_below HR0_1.out HB.out));(case side2=>exact HC0_1.out);rintro e w12 ⟨rfl,hb⟩;refine ⟨_,rfl,?_⟩;replace BK948:=bz BK948 hb;replace HB:=A_ (below_step bb_ hb);(try clear hb);(try clear hb2);(try clear hk);(try clear hi)))
     replace BK948:=A_ (blk_drew BK948.out);replace HB:=A_ (below_drew1 HB.out);refine start_ (n:=10) (S:=fun w'=>w'.cell? ⟨gb948,0,none⟩ = some (.int .i64 a0_0) ∧ w'.cell? ⟨gb948,1,none⟩ = some (.slice A0_1 l0_1.length c0_1)) (ds:=[]) #[F,F,F,F,F,F,F,F,F,F] (by kernel_rfl) rfl rfl ⟨blk_cell BK948.out 0,blk_cell BK948.out 1⟩ (fun hHeld=>?_);refine with_tabW spec_CountExtensions.tab3 spec_CountExtensions.bits3 (fun HT_ HW_=>?_)
     generalize w12.drew = w13 at BK948 HB hHeld ⊢
     refine pure_ (i:=2) (N:=some 9) (v:=?_) (a':=?_) #[F,F,T,F,F,F,F,F,F,F] rfl rfl (any_of HT_.out (by kernel_rfl)) (fun _ _ _ h=>h) (Or.inl ⟨by rfl,?_⟩) ?_ ?_
     rotate_left;·intro w';go_simp;with_reducible rfl
     rotate_left;·simp only [Act.put,L_,M_,N_,i64_w,i32_w];rfl
     refine take_ (i:=0) (N:=some 7) (v:=?_) (a':=?_) #[T,F,T,F,F,F,F,F,F,F] rfl rfl (take_ofW HT_.out HW_.out (by kernel_rfl)) (fun _ _ _ h=>h) (Or.inl ⟨by rfl,?_⟩) hHeld ?_ ?_
     rotate_left
     ·rintro w' ⟨s0,s1⟩
      go_simp
      with_reducible rfl
     rotate_left;·simp only [Act.put,L_,M_,N_,i64_w,i32_w];rfl
     refine take_ (i:=3) (N:=some 10) (v:=?_) (a':=?_) #[T,F,T,T,F,F,F,F,F,F] rfl rfl (take_ofW HT_.out HW_.out (by kernel_rfl)) (fun _ _ _ h=>h) (Or.inl ⟨by rfl,?_⟩) hHeld ?_ ?_
     rotate_left
     ·rintro w' ⟨s0,s1⟩
      go_simp
      with_reducible rfl
     rotate_left;·simp only [Act.put,L_,M_,N_,i64_w,i32_w];rfl
     refine pure_ (i:=4) (N:=some 11) (v:=?_) (a':=?_) #[T,F,T,T,T,F,F,F,F,F] rfl rfl (any_of HT_.out (by kernel_rfl)) (fun _ _ _ h=>h) (Or.inl ⟨by rfl,?_⟩) ?_ ?_
     rotate_left;·intro w';go_simp;with_reducible rfl
     rotate_left;·simp only [Act.put,L_,M_,N_,i64_w,i32_w];rfl
     refine pure_ (i:=5) (N:=some 12) (v:=?_) (a':=?_) #[T,F,T,T,T,T,F,F,F,F] rfl rfl (any_of HT_.out (by kernel_rfl)) (fun _ _ _ h=>h) (Or.inl ⟨by rfl,?_⟩) ?_ ?_
     rotate_left;·intro w';go_simp;with_reducible rfl
     rotate_left;·simp only [Act.put,L_,M_,N_,i64_w,i32_w];rfl
     refine one_ (i:=1) (N:=some 8) #[T,T,T,T,T,T,F,F,F,F] rfl rfl (one_of HT_.out (by kernel_rfl)) (by decide) (fun K hK=>?_)
     refine goes_ Tryd.func119 (by kernel_rfl) rfl #[.agg #[.int .i64 a0_0,.slice A0_1 l0_1.length c0_1]] (by rfl) rfl rfl au_ ?_
     with_reducible refine (spec_orCount.calls k a0_0 _ _ l0_1 t950 _ ?side1 ?side2 A4.out).mono ?_
     (case side1=>exact cl_ (Kd.C_below HR0_1.out HB.out))
     (case side2=>exact HC0_1.out)
     rintro e w14 ⟨v951,rfl,ho0,hb⟩
     refine ⟨_,rfl,?_⟩
     have HO952:=A_ (Kd.R_lower ho0 (below_size bb_));replace BK948:=bz BK948 hb;replace HB:=A_ (below_step bb_ hb);(try clear hb);(try clear hb2);(try clear hk);(try clear hi);(try clear ho0);obtain ⟨Ao15,co15,eo15⟩:=Kd.R_slice HO952.out;(first|subst eo15|(injection eo15 with f1_ f2_ f3_;have f4_:=f1_.symm;have f5_:=f3_.symm;clear f1_ f2_ f3_;subst f4_;subst f5_))
     have p953 : 0 ≤ ((ji7) : Int):=of_decide_eq_true (by first|(with_reducible assumption)|assumption);have q953 : (ji7) < (t950.length : Int):=of_decide_eq_true (by first|(with_reducible assumption)|assumption);obtain ⟨ad953,e953,hx953_0⟩:=Kd.at_int (Kd.R_reads' HO952.out).2.2 (ji7) p953 q953;cases e953
     replace p953:=eq_true p953;replace q953:=eq_true q953;refine hK.out _ _ ⟨blk_cell BK948.out 0,blk_cell BK948.out 1⟩ (fun hHeld=>?_)
     clear hK K;refine norm_ (a':=?_) ?_ ?_
     rotate_left
     ·show Act.put _ (some 8) _ = _
      simp only [Act.put,L_,M_,N_,i64_w,i32_w]
      rfl
     refine pure_ (i:=6) (N:=some 13) (v:=?_) (a':=?_) #[T,T,T,T,T,T,T,F,F,F] rfl rfl (any_of HT_.out (by kernel_rfl)) (fun _ _ _ h=>h) (Or.inl ⟨by rfl,?_⟩) ?_ ?_
     rotate_left;·intro w';go_simp;with_reducible rfl
     rotate_left;·simp only [Act.put,L_,M_,N_,i64_w,i32_w];rfl
     refine one_ (i:=7) (N:=some 14) #[T,T,T,T,T,T,T,T,F,F] rfl rfl (one_of HT_.out (by kernel_rfl)) (by decide) (fun K hK=>?_)
     refine value_ (w1:=?_) (v:=?_) (by rfl) rfl ?_ ?_
     rotate_left 2
     ·go_simp
      constructor
      ·rfl
      ·rfl
     refine hK.out _ _ ⟨hHeld.1,hHeld.2⟩ (fun hHeld=>?_)
     clear hK K;refine norm_ (a':=?_) ?_ ?_
     rotate_left
     ·show Act.put _ (some 14) _ = _
      simp only [Act.put,L_,M_,N_,i64_w,i32_w]
      rfl
     refine pure_ (i:=8) (N:=some 2) (v:=?_) (a':=?_) #[T,T,T,T,T,T,T,T,T,F] rfl rfl (any_of HT_.out (by kernel_rfl)) (fun _ _ _ h=>h) (Or.inl ⟨by rfl,?_⟩) ?_ ?_
     rotate_left;·intro w';go_simp;with_reducible rfl
     rotate_left;·simp only [Act.put,L_,M_,N_,i64_w,i32_w];rfl
     refine pure_ (i:=9) (N:=some 3) (v:=?_) (a':=?_) #[T,T,T,T,T,T,T,T,T,T] rfl rfl (any_of HT_.out (by kernel_rfl)) (fun _ _ _ h=>h) (Or.inl ⟨by rfl,?_⟩) ?_ ?_
     rotate_left;·intro w';go_simp;with_reducible rfl
     rotate_left;·simp only [Act.put,L_,M_,N_,i64_w,i32_w];rfl
     refine done_ (done_of HT_.out (by kernel_rfl)) ?_
     try go_wp2
     go_ret2
     exact ⟨by first|rfl|(simp [errW_none,errW_some] <;> rfl)|(simp only [← hji6,← hji7];first|rfl|(simp [errW_none,errW_some] <;> rfl))|(simp [*,errW_none,errW_some] <;> rfl),bb_⟩
    ·rw [if_neg c9] at H;exact absurd H (by simp)
   ·rw [if_neg c8] at H;exact absurd H (by simp)
  ·rw [if_neg c5] at H;exact absurd H (by simp)
 ·replace c3:=Bool.eq_false_iff.mpr c3;subst c3;have H1 : (some (0,false)) = some (r1,r2):=by rw [if_neg (show ¬ (false = true) by decide)] at H;exact H
  clear H;have H:=H1;clear H1;simp only [Option.some.injEq,Prod.mk.injEq] at H
  obtain ⟨rfl,rfl⟩:=H;go_enter Tryd.func48,Tryd.ntmps48
  go_wp2_with (first|((with_reducible refine gate_dst (N:=1) rfl ?_);refine box_event ?hg (N:=1) ?hd (cs:=#[.int .i64 a0_0,.slice A0_1 l0_1.length c0_1]) (t:=26) ?hr ?_;(case hd=>rfl);(case hg=>rfl);(case hr=>first|(go_simp;done)|(go_simp;rfl));intro gb948 hg w16 hbox hb;have BK948:=A_ (hbox);have GW948:=A_ ((by rw [hg];exact (below_size bb_) : w.heap.size ≤ gb948));have GE948:=A_ ((by rw [hg];exact (below_size bb_) : w.heap.size ≤ gb948));replace HB:=A_ (below_step bb_ hb);clear hb hbox hg;have hcz17_0 : w16.cell? ⟨gb948,0,none⟩ = some (.int .i64 a0_0):=blk_cell BK948.out 0;have hcz17_1 : w16.cell? ⟨gb948,1,none⟩ = some (.slice A0_1 l0_1.length c0_1):=blk_cell BK948.out 1;have hfz17_0:=blk_frozen BK948.out 0;have hfz17_1:=blk_frozen BK948.out 1)|((with_reducible refine gate_callee (f:=83) rfl ?_);refine goesL_ (some 5) rfl rfl Tryd.func83 (by kernel_rfl) rfl #[.agg #[.int .i64 a0_0,.slice A0_1 l0_1.length c0_1]] rfl au_ ?_;(with_reducible refine (spec_orGood.calls k a0_0 _ _ l0_1 false _ ?side1 ?side2 A2.out).mono ?_);(case side1=>exact cl_ (Kd.C_below HR0_1.out HB.out));(case side2=>exact HC0_1.out);rintro e w18 ⟨rfl,hb⟩;refine ⟨_,rfl,?_⟩;replace BK948:=bz BK948 hb;replace HB:=A_ (below_step bb_ hb);(try clear hb);(try clear hb2);(try clear hk);(try clear hi)))
  go_ret2
  exact ⟨by first|rfl|(simp [errW_none,errW_some] <;> rfl)|(simp [*,errW_none,errW_some] <;> rfl),bb_⟩
end Go.Proofs.YtjdkcafpgebjfaaDoor.P

