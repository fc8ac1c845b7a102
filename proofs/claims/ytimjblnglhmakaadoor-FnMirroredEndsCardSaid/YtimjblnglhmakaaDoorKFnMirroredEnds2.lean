/- A part of the proof that the law FnMirroredEnds holds at every input. Written by wip/pack.py: the kit's printed words that are used, the functions' walks as wip/gen.py prints them, and hand proofs. -/
import Derived.Test.YtimjblnglhmakaaDoorKFnMirroredEnds1
namespace Go.Proofs.YtimjblnglhmakaaDoor.P
open Go.RowKit Go.Proofs.YtimjblnglhmakaaDoorW.PrintWords Go.Proofs.YtimjblnglhmakaaDoorW.PrintLast Go.Proofs.YtimjblnglhmakaaDoorW.PrintMore
open Bool renaming true → T, false → F
open List renaming setIfInBounds_toArray → L_, set_cons_zero → M_, set_cons_succ → N_, map_toArray → P_, map_cons → Q_, map_nil → R_, length_drop → S_, length_take → U_
open Aside0 renaming mk → A_
attribute [local go_sem] max2_int min2_int max_two min_two max_three min_three max_four min_four
set_option linter.unusedVariables false
set_option linter.unusedSimpArgs false
attribute [local go_sem] fldOrder_0 fldOrder_1
def Abp.f (k : Nat) (a0_0 : Int) (l0_1 : List Int) : Option ((List (S62)) × Bool) := (Abs.f k a0_0 l0_1).bind fun t1282 => (if t1282 = true then ((Aax.f k a0_0 l0_1).bind fun t1283 => (some (t1283, true))) else (some (([] : List (S62)), false)))
set_option maxHeartbeats 8000000 in
set_option maxRecDepth 100000 in
theorem Abp.calls (k : Nat) (a0_0 : Int) (A0_1 : Option Addr) (c0_1 : Nat) (l0_1 : List Int) (r1 : List (S62)) (r2 : Bool) (w : World) (hr0_1 : Kd.C (Kd.int .i64) w A0_1 l0_1.length l0_1) (hc0_1 : l0_1.length ≤ c0_1) (h : Abp.f k a0_0 l0_1 = some (r1,r2)) :
 Calls Tryd.prog 49 #[.agg #[.int .i64 a0_0,.slice A0_1 l0_1.length c0_1]] w fun e w'=>∃ v0_ : Value,e = .returned (.tuple #[v0_,.bool r2]) ∧ Kd.R k62 62 w' w.heap.size (fun _=>True) v0_ r1 ∧ Below w.heap.size w w':=by
 have hu28:=Tryd.underlying28;have HR0_1:=A_ hr0_1;have HC0_1:=A_ hc0_1;clear hr0_1 hc0_1;have HB:=A_ (Below.refl w.heap.size w);have H : ((Abs.f k a0_0 l0_1).bind fun Ad=>(if Ad = true then ((Aax.f k a0_0 l0_1).bind fun Ac=>(some (Ac,true))) else (some (([] : List (S62)),false)))) = some (r1,r2):=h;clear h;replace H:=Option.bind_eq_some_iff.mp H;obtain ⟨Ad,A20,H⟩:=H;replace H : (if Ad = true then ((Aax.f k a0_0 l0_1).bind fun Ac=>(some (Ac,true))) else (some (([] : List (S62)),false))) = some (r1,r2):=H;have A2:=A_ A20;clear A20;by_cases c3 : Ad = true
 ·subst c3;have H1 : ((Aax.f k a0_0 l0_1).bind fun Ac=>(some (Ac,true))) = some (r1,r2):=by rw [if_pos rfl] at H;exact H
  clear H;have H:=H1;clear H1;replace H:=Option.bind_eq_some_iff.mp H;obtain ⟨Ac,A40,H⟩:=H;replace H : (some (Ac,true)) = some (r1,r2):=H;have A4:=A_ A40;clear A40;simp only [Option.some.injEq,Prod.mk.injEq] at H
  obtain ⟨rfl,rfl⟩:=H;go_enter Tryd.func49,Tryd.ntmps49
  go_wp2_with (first|((with_reducible refine gate_dst (N:=1) rfl ?_);refine box_event ?hg (N:=1) ?hd (cs:=#[.int .i64 a0_0,.slice A0_1 l0_1.length c0_1]) (t:=28) ?hr ?_;(case hd=>rfl);(case hg=>rfl);(case hr=>go_simp;try rfl);intro Ab hg w5 hbox hb;have Aa:=A_ (hbox);have Ae:=A_ (gw_ (w:=w) hg bb_);have Af:=A_ (gw_ (w:=w) hg bb_);replace HB:=A_ (below_step bb_ hb);clear hb hbox hg;have hcz6_0 : w5.cell? ⟨Ab,0,none⟩ = some (.int .i64 a0_0):=blk_cell Aa.out 0;have hcz6_1 : w5.cell? ⟨Ab,1,none⟩ = some (.slice A0_1 l0_1.length c0_1):=blk_cell Aa.out 1;have hfz6_0:=blk_frozen Aa.out 0;have hfz6_1:=blk_frozen Aa.out 1)|((with_reducible refine gate_callee (f:=136) rfl ?_);refine goesL_ (some 5) rfl rfl Tryd.func136 (by kernel_rfl) rfl #[.agg #[.int .i64 a0_0,.slice A0_1 l0_1.length c0_1]] rfl au_ ?_;(with_reducible refine (Abs.calls k a0_0 _ _ l0_1 true _ ?side1 ?side2 A2.out).mono ?_);(case side1=>exact cl_ (Kd.C_below HR0_1.out HB.out));(case side2=>exact HC0_1.out);rintro e w7 ⟨rfl,hb⟩;refine ⟨_,rfl,?_⟩;replace Aa:=bz Aa hb;replace HB:=A_ (below_step bb_ hb);(try clear hb);(try clear hb2);(try clear hk);(try clear hi);have hcz8_0 : w7.cell? ⟨Ab,0,none⟩ = some (.int .i64 a0_0):=blk_cell Aa.out 0;have hcz8_1 : w7.cell? ⟨Ab,1,none⟩ = some (.slice A0_1 l0_1.length c0_1):=blk_cell Aa.out 1;have hfz8_0:=blk_frozen Aa.out 0;have hfz8_1:=blk_frozen Aa.out 1)|((with_reducible refine gate_callee (f:=137) rfl ?_);refine goesL_ (some 8) rfl rfl Tryd.func137 (by kernel_rfl) rfl #[.agg #[.int .i64 a0_0,.slice A0_1 l0_1.length c0_1]] rfl au_ ?_;(with_reducible refine (Aax.calls k a0_0 _ _ l0_1 Ac _ ?side1 ?side2 A4.out).mono ?_);(case side1=>exact cl_ (Kd.C_below HR0_1.out HB.out));(case side2=>exact HC0_1.out);rintro e w9 ⟨Ah,rfl,ho0,hb⟩;refine ⟨_,rfl,?_⟩;have Ag:=A_ (Kd.R_lower ho0 (below_size bb_));replace Aa:=bz Aa hb;replace HB:=A_ (below_step bb_ hb);(try clear hb);(try clear hb2);(try clear hk);(try clear hi);(try clear ho0)))
  go_ret2
  exact ⟨_,by first|rfl|(simp [errW_none,errW_some] <;> rfl)|(simp [*,errW_none,errW_some] <;> rfl),rl_ Ag,bb_⟩
 ·replace c3:=Bool.eq_false_iff.mpr c3;subst c3;have H1 : (some (([] : List (S62)),false)) = some (r1,r2):=by rw [if_neg (show ¬ (false = true) by decide)] at H;exact H
  clear H;have H:=H1;clear H1;simp only [Option.some.injEq,Prod.mk.injEq] at H
  obtain ⟨rfl,rfl⟩:=H;go_enter Tryd.func49,Tryd.ntmps49
  go_wp2_with (first|((with_reducible refine gate_dst (N:=1) rfl ?_);refine box_event ?hg (N:=1) ?hd (cs:=#[.int .i64 a0_0,.slice A0_1 l0_1.length c0_1]) (t:=28) ?hr ?_;(case hd=>rfl);(case hg=>rfl);(case hr=>go_simp;try rfl);intro Ab hg w10 hbox hb;have Aa:=A_ (hbox);have Ae:=A_ (gw_ (w:=w) hg bb_);have Af:=A_ (gw_ (w:=w) hg bb_);replace HB:=A_ (below_step bb_ hb);clear hb hbox hg;have hcz11_0 : w10.cell? ⟨Ab,0,none⟩ = some (.int .i64 a0_0):=blk_cell Aa.out 0;have hcz11_1 : w10.cell? ⟨Ab,1,none⟩ = some (.slice A0_1 l0_1.length c0_1):=blk_cell Aa.out 1;have hfz11_0:=blk_frozen Aa.out 0;have hfz11_1:=blk_frozen Aa.out 1)|((with_reducible refine gate_callee (f:=136) rfl ?_);refine goesL_ (some 5) rfl rfl Tryd.func136 (by kernel_rfl) rfl #[.agg #[.int .i64 a0_0,.slice A0_1 l0_1.length c0_1]] rfl au_ ?_;(with_reducible refine (Abs.calls k a0_0 _ _ l0_1 false _ ?side1 ?side2 A2.out).mono ?_);(case side1=>exact cl_ (Kd.C_below HR0_1.out HB.out));(case side2=>exact HC0_1.out);rintro e w12 ⟨rfl,hb⟩;refine ⟨_,rfl,?_⟩;replace Aa:=bz Aa hb;replace HB:=A_ (below_step bb_ hb);(try clear hb);(try clear hb2);(try clear hk);(try clear hi)))
  go_ret2
  exact ⟨_,by first|rfl|(simp [errW_none,errW_some] <;> rfl)|(simp [*,errW_none,errW_some] <;> rfl),by first|exact Kd.R_nil _ _ _ _ _|exact Kd.N_nil _ _ _ _ _|exact Kd.V_nil _ _ _ _ _|exact Kd.Q_nil _ _ _ _ _|exact Kd.S_nil _ _ _ _ _,bb_⟩
def Aas.l0 : Nat → List (S62) → List (S62) → Int → Int → Option (Bool)
 | 0,_,_,_,_=>none
 | k + 1,x0,x5,x6,x7=>if x7 < x6 then (if 0 ≤ x7 then (if x7 < (x5.length : Int) then ((Aa6.f ((rd_T62 x5 x7).f0) (-1000) 1000).bind fun t1177=>(if t1177 = true then ((Aa6.f ((rd_T62 x5 x7).f1) ((rd_T62 x5 x7).f0) 1000).bind fun t1178=>(if t1178 = true then (Aas.l0 k x0 x5 x6 (wrap64 (x7 + 1))) else (some false))) else (some false))) else (none)) else (none)) else (some (decide ((x0.length : Int) ≤ 10)))
def Aas.f (k : Nat) (l0 : List (S62)) : Option (Bool) := Aas.l0 k l0 l0 (l0.length : Int) 0
set_option maxHeartbeats 8000000 in
set_option maxRecDepth 100000 in
theorem Aas.calls (k : Nat) (A0 : Option Addr) (c0 : Nat) (l0 : List (S62)) (r : Bool) (w : World) (hr0 : Kd.C k62 w A0 l0.length l0) (hc0 : l0.length ≤ c0) (h : Aas.f k l0 = some r) :
 Calls Tryd.prog 47 #[.slice A0 l0.length c0] w fun e w'=>e = .returned (.bool r) ∧ Below w.heap.size w w':=by
 have hu62:=Tryd.underlying62;have HR0:=A_ hr0;have HC0:=A_ hc0;clear hr0 hc0;have HB:=A_ (Below.refl w.heap.size w);have H : (Aas.l0 k l0 l0 (l0.length : Int) 0) = some r:=h;clear h;have H':=A_ H;clear H;go_enter Tryd.func47,Tryd.ntmps47
 go_wp2
 go_loopg [7] k (fun kq v7 w'=>∃ (x7_1 : Int),v7 = .int .i64 x7_1 ∧ Aside0 (Aas.l0 kq l0 l0 (l0.length : Int) x7_1 = some r) ∧ Aside0 (kq ≤ k) ∧ Aside0 (Below w.heap.size w w'))
 case atStart=>exact ⟨(0),(by first|rfl|(simp;done)|(simp [*];done)),H',⟨Nat.le_refl _⟩,⟨bb_⟩⟩
 case round =>
  clear H';obtain ⟨x7_1,rfl,HA,HK1,HB⟩:=hrel;cases gk with
  | zero => exact absurd HA.out (by simp [Aas.l0])
  | succ k1 =>
   have H:=HA.out;clear HA;simp only [Aas.l0] at H
   by_cases c2 : x7_1 < (l0.length : Int)
   ·rw [if_pos c2] at H;have c2b0 : decide (x7_1 < (l0.length : Int)) = true:=decide_eq_true c2;clear c2;by_cases c3 : 0 ≤ x7_1
    ·rw [if_pos c3] at H;have c3b0 : decide (0 ≤ x7_1) = true:=decide_eq_true c3;clear c3;by_cases c4 : x7_1 < (l0.length : Int)
     ·rw [if_pos c4] at H;have c4b0 : decide (x7_1 < (l0.length : Int)) = true:=decide_eq_true c4;clear c4;replace H:=Option.bind_eq_some_iff.mp H;obtain ⟨Al,A50,H⟩:=H;replace H : (if Al = true then ((Aa6.f ((rd_T62 l0 x7_1).f1) ((rd_T62 l0 x7_1).f0) 1000).bind fun Ag=>(if Ag = true then (Aas.l0 k1 l0 l0 (l0.length : Int) (wrap64 (x7_1 + 1))) else (some false))) else (some false)) = some r:=H;have A5:=A_ A50;clear A50;by_cases c6 : Al = true
      ·subst c6;have H1 : ((Aa6.f ((rd_T62 l0 x7_1).f1) ((rd_T62 l0 x7_1).f0) 1000).bind fun Ag=>(if Ag = true then (Aas.l0 k1 l0 l0 (l0.length : Int) (wrap64 (x7_1 + 1))) else (some false))) = some r:=by rw [if_pos rfl] at H;exact H
       clear H;have H:=H1;clear H1;replace H:=Option.bind_eq_some_iff.mp H;obtain ⟨Ag,A70,H⟩:=H;replace H : (if Ag = true then (Aas.l0 k1 l0 l0 (l0.length : Int) (wrap64 (x7_1 + 1))) else (some false)) = some r:=H;have A7:=A_ A70;clear A70;by_cases c8 : Ag = true
       ·subst c8;have H1 : (Aas.l0 k1 l0 l0 (l0.length : Int) (wrap64 (x7_1 + 1))) = some r:=by rw [if_pos rfl] at H;exact H
        clear H;have H:=H1;clear H1;have H':=A_ H;clear H;have Ad : 0 ≤ (x7_1 : Int):=of_decide_eq_true (by first|(with_reducible assumption)|assumption);have Ae : x7_1 < (l0.length : Int):=of_decide_eq_true (by first|(with_reducible assumption)|assumption);obtain ⟨Ai,Ah,Aa,Ab⟩:=at_T62 HR0.out x7_1 Ad Ae;cases Ah
        (try replace Aa:=(HB.out.cell (World.block_lt_of_cell? w _ Aa)).trans Aa);(try replace Ab:=(HB.out.cell (World.block_lt_of_cell? w _ Ab)).trans Ab);replace Ad:=eq_true Ad;replace Ae:=eq_true Ae;go_wp2_with (first|((with_reducible refine gate_dst (N:=4) rfl ?_);refine box_event ?hg (N:=4) ?hd (cs:=#[.int .i64 0,.int .i64 0]) (t:=62) ?hr ?_;(case hd=>rfl);(case hg=>rfl);(case hr=>go_simp;try rfl);intro Af hg w9 hbox hb;have Ac:=A_ (hbox);have Aj:=A_ (gw_ (w:=w) hg bb_);have Ak:=A_ (gw_ (w:=w) hg bb_);replace HB:=A_ (below_step bb_ hb);clear hb hbox hg;have hcz10_0 : w9.cell? ⟨Af,0,none⟩ = some (.int .i64 0):=blk_cell Ac.out 0;have hcz10_1 : w9.cell? ⟨Af,1,none⟩ = some (.int .i64 0):=blk_cell Ac.out 1;have hfz10_0:=blk_frozen Ac.out 0;have hfz10_1:=blk_frozen Ac.out 1)|((with_reducible refine gate_callee (f:=121) rfl ?_);refine goesL_ (some 13) rfl rfl Tryd.func121 (by kernel_rfl) rfl #[.int .i64 ((rd_T62 l0 x7_1).f0),.int .i64 (-1000),.int .i64 1000] rfl au_ ?_;(with_reducible refine (Aa6.calls ((rd_T62 l0 x7_1).f0) (-1000) 1000 true _ A5.out).mono ?_);rintro e w' ⟨rfl,⟨nd,rfl⟩⟩;refine ⟨_,rfl,?_⟩)|(go_at_call 121;(with_reducible refine (Aa6.calls ((rd_T62 l0 x7_1).f1) ((rd_T62 l0 x7_1).f0) 1000 true _ A7.out).mono ?_);rintro e w' ⟨rfl,⟨nd,rfl⟩⟩))
        go_roundg k1
        case measure=>have:=HK1.out;omega
        case rel=>exact ⟨(wrap64 (x7_1 + 1)),(by first|rfl|(simp;done)|(simp [*];done)),H',⟨by have:=HK1.out;omega⟩,⟨bb_⟩⟩
       ·replace c8:=Bool.eq_false_iff.mpr c8;subst c8;have H1 : (some false) = some r:=by rw [if_neg (show ¬ (false = true) by decide)] at H;exact H
        clear H;have H:=H1;clear H1;obtain rfl:=Option.some.inj H;have Ad : 0 ≤ (x7_1 : Int):=of_decide_eq_true (by first|(with_reducible assumption)|assumption);have Ae : x7_1 < (l0.length : Int):=of_decide_eq_true (by first|(with_reducible assumption)|assumption);obtain ⟨Ai,Ah,Aa,Ab⟩:=at_T62 HR0.out x7_1 Ad Ae;cases Ah
        (try replace Aa:=(HB.out.cell (World.block_lt_of_cell? w _ Aa)).trans Aa);(try replace Ab:=(HB.out.cell (World.block_lt_of_cell? w _ Ab)).trans Ab);replace Ad:=eq_true Ad;replace Ae:=eq_true Ae;go_wp2_with (first|((with_reducible refine gate_dst (N:=4) rfl ?_);refine box_event ?hg (N:=4) ?hd (cs:=#[.int .i64 0,.int .i64 0]) (t:=62) ?hr ?_;(case hd=>rfl);(case hg=>rfl);(case hr=>go_simp;try rfl);intro Af hg w11 hbox hb;have Ac:=A_ (hbox);have Aj:=A_ (gw_ (w:=w) hg bb_);have Ak:=A_ (gw_ (w:=w) hg bb_);replace HB:=A_ (below_step bb_ hb);clear hb hbox hg;have hcz12_0 : w11.cell? ⟨Af,0,none⟩ = some (.int .i64 0):=blk_cell Ac.out 0;have hcz12_1 : w11.cell? ⟨Af,1,none⟩ = some (.int .i64 0):=blk_cell Ac.out 1;have hfz12_0:=blk_frozen Ac.out 0;have hfz12_1:=blk_frozen Ac.out 1)|((with_reducible refine gate_callee (f:=121) rfl ?_);refine goesL_ (some 13) rfl rfl Tryd.func121 (by kernel_rfl) rfl #[.int .i64 ((rd_T62 l0 x7_1).f0),.int .i64 (-1000),.int .i64 1000] rfl au_ ?_;(with_reducible refine (Aa6.calls ((rd_T62 l0 x7_1).f0) (-1000) 1000 true _ A5.out).mono ?_);rintro e w' ⟨rfl,⟨nd,rfl⟩⟩;refine ⟨_,rfl,?_⟩)|(go_at_call 121;(with_reducible refine (Aa6.calls ((rd_T62 l0 x7_1).f1) ((rd_T62 l0 x7_1).f0) 1000 false _ A7.out).mono ?_);rintro e w' ⟨rfl,⟨nd,rfl⟩⟩))
        go_ret
        exact ⟨by first|rfl|(simp [errW_none,errW_some] <;> rfl)|(simp [*,errW_none,errW_some] <;> rfl),bb_⟩
      ·replace c6:=Bool.eq_false_iff.mpr c6;subst c6;have H1 : (some false) = some r:=by rw [if_neg (show ¬ (false = true) by decide)] at H;exact H
       clear H;have H:=H1;clear H1;obtain rfl:=Option.some.inj H;have Ad : 0 ≤ (x7_1 : Int):=of_decide_eq_true (by first|(with_reducible assumption)|assumption);have Ae : x7_1 < (l0.length : Int):=of_decide_eq_true (by first|(with_reducible assumption)|assumption);obtain ⟨Ai,Ah,Aa,Ab⟩:=at_T62 HR0.out x7_1 Ad Ae;cases Ah
       (try replace Aa:=(HB.out.cell (World.block_lt_of_cell? w _ Aa)).trans Aa);(try replace Ab:=(HB.out.cell (World.block_lt_of_cell? w _ Ab)).trans Ab);replace Ad:=eq_true Ad;replace Ae:=eq_true Ae;go_wp2_with (first|((with_reducible refine gate_dst (N:=4) rfl ?_);refine box_event ?hg (N:=4) ?hd (cs:=#[.int .i64 0,.int .i64 0]) (t:=62) ?hr ?_;(case hd=>rfl);(case hg=>rfl);(case hr=>go_simp;try rfl);intro Af hg w13 hbox hb;have Ac:=A_ (hbox);have Aj:=A_ (gw_ (w:=w) hg bb_);have Ak:=A_ (gw_ (w:=w) hg bb_);replace HB:=A_ (below_step bb_ hb);clear hb hbox hg;have hcz14_0 : w13.cell? ⟨Af,0,none⟩ = some (.int .i64 0):=blk_cell Ac.out 0;have hcz14_1 : w13.cell? ⟨Af,1,none⟩ = some (.int .i64 0):=blk_cell Ac.out 1;have hfz14_0:=blk_frozen Ac.out 0;have hfz14_1:=blk_frozen Ac.out 1)|((with_reducible refine gate_callee (f:=121) rfl ?_);refine goesL_ (some 13) rfl rfl Tryd.func121 (by kernel_rfl) rfl #[.int .i64 ((rd_T62 l0 x7_1).f0),.int .i64 (-1000),.int .i64 1000] rfl au_ ?_;(with_reducible refine (Aa6.calls ((rd_T62 l0 x7_1).f0) (-1000) 1000 false _ A5.out).mono ?_);rintro e w' ⟨rfl,⟨nd,rfl⟩⟩;refine ⟨_,rfl,?_⟩))
       go_ret
       exact ⟨by first|rfl|(simp [errW_none,errW_some] <;> rfl)|(simp [*,errW_none,errW_some] <;> rfl),bb_⟩
     ·rw [if_neg c4] at H;exact absurd H (by simp)
    ·rw [if_neg c3] at H;exact absurd H (by simp)
   ·rw [if_neg c2] at H;have c2b0 : decide (x7_1 < (l0.length : Int)) = false:=decide_eq_false c2;clear c2;obtain rfl:=Option.some.inj H;go_wp2
    go_ret
    exact ⟨by first|rfl|(simp [errW_none,errW_some] <;> rfl)|(simp [*,errW_none,errW_some] <;> rfl),bb_⟩
def Abw.f (a0 : Int) (a1 : Int) (l2_0 : List (S62)) : Option (Bool) := if 0 ≤ a0 then (if a0 < (l2_0.length : Int) then (if 0 ≤ a1 then (if a1 < (l2_0.length : Int) then (some (decide (((rd_T62 l2_0 a0).f1) < ((rd_T62 l2_0 a1).f0)))) else (none)) else (none)) else (none)) else (none)
set_option maxHeartbeats 8000000 in
set_option maxRecDepth 100000 in
theorem Abw.calls (a0 : Int) (a1 : Int) (g2_ : Nat) (A2_0 : Option Addr) (c2_0 : Nat) (l2_0 : List (S62)) (r : Bool) (w : World) (hb2 : w.heap[g2_]? = some (.cells #[.slice A2_0 l2_0.length c2_0] 52 (0,0))) (hr2_0 : Kd.C k62 w A2_0 l2_0.length l2_0) (hc2_0 : l2_0.length ≤ c2_0) (h : Abw.f a0 a1 l2_0 = some r) :
 Calls Tryd.prog 203 #[.int .i64 a0,.int .i64 a1,.pointer (some ⟨g2_,0,none⟩)] w fun e w'=>e = .returned (.bool r) ∧ Below w.heap.size w w':=by
 have HR2_0:=A_ hr2_0;have HC2_0:=A_ hc2_0;clear hr2_0 hc2_0;have Ae:=A_ hb2;clear hb2;have HB:=A_ (Below.refl w.heap.size w);have H : (if 0 ≤ a0 then (if a0 < (l2_0.length : Int) then (if 0 ≤ a1 then (if a1 < (l2_0.length : Int) then (some (decide (((rd_T62 l2_0 a0).f1) < ((rd_T62 l2_0 a1).f0)))) else (none)) else (none)) else (none)) else (none)) = some r:=h;clear h;by_cases c4 : 0 ≤ a0
 ·rw [if_pos c4] at H;have c4b0 : decide (0 ≤ a0) = true:=decide_eq_true c4;clear c4;by_cases c5 : a0 < (l2_0.length : Int)
  ·rw [if_pos c5] at H;have c5b0 : decide (a0 < (l2_0.length : Int)) = true:=decide_eq_true c5;clear c5;by_cases c6 : 0 ≤ a1
   ·rw [if_pos c6] at H;have c6b0 : decide (0 ≤ a1) = true:=decide_eq_true c6;clear c6;by_cases c7 : a1 < (l2_0.length : Int)
    ·rw [if_pos c7] at H;have c7b0 : decide (a1 < (l2_0.length : Int)) = true:=decide_eq_true c7;clear c7;obtain rfl:=Option.some.inj H;have hcz8_0 : w.cell? ⟨g2_,0,none⟩ = some (.slice A2_0 l2_0.length c2_0):=blk_cell Ae.out 0;have hfz8_0:=blk_frozen Ae.out 0;have Aa : 0 ≤ (a0 : Int):=of_decide_eq_true (by first|(with_reducible assumption)|assumption);have Ab : a0 < (l2_0.length : Int):=of_decide_eq_true (by first|(with_reducible assumption)|assumption);obtain ⟨Af,Ah,Aj,Ak⟩:=at_T62 HR2_0.out a0 Aa Ab;cases Ah
     replace Aa:=eq_true Aa;replace Ab:=eq_true Ab;have Ac : 0 ≤ (a1 : Int):=of_decide_eq_true (by first|(with_reducible assumption)|assumption);have Ad : a1 < (l2_0.length : Int):=of_decide_eq_true (by first|(with_reducible assumption)|assumption);obtain ⟨Ag,Ai,Al,Am⟩:=at_T62 HR2_0.out a1 Ac Ad;obtain rfl : Af = Ag:=(by injection Ai);replace Ac:=eq_true Ac;replace Ad:=eq_true Ad;go_enter Tryd.func203,Tryd.ntmps203
     go_wp2
     repeat (go_quiet (fail);try go_wp2)
     go_ret
     exact ⟨by first|rfl|(simp [errW_none,errW_some] <;> rfl)|(simp [*,errW_none,errW_some] <;> rfl),bb_⟩
    ·rw [if_neg c7] at H;exact absurd H (by simp)
   ·rw [if_neg c6] at H;exact absurd H (by simp)
  ·rw [if_neg c5] at H;exact absurd H (by simp)
 ·rw [if_neg c4] at H;exact absurd H (by simp)
def Ab3.f (k : Nat) (l0 : List (S62)) : Option (Int × List Int) := (Aag.f k (l0.length : Int) (fun x0_ x1_ => Abw.f x0_ x1_ l0)).bind fun bt1184 => (some (bt1184.1, bt1184.2))
set_option maxHeartbeats 8000000 in
set_option maxRecDepth 100000 in
theorem Ab3.calls (k : Nat) (A0 : Option Addr) (c0 : Nat) (l0 : List (S62)) (r1 : Int) (r2 : List Int) (w : World) (hr0 : Kd.C k62 w A0 l0.length l0) (hc0 : l0.length ≤ c0) (h : Ab3.f k l0 = some (r1,r2)) :
 Calls Tryd.prog 131 #[.slice A0 l0.length c0] w fun e w'=>∃ v1_ : Value,e = .returned (.agg #[.int .i64 r1,v1_]) ∧ Kd.R (Kd.int .i64) 3 w' w.heap.size (fun _=>True) v1_ r2 ∧ Below w.heap.size w w':=by
 have hu28:=Tryd.underlying28;have HR0:=A_ hr0;have HC0:=A_ hc0;clear hr0 hc0;have HB:=A_ (Below.refl w.heap.size w);have H : ((Aag.f k (l0.length : Int) (fun x0_ x1_=>Abw.f x0_ x1_ l0)).bind fun Ai=>(some (Ai.1,Ai.2))) = some (r1,r2):=h;clear h;replace H:=Option.bind_eq_some_iff.mp H;obtain ⟨⟨Ad,Af⟩,A20,H⟩:=H;replace H : (some (Ad,Af)) = some (r1,r2):=H;have A2:=A_ A20;clear A20;simp only [Option.some.injEq,Prod.mk.injEq] at H
 obtain ⟨rfl,rfl⟩:=H;go_enter Tryd.func131,Tryd.ntmps131
 go_wp2_with (first|((with_reducible refine gate_dst (N:=1) rfl ?_);refine box_event ?hg (N:=1) ?hd (cs:=#[.slice A0 l0.length c0]) (t:=52) ?hr ?_;(case hd=>rfl);(case hg=>rfl);(case hr=>go_simp;try rfl);intro Ae hg w3 hbox hb;have Aa:=A_ (hbox);have Ak:=A_ (gw_ (w:=w) hg bb_);have Al:=A_ (gw_ (w:=w) hg bb_);replace HB:=A_ (below_step bb_ hb);clear hb hbox hg)|((with_reducible refine gate_dst (N:=2) rfl ?_);refine box_event ?hg (N:=2) ?hd (cs:=#[.int .i64 0,.slice none 0 0]) (t:=28) ?hr ?_;(case hd=>rfl);(case hg=>rfl);(case hr=>go_simp;try rfl);intro Ac hg w4 hbox hb;have Ab:=A_ (hbox);have Am:=A_ (gw_ (w:=w) hg bb_);have An:=A_ (gw_ (w:=w) hg bb_);replace HB:=A_ (below_step bb_ hb);have Ag:=A_ (nl_ hg Aa);have Ah:=A_ (ng_ hg Aa);replace Aa:=bz Aa hb;clear hb hbox hg;have hnb5:=Ag.out;have hnc5:=Ah.out;have hcz6_0 : w4.cell? ⟨Ae,0,none⟩ = some (.slice A0 l0.length c0):=blk_cell Aa.out 0;have hfz6_0:=blk_frozen Aa.out 0)|((with_reducible refine gate_callee (f:=114) rfl ?_);refine goesL_ (some 6) rfl rfl Tryd.func114 (by kernel_rfl) rfl #[.int .i64 (l0.length : Int),.func (.func 203) #[] #[.pointer (some ⟨Ae,0,none⟩)]] rfl au_ ?_;(with_reducible refine (Aag.calls k (l0.length : Int) (fun x0_ x1_=>Abw.f x0_ x1_ l0) Ad Af _ _ _ ?side1 ?side2 A2.out).mono ?_);(case side1=>exact fun a_ w_=>enters_of Tryd.func203 (by kernel_rfl) rfl a_ w_);(case side2=>(intro W_ x0_ x1_ r_ hB_ h_;refine Calls.mono (Abw.calls x0_ x1_ Ae _ _ l0 r_ W_ (blk_below (g:=Ae) (o:=.cells #[.slice A0 l0.length c0] 52 (0,0)) (bl_ Aa) hB_) (Kd.C_below (by exact cl_ (Kd.C_below HR0.out HB.out)) hB_) (by exact HC0.out) h_) ?_;rintro e_ w_ ⟨h1_,h2_⟩;exact ⟨h1_,h2_⟩));rintro e w7 ⟨Ao,rfl,ho0,hb⟩;refine ⟨_,rfl,?_⟩;have Aj:=A_ (Kd.R_lower ho0 (below_size bb_));replace Aa:=bz Aa hb;replace Ab:=bz Ab hb;replace HB:=A_ (below_step bb_ hb);(try clear hb);(try clear hb2);(try clear hk);(try clear hi);(try clear ho0);have hcz8_0 : w7.cell? ⟨Ac,0,none⟩ = some (.int .i64 0):=blk_cell Ab.out 0;have hcz8_1 : w7.cell? ⟨Ac,1,none⟩ = some (.slice none 0 0):=blk_cell Ab.out 1;have hfz8_0:=blk_frozen Ab.out 0;have hfz8_1:=blk_frozen Ab.out 1;obtain ⟨Ao9,co9,eo9⟩:=Kd.R_slice Aj.out;subst eo9))
 refine bodyPost_ret (results_cell_row rfl _ _ Ac 28 #[.int .i64 Ad,.slice Ao9 Af.length co9] (0,0) _ rfl (by (with_reducible repeat (first|refine blk_drewN ?_ _|refine blk_drew ?_|refine blk_alloc ?_ _));refine blk_put (cs:=#[.int .i64 Ad,.slice none 0 0]) ?_ 1 _ rfl;(with_reducible repeat (first|refine blk_drewN ?_ _|refine blk_drew ?_|refine blk_alloc ?_ _));refine blk_put (cs:=#[.int .i64 0,.slice none 0 0]) ?_ 0 _ rfl;(with_reducible repeat (first|refine blk_drewN ?_ _|refine blk_drew ?_|refine blk_alloc ?_ _));exact Ab.out) Tryd.underlying28 rfl (by kernel_rfl)) rfl ?_
 exact ⟨_,by first|rfl|(simp [errW_none,errW_some] <;> rfl)|(simp [*,errW_none,errW_some] <;> rfl),rq_ (Kd.R_mono (Kd.R_far (p:=⟨Ac,1,none⟩) (Kd.R_far (p:=⟨Ac,0,none⟩) (Kd.R_types Aj.out Ab.out (by decide)) (fun _ hk=>hk.2) (.int .i64 Ad)) (fun _ hk=>hk.2) (.slice Ao9 Af.length co9)) (fun _ hk=>trivial)),bb_⟩
def Aa2.l0 : Nat → List Int → List Int → Int → Int → Option (Bool)
 | 0,_,_,_,_=>none
 | k + 1,x0,x1,x12,x13=>if x13 < x12 then (if 0 ≤ x13 then (if x13 < (x0.length : Int) then (if x13 < (x1.length : Int) then (if (rd x0 x13) = (rd x1 x13) then (Aa2.l0 k x0 x1 x12 (wrap64 (x13 + 1))) else (some false)) else (none)) else (none)) else (none)) else (some true)
def Aa2.f (k : Nat) (l0 : List Int) (l1 : List Int) : Option (Bool) := if (l0.length : Int) = (l1.length : Int) then (Aa2.l0 k l0 l1 (l0.length : Int) 0) else (some false)
set_option maxHeartbeats 8000000 in
set_option maxRecDepth 100000 in
theorem Aa2.calls (k : Nat) (A0 : Option Addr) (c0 : Nat) (l0 : List Int) (A1 : Option Addr) (c1 : Nat) (l1 : List Int) (r : Bool) (w : World) (hr0 : Kd.C (Kd.int .i64) w A0 l0.length l0) (hc0 : l0.length ≤ c0) (hr1 : Kd.C (Kd.int .i64) w A1 l1.length l1) (hc1 : l1.length ≤ c1) (h : Aa2.f k l0 l1 = some r) :
 Calls Tryd.prog 156 #[.slice A0 l0.length c0,.slice A1 l1.length c1] w fun e w'=>e = .returned (.bool r) ∧ Drawn0 w w':=by
 have HR0:=A_ hr0;have HC0:=A_ hc0;clear hr0 hc0;have HR1:=A_ hr1;have HC1:=A_ hc1;clear hr1 hc1;have H : (if (l0.length : Int) = (l1.length : Int) then (Aa2.l0 k l0 l1 (l0.length : Int) 0) else (some false)) = some r:=h;clear h;by_cases c3 : (l0.length : Int) = (l1.length : Int)
 ·rw [if_pos c3] at H;have c3b0 : ((l0.length : Int) == (l1.length : Int)) = true:=beq_iff_eq.mpr c3;have c3b1 : ((l0.length : Int) != (l1.length : Int)) = false:=bne_eq_false_iff_eq.mpr c3;have c3b2 : (l0.length == l1.length) = true:=by first|simpa using c3|(simp at c3 ⊢;omega)
  clear c3;have H':=A_ H;clear H;go_enter Tryd.func156,Tryd.ntmps156
  go_wp2
  repeat (go_quiet (fail);try go_wp2)
  go_loopg [13] k (fun kq v13 w'=>∃ (x13_1 : Int),v13 = .int .i64 x13_1 ∧ Aside0 (Aa2.l0 kq l0 l1 (l0.length : Int) x13_1 = some r) ∧ Aside0 (kq ≤ k) ∧ Drawn0 w w')
  case atStart=>exact ⟨(0),(by first|rfl|(simp;done)|(simp [*];done)),H',⟨Nat.le_refl _⟩,by repeat (first|exact Drawn0.refl _|apply Drawn0.step)⟩
  case round =>
   clear H';try clear c1
   try clear p2
   try clear c3
   try clear c3b0
   try clear c3b1
   try clear c3b2
   obtain ⟨x13_1,rfl,HA,HK1,⟨m1,rfl⟩⟩:=hrel;cases gk with
   | zero=>exact absurd HA.out (by simp [Aa2.l0])
   | succ k1 =>
    have H:=HA.out;clear HA;simp only [Aa2.l0] at H
    by_cases c4 : x13_1 < (l0.length : Int)
    ·rw [if_pos c4] at H;have c4b0 : decide (x13_1 < (l0.length : Int)) = true:=decide_eq_true c4;clear c4;by_cases c5 : 0 ≤ x13_1
     ·rw [if_pos c5] at H;have c5b0 : decide (0 ≤ x13_1) = true:=decide_eq_true c5;clear c5;by_cases c6 : x13_1 < (l0.length : Int)
      ·rw [if_pos c6] at H;have c6b0 : decide (x13_1 < (l0.length : Int)) = true:=decide_eq_true c6;clear c6;by_cases c7 : x13_1 < (l1.length : Int)
       ·rw [if_pos c7] at H;have c7b0 : decide (x13_1 < (l1.length : Int)) = true:=decide_eq_true c7;clear c7;by_cases c8 : (rd l0 x13_1) = (rd l1 x13_1)
        ·rw [if_pos c8] at H;have c8b0 : ((rd l0 x13_1) == (rd l1 x13_1)) = true:=beq_iff_eq.mpr c8;have c8b1 : ((rd l0 x13_1) != (rd l1 x13_1)) = false:=bne_eq_false_iff_eq.mpr c8;clear c8;have H':=A_ H;clear H;have Aa : 0 ≤ (x13_1 : Int):=of_decide_eq_true (by first|(with_reducible assumption)|assumption);have Ab : x13_1 < (l0.length : Int):=of_decide_eq_true (by first|(with_reducible assumption)|assumption);obtain ⟨Ai,Ae,Ag⟩:=Kd.at_int HR0.out x13_1 Aa Ab;cases Ae
         replace Aa:=eq_true Aa;replace Ab:=eq_true Ab;have Ac : 0 ≤ (x13_1 : Int):=of_decide_eq_true (by first|(with_reducible assumption)|assumption);have Ad : x13_1 < (l1.length : Int):=of_decide_eq_true (by first|(with_reducible assumption)|assumption);obtain ⟨Aj,Af,Ah⟩:=Kd.at_int HR1.out x13_1 Ac Ad;cases Af
         replace Ac:=eq_true Ac;replace Ad:=eq_true Ad;go_wp2
         repeat (go_quiet (fail);try go_wp2)
         go_roundg k1
         case measure=>have:=HK1.out;omega
         case rel=>exact ⟨(wrap64 (x13_1 + 1)),(by first|rfl|(simp;done)|(simp [*];done)),H',⟨by have:=HK1.out;omega⟩,by repeat (first|exact Drawn0.refl _|apply Drawn0.step)⟩
        ·rw [if_neg c8] at H;have c8b0 : ((rd l0 x13_1) == (rd l1 x13_1)) = false:=beq_eq_false_iff_ne.mpr c8;have c8b1 : ((rd l0 x13_1) != (rd l1 x13_1)) = true:=bne_iff_ne.mpr c8;obtain rfl:=Option.some.inj H;have Aa : 0 ≤ (x13_1 : Int):=of_decide_eq_true (by first|(with_reducible assumption)|assumption);have Ab : x13_1 < (l0.length : Int):=of_decide_eq_true (by first|(with_reducible assumption)|assumption);obtain ⟨Ai,Ae,Ag⟩:=Kd.at_int HR0.out x13_1 Aa Ab;cases Ae
         replace Aa:=eq_true Aa;replace Ab:=eq_true Ab;have Ac : 0 ≤ (x13_1 : Int):=of_decide_eq_true (by first|(with_reducible assumption)|assumption);have Ad : x13_1 < (l1.length : Int):=of_decide_eq_true (by first|(with_reducible assumption)|assumption);obtain ⟨Aj,Af,Ah⟩:=Kd.at_int HR1.out x13_1 Ac Ad;cases Af
         replace Ac:=eq_true Ac;replace Ad:=eq_true Ad;go_wp2
         repeat (go_quiet (fail);try go_wp2)
         go_ret
         exact ⟨by first|rfl|(simp;done)|(simp [*];done),by repeat (first|exact Drawn0.refl _|apply Drawn0.step)⟩
       ·rw [if_neg c7] at H;exact absurd H (by simp)
      ·rw [if_neg c6] at H;exact absurd H (by simp)
     ·rw [if_neg c5] at H;exact absurd H (by simp)
    ·rw [if_neg c4] at H;have c4b0 : decide (x13_1 < (l0.length : Int)) = false:=decide_eq_false c4;clear c4;obtain rfl:=Option.some.inj H;go_wp2
     repeat (go_quiet (fail);try go_wp2)
     go_ret
     exact ⟨by first|rfl|(simp;done)|(simp [*];done),by repeat (first|exact Drawn0.refl _|apply Drawn0.step)⟩
 ·rw [if_neg c3] at H;have c3b0 : ((l0.length : Int) == (l1.length : Int)) = false:=beq_eq_false_iff_ne.mpr c3;have c3b1 : ((l0.length : Int) != (l1.length : Int)) = true:=bne_iff_ne.mpr c3;have c3b2 : (l0.length == l1.length) = false:=by first|simpa using c3|(simp at c3 ⊢;omega)
  obtain rfl:=Option.some.inj H;go_enter Tryd.func156,Tryd.ntmps156
  go_wp2
  repeat (go_quiet (fail);try go_wp2)
  go_ret
  exact ⟨by first|rfl|(simp;done)|(simp [*];done),by repeat (first|exact Drawn0.refl _|apply Drawn0.step)⟩
def Aby.f (k : Nat) (a0_0 : Int) (l0_1 : List Int) (a1_0 : Int) (l1_1 : List Int) : Option (Bool) := if a0_0 = a1_0 then ((Aa2.f k l0_1 l1_1).bind fun t1290 => (some t1290)) else (some false)
set_option maxHeartbeats 8000000 in
set_option maxRecDepth 100000 in
theorem Aby.calls (k : Nat) (a0_0 : Int) (A0_1 : Option Addr) (c0_1 : Nat) (l0_1 : List Int) (a1_0 : Int) (A1_1 : Option Addr) (c1_1 : Nat) (l1_1 : List Int) (r : Bool) (w : World) (hr0_1 : Kd.C (Kd.int .i64) w A0_1 l0_1.length l0_1) (hc0_1 : l0_1.length ≤ c0_1) (hr1_1 : Kd.C (Kd.int .i64) w A1_1 l1_1.length l1_1) (hc1_1 : l1_1.length ≤ c1_1) (h : Aby.f k a0_0 l0_1 a1_0 l1_1 = some r) :
 Calls Tryd.prog 138 #[.agg #[.int .i64 a0_0,.slice A0_1 l0_1.length c0_1],.agg #[.int .i64 a1_0,.slice A1_1 l1_1.length c1_1]] w fun e w'=>e = .returned (.bool r) ∧ Below w.heap.size w w':=by
 have hu28:=Tryd.underlying28;have HR0_1:=A_ hr0_1;have HC0_1:=A_ hc0_1;clear hr0_1 hc0_1;have HR1_1:=A_ hr1_1;have HC1_1:=A_ hc1_1;clear hr1_1 hc1_1;have HB:=A_ (Below.refl w.heap.size w);have H : (if a0_0 = a1_0 then ((Aa2.f k l0_1 l1_1).bind fun Ag=>(some Ag)) else (some false)) = some r:=h;clear h;by_cases c3 : a0_0 = a1_0
 ·rw [if_pos c3] at H;have c3b0 : (a0_0 == a1_0) = true:=beq_iff_eq.mpr c3;have c3b1 : (a0_0 != a1_0) = false:=bne_eq_false_iff_eq.mpr c3;clear c3;replace H:=Option.bind_eq_some_iff.mp H;obtain ⟨Ag,A40,H⟩:=H;replace H : (some Ag) = some r:=H;have A4:=A_ A40;clear A40;obtain rfl:=Option.some.inj H;go_enter Tryd.func138,Tryd.ntmps138
  go_wp2_with (first|((with_reducible refine gate_dst (N:=2) rfl ?_);refine box_event ?hg (N:=2) ?hd (cs:=#[.int .i64 a0_0,.slice A0_1 l0_1.length c0_1]) (t:=28) ?hr ?_;(case hd=>rfl);(case hg=>rfl);(case hr=>go_simp;try rfl);intro Ae hg w5 hbox hb;have Aa:=A_ (hbox);have Ah:=A_ (gw_ (w:=w) hg bb_);have Ai:=A_ (gw_ (w:=w) hg bb_);replace HB:=A_ (below_step bb_ hb);clear hb hbox hg)|((with_reducible refine gate_dst (N:=3) rfl ?_);refine box_event ?hg (N:=3) ?hd (cs:=#[.int .i64 a1_0,.slice A1_1 l1_1.length c1_1]) (t:=28) ?hr ?_;(case hd=>rfl);(case hg=>rfl);(case hr=>go_simp;try rfl);intro Af hg w6 hbox hb;have Ab:=A_ (hbox);have Aj:=A_ (gw_ (w:=w) hg bb_);have Ak:=A_ (gw_ (w:=w) hg bb_);replace HB:=A_ (below_step bb_ hb);have Ac:=A_ (nl_ hg Aa);have Ad:=A_ (ng_ hg Aa);replace Aa:=bz Aa hb;clear hb hbox hg;have hnb7:=Ac.out;have hnc7:=Ad.out;have hcz8_0 : w6.cell? ⟨Ae,0,none⟩ = some (.int .i64 a0_0):=blk_cell Aa.out 0;have hcz8_1 : w6.cell? ⟨Ae,1,none⟩ = some (.slice A0_1 l0_1.length c0_1):=blk_cell Aa.out 1;have hfz8_0:=blk_frozen Aa.out 0;have hfz8_1:=blk_frozen Aa.out 1;have hcz9_0 : w6.cell? ⟨Af,0,none⟩ = some (.int .i64 a1_0):=blk_cell Ab.out 0;have hcz9_1 : w6.cell? ⟨Af,1,none⟩ = some (.slice A1_1 l1_1.length c1_1):=blk_cell Ab.out 1;have hfz9_0:=blk_frozen Ab.out 0;have hfz9_1:=blk_frozen Ab.out 1)|(go_at_call 156;(with_reducible refine (Aa2.calls k _ _ l0_1 _ _ l1_1 Ag _ ?side1 ?side2 ?side3 ?side4 A4.out).mono ?_);(case side1=>exact cl_ (Kd.C_below HR0_1.out HB.out));(case side2=>exact HC0_1.out);(case side3=>exact cl_ (Kd.C_below HR1_1.out HB.out));(case side4=>exact HC1_1.out);rintro e w' ⟨rfl,⟨nd,rfl⟩⟩))
  go_ret
  exact ⟨by first|rfl|(simp [errW_none,errW_some] <;> rfl)|(simp [*,errW_none,errW_some] <;> rfl),bb_⟩
 ·rw [if_neg c3] at H;have c3b0 : (a0_0 == a1_0) = false:=beq_eq_false_iff_ne.mpr c3;have c3b1 : (a0_0 != a1_0) = true:=bne_iff_ne.mpr c3;obtain rfl:=Option.some.inj H;go_enter Tryd.func138,Tryd.ntmps138
  go_wp2_with (first|((with_reducible refine gate_dst (N:=2) rfl ?_);refine box_event ?hg (N:=2) ?hd (cs:=#[.int .i64 a0_0,.slice A0_1 l0_1.length c0_1]) (t:=28) ?hr ?_;(case hd=>rfl);(case hg=>rfl);(case hr=>go_simp;try rfl);intro Ae hg w10 hbox hb;have Aa:=A_ (hbox);have Ah:=A_ (gw_ (w:=w) hg bb_);have Ai:=A_ (gw_ (w:=w) hg bb_);replace HB:=A_ (below_step bb_ hb);clear hb hbox hg)|((with_reducible refine gate_dst (N:=3) rfl ?_);refine box_event ?hg (N:=3) ?hd (cs:=#[.int .i64 a1_0,.slice A1_1 l1_1.length c1_1]) (t:=28) ?hr ?_;(case hd=>rfl);(case hg=>rfl);(case hr=>go_simp;try rfl);intro Af hg w11 hbox hb;have Ab:=A_ (hbox);have Aj:=A_ (gw_ (w:=w) hg bb_);have Ak:=A_ (gw_ (w:=w) hg bb_);replace HB:=A_ (below_step bb_ hb);have Ac:=A_ (nl_ hg Aa);have Ad:=A_ (ng_ hg Aa);replace Aa:=bz Aa hb;clear hb hbox hg;have hnb12:=Ac.out;have hnc12:=Ad.out;have hcz13_0 : w11.cell? ⟨Ae,0,none⟩ = some (.int .i64 a0_0):=blk_cell Aa.out 0;have hcz13_1 : w11.cell? ⟨Ae,1,none⟩ = some (.slice A0_1 l0_1.length c0_1):=blk_cell Aa.out 1;have hfz13_0:=blk_frozen Aa.out 0;have hfz13_1:=blk_frozen Aa.out 1;have hcz14_0 : w11.cell? ⟨Af,0,none⟩ = some (.int .i64 a1_0):=blk_cell Ab.out 0;have hcz14_1 : w11.cell? ⟨Af,1,none⟩ = some (.slice A1_1 l1_1.length c1_1):=blk_cell Ab.out 1;have hfz14_0:=blk_frozen Ab.out 0;have hfz14_1:=blk_frozen Ab.out 1))
  go_ret
  exact ⟨by first|rfl|(simp [errW_none,errW_some] <;> rfl)|(simp [*,errW_none,errW_some] <;> rfl),bb_⟩
def Aau.j0 : Nat → List (S62) → Bool → Int → List Int → Option (Bool × Bool)
 | 0,_,_,_,_=>none
 | k + 1,x0,x13,x1292000,x1292001=>if x13 = true then (some (false,false)) else ((Ab3.f k x0).bind fun bt1294=>((Aby.f k bt1294.1 bt1294.2 x1292000 x1292001).bind fun t1298=>(some (t1298,true))))
def Aau.f (k : Nat) (l0 : List (S62)) (a1_0 : Int) (l1_1 : List Int) : Option (Bool × Bool) := (Aas.f k l0).bind fun t1292 => (if t1292 = true then ((Aaq.f k a1_0 l1_1).bind fun t1293 => (Aau.j0 k l0 (!t1293) a1_0 l1_1)) else (Aau.j0 k l0 true a1_0 l1_1))
set_option maxHeartbeats 8000000 in
set_option maxRecDepth 100000 in
theorem Aau.calls (k : Nat) (A0 : Option Addr) (c0 : Nat) (l0 : List (S62)) (a1_0 : Int) (A1_1 : Option Addr) (c1_1 : Nat) (l1_1 : List Int) (r1 : Bool) (r2 : Bool) (w : World) (hr0 : Kd.C k62 w A0 l0.length l0) (hc0 : l0.length ≤ c0) (hr1_1 : Kd.C (Kd.int .i64) w A1_1 l1_1.length l1_1) (hc1_1 : l1_1.length ≤ c1_1) (hT : TabOK w) (h : Aau.f k l0 a1_0 l1_1 = some (r1,r2)) :
 Calls Tryd.prog 50 #[.slice A0 l0.length c0,.agg #[.int .i64 a1_0,.slice A1_1 l1_1.length c1_1]] w fun e w'=>e = .returned (.tuple #[.bool r1,.bool r2]) ∧ Below w.heap.size w w':=by
 have hu28:=Tryd.underlying28;have HT:=A_ hT;clear hT;have HR0:=A_ hr0;have HC0:=A_ hc0;clear hr0 hc0;have HR1_1:=A_ hr1_1;have HC1_1:=A_ hc1_1;clear hr1_1 hc1_1;have HB:=A_ (Below.refl w.heap.size w);have H : ((Aas.f k l0).bind fun Af=>(if Af = true then ((Aaq.f k a1_0 l1_1).bind fun Ab=>(Aau.j0 k l0 (!Ab) a1_0 l1_1)) else (Aau.j0 k l0 true a1_0 l1_1))) = some (r1,r2):=h;clear h;have HC3:=A_ H;clear H;go_enter Tryd.func50,Tryd.ntmps50
 go_upto_region 1 with (first|((with_reducible refine gate_dst (N:=3) rfl ?_);refine box_event ?hg (N:=3) ?hd (cs:=#[.int .i64 a1_0,.slice A1_1 l1_1.length c1_1]) (t:=28) ?hr ?_;(case hd=>rfl);(case hg=>rfl);(case hr=>go_simp;try rfl);intro Ac hg w4 hbox hb;have Aa:=A_ (hbox);have Al:=A_ (gw_ (w:=w) hg bb_);have Am:=A_ (gw_ (w:=w) hg bb_);replace HB:=A_ (below_step bb_ hb);clear hb hbox hg))
 (try simp only [Act.put,L_,M_,N_]);go_cut [13] (fun v13 wc=>∃ (kq : Nat) (x13_2 : Bool),v13 = .bool x13_2 ∧ Aside0 (Aau.j0 kq l0 x13_2 a1_0 l1_1 = some (r1,r2)) ∧ Aside0 (kq ≤ k) ∧ Aside0 (wc.heap[Ac]? = some (.cells #[.int .i64 a1_0,(.slice A1_1 l1_1.length c1_1)] 28 (0,0))) ∧ Aside0 (Below w.heap.size w wc))
 case first =>
  have H:=HC3.out;clear HC3;replace H:=Option.bind_eq_some_iff.mp H;obtain ⟨Af,A50,H⟩:=H;replace H : (if Af = true then ((Aaq.f k a1_0 l1_1).bind fun Ab=>(Aau.j0 k l0 (!Ab) a1_0 l1_1)) else (Aau.j0 k l0 true a1_0 l1_1)) = some (r1,r2):=H;have A5:=A_ A50;clear A50;by_cases c6 : Af = true
  ·subst c6;have H1 : ((Aaq.f k a1_0 l1_1).bind fun Ab=>(Aau.j0 k l0 (!Ab) a1_0 l1_1)) = some (r1,r2):=by rw [if_pos rfl] at H;exact H
   clear H;have H:=H1;clear H1;replace H:=Option.bind_eq_some_iff.mp H;obtain ⟨Ab,A70,H⟩:=H;replace H : (Aau.j0 k l0 (!Ab) a1_0 l1_1) = some (r1,r2):=H;have A7:=A_ A70;clear A70;have H':=A_ H;clear H;go_wp2_with (first|((with_reducible refine gate_callee (f:=47) rfl ?_);refine goesL_ (some 7) rfl rfl Tryd.func47 (by kernel_rfl) rfl #[.slice A0 l0.length c0] rfl au_ ?_;(with_reducible refine (Aas.calls k _ _ l0 true _ ?side1 ?side2 A5.out).mono ?_);(case side1=>exact cl_ (Kd.C_below HR0.out HB.out));(case side2=>exact HC0.out);rintro e w8 ⟨rfl,hb⟩;refine ⟨_,rfl,?_⟩;replace Aa:=bz Aa hb;replace HB:=A_ (below_step bb_ hb);(try clear hb);(try clear hb2);(try clear hk);(try clear hi);have hcz9_0 : w8.cell? ⟨Ac,0,none⟩ = some (.int .i64 a1_0):=blk_cell Aa.out 0;have hcz9_1 : w8.cell? ⟨Ac,1,none⟩ = some (.slice A1_1 l1_1.length c1_1):=blk_cell Aa.out 1;have hfz9_0:=blk_frozen Aa.out 0;have hfz9_1:=blk_frozen Aa.out 1)|(go_at_call 61;(with_reducible refine (Aaq.calls k a1_0 _ _ l1_1 Ab _ ?side1 ?side2 ?side3 A7.out).mono ?_);(case side1=>exact cl_ (Kd.C_below HR1_1.out HB.out));(case side2=>exact HC1_1.out);(case side3=>first|exact HT.out|exact HT.out.below bb_|(repeat (first|exact HT.out|apply TabOK.drewN|apply TabOK.drew|apply TabOK.alloc)));rintro e w10 ⟨rfl,hb⟩;replace Aa:=bz Aa hb;replace HB:=A_ (below_step bb_ hb);(try clear hb);(try clear hb2);(try clear hk);(try clear hi)))
   go_meet
   case rel=>exact ⟨_,(!Ab),(by first|rfl|(simp;done)|(simp [*];done)),H',⟨by first|omega|exact Nat.le_refl _⟩,⟨bl_ Aa⟩,⟨bb_⟩⟩
  ·replace c6:=Bool.eq_false_iff.mpr c6;subst c6;have H1 : (Aau.j0 k l0 true a1_0 l1_1) = some (r1,r2):=by rw [if_neg (show ¬ (false = true) by decide)] at H;exact H
   clear H;have H:=H1;clear H1;have H':=A_ H;clear H;go_wp2_with (first|((with_reducible refine gate_callee (f:=47) rfl ?_);refine goesL_ (some 7) rfl rfl Tryd.func47 (by kernel_rfl) rfl #[.slice A0 l0.length c0] rfl au_ ?_;(with_reducible refine (Aas.calls k _ _ l0 false _ ?side1 ?side2 A5.out).mono ?_);(case side1=>exact cl_ (Kd.C_below HR0.out HB.out));(case side2=>exact HC0.out);rintro e w11 ⟨rfl,hb⟩;refine ⟨_,rfl,?_⟩;replace Aa:=bz Aa hb;replace HB:=A_ (below_step bb_ hb);(try clear hb);(try clear hb2);(try clear hk);(try clear hi)))
   go_meet
   case rel=>exact ⟨_,(true),(by first|rfl|(simp;done)|(simp [*];done)),H',⟨by first|omega|exact Nat.le_refl _⟩,⟨bl_ Aa⟩,⟨bb_⟩⟩
 case rest =>
  clear HC3;try clear c1
  try clear p2
  try clear c4
  try clear c5
  try clear c6
  try clear hcz9_0
  try clear hcz9_1
  try clear hfz9_0
  try clear hfz9_1
  obtain ⟨kq,x13_2,rfl,HA,HJ2,Aa,HB⟩:=hcut;cases kq with
  | zero => exact absurd HA.out (by simp [Aau.j0])
  | succ kj2 =>
   have H:=HA.out;clear HA;simp only [Aau.j0] at H
   by_cases c12 : x13_2 = true
   ·subst c12;have H1 : (some (false,false)) = some (r1,r2):=by rw [if_pos rfl] at H;exact H
    clear H;have H:=H1;clear H1;simp only [Option.some.injEq,Prod.mk.injEq] at H
    obtain ⟨rfl,rfl⟩:=H;go_wp2
    go_ret2
    exact ⟨by first|rfl|(simp [errW_none,errW_some] <;> rfl)|(simp [*,errW_none,errW_some] <;> rfl),bb_⟩
   ·replace c12:=Bool.eq_false_iff.mpr c12;subst c12;have H1 : ((Ab3.f kj2 l0).bind fun Ai=>((Aby.f kj2 Ai.1 Ai.2 a1_0 l1_1).bind fun Ae=>(some (Ae,true)))) = some (r1,r2):=by rw [if_neg (show ¬ (false = true) by decide)] at H;exact H
    clear H;have H:=H1;clear H1;replace H:=Option.bind_eq_some_iff.mp H;obtain ⟨⟨Ag,Ah⟩,Aj,H⟩:=H;replace H : ((Aby.f kj2 Ag Ah a1_0 l1_1).bind fun Ae=>(some (Ae,true))) = some (r1,r2):=H;have A13:=A_ Aj;clear Aj;replace H:=Option.bind_eq_some_iff.mp H;obtain ⟨Ae,Ak,H⟩:=H;replace H : (some (Ae,true)) = some (r1,r2):=H;have A14:=A_ Ak;clear Ak;simp only [Option.some.injEq,Prod.mk.injEq] at H
    obtain ⟨rfl,rfl⟩:=H;try go_wp2
    replace Aa:=A_ (blk_drew Aa.out);replace HB:=A_ (below_drew1 HB.out);refine start_ (n:=6) (S:=fun w'=>w'.cell? ⟨Ac,0,none⟩ = some (.int .i64 a1_0) ∧ w'.cell? ⟨Ac,1,none⟩ = some (.slice A1_1 l1_1.length c1_1)) (ds:=[]) #[F,F,F,F,F,F] (by kernel_rfl) rfl rfl ⟨blk_cell Aa.out 0,blk_cell Aa.out 1⟩ (fun hHeld=>?_)
    generalize wc.drew = w15 at Aa HB hHeld ⊢
    refine pure_ (i:=0) (N:=some 14) (v:=?_) (a':=?_) #[T,F,F,F,F,F] rfl rfl (by kernel_rfl) (fun _ _ _ h=>h) (Or.inl ⟨by rfl,?_⟩) ?_ ?_
    rotate_left;·intro w';go_simp;with_reducible rfl
    rotate_left;·simp only [Act.put,L_,M_,N_,i64_w,i32_w];rfl
    refine take_ (i:=2) (N:=some 16) (v:=?_) (a':=?_) #[T,F,T,F,F,F] rfl rfl (by kernel_rfl) (fun _ _ _ h=>h) (Or.inl ⟨by rfl,?_⟩) hHeld ?_ ?_
    rotate_left
    ·rintro w' ⟨s0,s1⟩
     go_simp
     with_reducible rfl
    rotate_left;·simp only [Act.put,L_,M_,N_,i64_w,i32_w];rfl
    refine one_ (i:=1) (N:=some 15) #[T,T,T,F,F,F] rfl rfl (by kernel_rfl) (by decide) (fun K hK=>?_)
    refine goes_ Tryd.func131 (by kernel_rfl) rfl #[.slice A0 l0.length c0] (by rfl) rfl rfl au_ ?_
    with_reducible refine (Ab3.calls kj2 _ _ l0 Ag Ah _ ?side1 ?side2 A13.out).mono ?_
    (case side1=>exact cl_ (Kd.C_below HR0.out HB.out))
    (case side2=>exact HC0.out)
    rintro e w16 ⟨An,rfl,ho0,hb⟩
    refine ⟨_,rfl,?_⟩
    have Ad:=A_ (Kd.R_lower ho0 (below_size bb_));replace Aa:=bz Aa hb;replace HB:=A_ (below_step bb_ hb);(try clear hb);(try clear hb2);(try clear hk);(try clear hi);(try clear ho0);obtain ⟨Ao17,co17,eo17⟩:=Kd.R_slice Ad.out;(first|subst eo17|(injection eo17 with f1_ f2_ f3_;have f4_:=f1_.symm;have f5_:=f3_.symm;clear f1_ f2_ f3_;subst f4_;subst f5_))
    refine hK.out _ _ ⟨blk_cell Aa.out 0,blk_cell Aa.out 1⟩ (fun hHeld=>?_)
    clear hK K;refine norm_ (a':=?_) ?_ ?_
    rotate_left
    ·show Act.put _ (some 15) _ = _
     simp only [Act.put,L_,M_,N_,i64_w,i32_w]
     rfl
    refine one_ (i:=3) (N:=some 17) #[T,T,T,T,F,F] rfl rfl (by kernel_rfl) (by decide) (fun K hK=>?_)
    refine goes_ Tryd.func138 (by kernel_rfl) rfl #[.agg #[.int .i64 Ag,.slice Ao17 Ah.length co17],.agg #[.int .i64 a1_0,.slice A1_1 l1_1.length c1_1]] (by rfl) rfl rfl au_ ?_
    with_reducible refine (Aby.calls kj2 Ag _ _ Ah a1_0 _ _ l1_1 Ae _ ?side1 ?side2 ?side3 ?side4 A14.out).mono ?_
    (case side1=>exact cl_ (Kd.R_reads' Ad.out).2.2)
    (case side2=>exact (Kd.R_reads' Ad.out).2.1)
    (case side3=>exact cl_ (Kd.C_below HR1_1.out HB.out))
    (case side4=>exact HC1_1.out)
    rintro e w18 ⟨rfl,hb⟩
    refine ⟨_,rfl,?_⟩
    replace Ad:=rb_ Ad hb;replace Aa:=bz Aa hb;replace HB:=A_ (below_step bb_ hb);(try clear hb);(try clear hb2);(try clear hk);(try clear hi);refine hK.out _ _ ⟨blk_cell Aa.out 0,blk_cell Aa.out 1⟩ (fun hHeld=>?_)
    clear hK K;refine norm_ (a':=?_) ?_ ?_
    rotate_left
    ·show Act.put _ (some 17) _ = _
     simp only [Act.put,L_,M_,N_,i64_w,i32_w]
     rfl
    refine pure_ (i:=4) (N:=some 4) (v:=?_) (a':=?_) #[T,T,T,T,T,F] rfl rfl (by kernel_rfl) (fun _ _ _ h=>h) (Or.inl ⟨by rfl,?_⟩) ?_ ?_
    rotate_left;·intro w';go_simp;with_reducible rfl
    rotate_left;·simp only [Act.put,L_,M_,N_,i64_w,i32_w];rfl
    refine pure_ (i:=5) (N:=some 5) (v:=?_) (a':=?_) #[T,T,T,T,T,T] rfl rfl (by kernel_rfl) (fun _ _ _ h=>h) (Or.inl ⟨by rfl,?_⟩) ?_ ?_
    rotate_left;·intro w';go_simp;with_reducible rfl
    rotate_left;·simp only [Act.put,L_,M_,N_,i64_w,i32_w];rfl
    refine done_ (by kernel_rfl) ?_
    try go_wp2
    go_ret2
    exact ⟨by first|rfl|(simp [errW_none,errW_some] <;> rfl)|(simp [*,errW_none,errW_some] <;> rfl),bb_⟩
theorem eqA62 (d : Nat) (w : World) (x0 y0 : Int) (x1 y1 : Int) :
 (Op.equalIn (d + 2) 62 (.agg #[.int .i64 x0,.int .i64 x1]) (.agg #[.int .i64 y0,.int .i64 y1])).run Tryd.prog w = .ok (x0 == y0 && (x1 == y1)) w:=by
 refine eqA_of Tryd.underlying62 (by kernel_rfl) ?_
 refine eqf_cons (by rfl) (by go_simp;rfl) (by go_simp;rfl) (by go_simp) ?_
 exact eqf_last (by rfl) (by go_simp;rfl) (by go_simp;rfl) (by go_simp)
end Go.Proofs.YtimjblnglhmakaaDoor.P
namespace Go.Proofs.YtimjblnglhmakaaDoor.P
open Go.RowKit Go.Proofs.YtimjblnglhmakaaDoorW.PrintWords Go.Proofs.YtimjblnglhmakaaDoorW.PrintLast Go.Proofs.YtimjblnglhmakaaDoorW.PrintMore
open Bool renaming true → T, false → F
open List renaming setIfInBounds_toArray → L_, set_cons_zero → M_, set_cons_succ → N_, map_toArray → P_, map_cons → Q_, map_nil → R_, length_drop → S_, length_take → U_
open Aside0 renaming mk → A_
attribute [local go_sem] max2_int min2_int max_two min_two max_three min_three max_four min_four
set_option linter.unusedVariables false
set_option linter.unusedSimpArgs false
attribute [local go_sem] fldOrder_0 fldOrder_1
attribute [local go_sem high] eqA62
def Aar.l0 : Nat → List (S62) → List (S62) → Int → Int → Option (Bool)
 | 0,_,_,_,_=>none
 | k + 1,x0,x1,x12,x13=>if x13 < x12 then (if 0 ≤ x13 then (if x13 < (x0.length : Int) then (if x13 < (x1.length : Int) then (if (!(((rd_T62 x0 x13).f0) == ((rd_T62 x1 x13).f0)) || (!(((rd_T62 x0 x13).f1) == ((rd_T62 x1 x13).f1)))) = true then (some false) else (Aar.l0 k x0 x1 x12 (wrap64 (x13 + 1)))) else (none)) else (none)) else (none)) else (some true)
def Aar.f (k : Nat) (l0 : List (S62)) (l1 : List (S62)) : Option (Bool) := if (l0.length : Int) = (l1.length : Int) then (Aar.l0 k l0 l1 (l0.length : Int) 0) else (some false)
set_option maxHeartbeats 8000000 in
set_option maxRecDepth 100000 in
theorem Aar.calls (k : Nat) (A0 : Option Addr) (c0 : Nat) (l0 : List (S62)) (A1 : Option Addr) (c1 : Nat) (l1 : List (S62)) (r : Bool) (w : World) (hr0 : Kd.C k62 w A0 l0.length l0) (hc0 : l0.length ≤ c0) (hr1 : Kd.C k62 w A1 l1.length l1) (hc1 : l1.length ≤ c1) (h : Aar.f k l0 l1 = some r) :
 Calls Tryd.prog 52 #[.slice A0 l0.length c0,.slice A1 l1.length c1] w fun e w'=>e = .returned (.bool r) ∧ Drawn0 w w':=by
 have hu62:=Tryd.underlying62;have HR0:=A_ hr0;have HC0:=A_ hc0;clear hr0 hc0;have HR1:=A_ hr1;have HC1:=A_ hc1;clear hr1 hc1;have H : (if (l0.length : Int) = (l1.length : Int) then (Aar.l0 k l0 l1 (l0.length : Int) 0) else (some false)) = some r:=h;clear h;by_cases c3 : (l0.length : Int) = (l1.length : Int)
 ·rw [if_pos c3] at H;have c3b0 : ((l0.length : Int) == (l1.length : Int)) = true:=beq_iff_eq.mpr c3;have c3b1 : ((l0.length : Int) != (l1.length : Int)) = false:=bne_eq_false_iff_eq.mpr c3;have c3b2 : (l0.length == l1.length) = true:=by first|simpa using c3|(simp at c3 ⊢;omega)
  clear c3;have H':=A_ H;clear H;go_enter Tryd.func52,Tryd.ntmps52
  go_wp2
  repeat (go_quiet (fail);try go_wp2)
  go_loopg [13] k (fun kq v13 w'=>∃ (x13_1 : Int),v13 = .int .i64 x13_1 ∧ Aside0 (Aar.l0 kq l0 l1 (l0.length : Int) x13_1 = some r) ∧ Aside0 (kq ≤ k) ∧ Drawn0 w w')
  case atStart=>exact ⟨(0),(by first|rfl|(simp;done)|(simp [*];done)),H',⟨Nat.le_refl _⟩,by repeat (first|exact Drawn0.refl _|apply Drawn0.step)⟩
  case round =>
   clear H';try clear c1
   try clear p2
   try clear c3
   try clear c3b0
   try clear c3b1
   try clear c3b2
   obtain ⟨x13_1,rfl,HA,HK1,⟨m1,rfl⟩⟩:=hrel;cases gk with
   | zero=>exact absurd HA.out (by simp [Aar.l0])
   | succ k1 =>
    have H:=HA.out;clear HA;simp only [Aar.l0] at H
    by_cases c4 : x13_1 < (l0.length : Int)
    ·rw [if_pos c4] at H;have c4b0 : decide (x13_1 < (l0.length : Int)) = true:=decide_eq_true c4;clear c4;by_cases c5 : 0 ≤ x13_1
     ·rw [if_pos c5] at H;have c5b0 : decide (0 ≤ x13_1) = true:=decide_eq_true c5;clear c5;by_cases c6 : x13_1 < (l0.length : Int)
      ·rw [if_pos c6] at H;have c6b0 : decide (x13_1 < (l0.length : Int)) = true:=decide_eq_true c6;clear c6;by_cases c7 : x13_1 < (l1.length : Int)
       ·rw [if_pos c7] at H;have c7b0 : decide (x13_1 < (l1.length : Int)) = true:=decide_eq_true c7;clear c7;by_cases c8 : (!(((rd_T62 l0 x13_1).f0) == ((rd_T62 l1 x13_1).f0)) || (!(((rd_T62 l0 x13_1).f1) == ((rd_T62 l1 x13_1).f1)))) = true
        ·rw [if_pos c8] at H;have c8b0 : (!(((rd_T62 l0 x13_1).f0) == ((rd_T62 l1 x13_1).f0)) || (!(((rd_T62 l0 x13_1).f1) == ((rd_T62 l1 x13_1).f1)))) = true:=c8;clear c8;obtain rfl:=Option.some.inj H;have Aa : 0 ≤ (x13_1 : Int):=of_decide_eq_true (by first|(with_reducible assumption)|assumption);have Ab : x13_1 < (l0.length : Int):=of_decide_eq_true (by first|(with_reducible assumption)|assumption);obtain ⟨Ak,Ae,Ag,Ah⟩:=at_T62 HR0.out x13_1 Aa Ab;cases Ae
         replace Aa:=eq_true Aa;replace Ab:=eq_true Ab;have Ac : 0 ≤ (x13_1 : Int):=of_decide_eq_true (by first|(with_reducible assumption)|assumption);have Ad : x13_1 < (l1.length : Int):=of_decide_eq_true (by first|(with_reducible assumption)|assumption);obtain ⟨Al,Af,Ai,Aj⟩:=at_T62 HR1.out x13_1 Ac Ad;cases Af
         replace Ac:=eq_true Ac;replace Ad:=eq_true Ad;go_wp2
         repeat (go_quiet (fail);try go_wp2)
         go_ret
         exact ⟨by first|rfl|(simp;done)|(simp [*];done),by repeat (first|exact Drawn0.refl _|apply Drawn0.step)⟩
        ·rw [if_neg c8] at H;have c8b0 : (!(((rd_T62 l0 x13_1).f0) == ((rd_T62 l1 x13_1).f0)) || (!(((rd_T62 l0 x13_1).f1) == ((rd_T62 l1 x13_1).f1)))) = false:=by simpa using c8
         clear c8;have H':=A_ H;clear H;have Aa : 0 ≤ (x13_1 : Int):=of_decide_eq_true (by first|(with_reducible assumption)|assumption);have Ab : x13_1 < (l0.length : Int):=of_decide_eq_true (by first|(with_reducible assumption)|assumption);obtain ⟨Ak,Ae,Ag,Ah⟩:=at_T62 HR0.out x13_1 Aa Ab;cases Ae
         replace Aa:=eq_true Aa;replace Ab:=eq_true Ab;have Ac : 0 ≤ (x13_1 : Int):=of_decide_eq_true (by first|(with_reducible assumption)|assumption);have Ad : x13_1 < (l1.length : Int):=of_decide_eq_true (by first|(with_reducible assumption)|assumption);obtain ⟨Al,Af,Ai,Aj⟩:=at_T62 HR1.out x13_1 Ac Ad;cases Af
         replace Ac:=eq_true Ac;replace Ad:=eq_true Ad;go_wp2
         repeat (go_quiet (fail);try go_wp2)
         go_roundg k1
         case measure=>have:=HK1.out;omega
         case rel=>exact ⟨(wrap64 (x13_1 + 1)),(by first|rfl|(simp;done)|(simp [*];done)),H',⟨by have:=HK1.out;omega⟩,by repeat (first|exact Drawn0.refl _|apply Drawn0.step)⟩
       ·rw [if_neg c7] at H;exact absurd H (by simp)
      ·rw [if_neg c6] at H;exact absurd H (by simp)
     ·rw [if_neg c5] at H;exact absurd H (by simp)
    ·rw [if_neg c4] at H;have c4b0 : decide (x13_1 < (l0.length : Int)) = false:=decide_eq_false c4;clear c4;obtain rfl:=Option.some.inj H;go_wp2
     repeat (go_quiet (fail);try go_wp2)
     go_ret
     exact ⟨by first|rfl|(simp;done)|(simp [*];done),by repeat (first|exact Drawn0.refl _|apply Drawn0.step)⟩
 ·rw [if_neg c3] at H;have c3b0 : ((l0.length : Int) == (l1.length : Int)) = false:=beq_eq_false_iff_ne.mpr c3;have c3b1 : ((l0.length : Int) != (l1.length : Int)) = true:=bne_iff_ne.mpr c3;have c3b2 : (l0.length == l1.length) = false:=by first|simpa using c3|(simp at c3 ⊢;omega)
  obtain rfl:=Option.some.inj H;go_enter Tryd.func52,Tryd.ntmps52
  go_wp2
  repeat (go_quiet (fail);try go_wp2)
  go_ret
  exact ⟨by first|rfl|(simp;done)|(simp [*];done),by repeat (first|exact Drawn0.refl _|apply Drawn0.step)⟩
end Go.Proofs.YtimjblnglhmakaaDoor.P
namespace Go.Proofs.YtimjblnglhmakaaDoor.P
open Go.RowKit Go.Proofs.YtimjblnglhmakaaDoorW.PrintWords Go.Proofs.YtimjblnglhmakaaDoorW.PrintLast Go.Proofs.YtimjblnglhmakaaDoorW.PrintMore
open Bool renaming true → T, false → F
open List renaming setIfInBounds_toArray → L_, set_cons_zero → M_, set_cons_succ → N_, map_toArray → P_, map_cons → Q_, map_nil → R_, length_drop → S_, length_take → U_
open Aside0 renaming mk → A_
attribute [local go_sem] max2_int min2_int max_two min_two max_three min_three max_four min_four
set_option linter.unusedVariables false
set_option linter.unusedSimpArgs false
attribute [local go_sem] fldOrder_0 fldOrder_1
def Abb.f (k : Nat) (a0_0 : Int) (l0_1 : List Int) : Option (List Int × Bool) := (Aat.f k a0_0 l0_1).bind fun t1353 => (if t1353 = true then ((Aai.f k a0_0 l0_1).bind fun t1354 => (some (t1354, true))) else (some (([] : List Int), false)))
set_option maxHeartbeats 8000000 in
set_option maxRecDepth 100000 in
theorem Abb.calls (k : Nat) (a0_0 : Int) (A0_1 : Option Addr) (c0_1 : Nat) (l0_1 : List Int) (r1 : List Int) (r2 : Bool) (w : World) (hr0_1 : Kd.C (Kd.int .i64) w A0_1 l0_1.length l0_1) (hc0_1 : l0_1.length ≤ c0_1) (hT : TabOK w) (h : Abb.f k a0_0 l0_1 = some (r1,r2)) :
 Calls Tryd.prog 58 #[.agg #[.int .i64 a0_0,.slice A0_1 l0_1.length c0_1]] w fun e w'=>∃ v0_ : Value,e = .returned (.tuple #[v0_,.bool r2]) ∧ Kd.R (Kd.int .i64) 3 w' w.heap.size (fun _=>True) v0_ r1 ∧ Below w.heap.size w w':=by
 have hu28:=Tryd.underlying28;have HT:=A_ hT;clear hT;have HR0_1:=A_ hr0_1;have HC0_1:=A_ hc0_1;clear hr0_1 hc0_1;have HB:=A_ (Below.refl w.heap.size w);have H : ((Aat.f k a0_0 l0_1).bind fun Ad=>(if Ad = true then ((Aai.f k a0_0 l0_1).bind fun Ac=>(some (Ac,true))) else (some (([] : List Int),false)))) = some (r1,r2):=h;clear h;replace H:=Option.bind_eq_some_iff.mp H;obtain ⟨Ad,A20,H⟩:=H;replace H : (if Ad = true then ((Aai.f k a0_0 l0_1).bind fun Ac=>(some (Ac,true))) else (some (([] : List Int),false))) = some (r1,r2):=H;have A2:=A_ A20;clear A20;by_cases c3 : Ad = true
 ·subst c3;have H1 : ((Aai.f k a0_0 l0_1).bind fun Ac=>(some (Ac,true))) = some (r1,r2):=by rw [if_pos rfl] at H;exact H
  clear H;have H:=H1;clear H1;replace H:=Option.bind_eq_some_iff.mp H;obtain ⟨Ac,A40,H⟩:=H;replace H : (some (Ac,true)) = some (r1,r2):=H;have A4:=A_ A40;clear A40;simp only [Option.some.injEq,Prod.mk.injEq] at H
  obtain ⟨rfl,rfl⟩:=H;go_enter Tryd.func58,Tryd.ntmps58
  go_wp2_with (first|((with_reducible refine gate_dst (N:=1) rfl ?_);refine box_event ?hg (N:=1) ?hd (cs:=#[.int .i64 a0_0,.slice A0_1 l0_1.length c0_1]) (t:=28) ?hr ?_;(case hd=>rfl);(case hg=>rfl);(case hr=>go_simp;try rfl);intro Ab hg w5 hbox hb;have Aa:=A_ (hbox);have Ae:=A_ (gw_ (w:=w) hg bb_);have Af:=A_ (gw_ (w:=w) hg bb_);replace HB:=A_ (below_step bb_ hb);clear hb hbox hg;have hcz6_0 : w5.cell? ⟨Ab,0,none⟩ = some (.int .i64 a0_0):=blk_cell Aa.out 0;have hcz6_1 : w5.cell? ⟨Ab,1,none⟩ = some (.slice A0_1 l0_1.length c0_1):=blk_cell Aa.out 1;have hfz6_0:=blk_frozen Aa.out 0;have hfz6_1:=blk_frozen Aa.out 1)|((with_reducible refine gate_callee (f:=134) rfl ?_);refine goesL_ (some 5) rfl rfl Tryd.func134 (by kernel_rfl) rfl #[.agg #[.int .i64 a0_0,.slice A0_1 l0_1.length c0_1]] rfl au_ ?_;(with_reducible refine (Aat.calls k a0_0 _ _ l0_1 true _ ?side1 ?side2 ?side3 A2.out).mono ?_);(case side1=>exact cl_ (Kd.C_below HR0_1.out HB.out));(case side2=>exact HC0_1.out);(case side3=>first|exact HT.out|exact HT.out.below bb_|(repeat (first|exact HT.out|apply TabOK.drewN|apply TabOK.drew|apply TabOK.alloc)));rintro e w7 ⟨rfl,hb⟩;refine ⟨_,rfl,?_⟩;replace Aa:=bz Aa hb;replace HB:=A_ (below_step bb_ hb);(try clear hb);(try clear hb2);(try clear hk);(try clear hi);have hcz8_0 : w7.cell? ⟨Ab,0,none⟩ = some (.int .i64 a0_0):=blk_cell Aa.out 0;have hcz8_1 : w7.cell? ⟨Ab,1,none⟩ = some (.slice A0_1 l0_1.length c0_1):=blk_cell Aa.out 1;have hfz8_0:=blk_frozen Aa.out 0;have hfz8_1:=blk_frozen Aa.out 1)|((with_reducible refine gate_callee (f:=116) rfl ?_);refine goesL_ (some 8) rfl rfl Tryd.func116 (by kernel_rfl) rfl #[.agg #[.int .i64 a0_0,.slice A0_1 l0_1.length c0_1]] rfl au_ ?_;(with_reducible refine (Aai.calls k a0_0 _ _ l0_1 Ac _ ?side1 ?side2 A4.out).mono ?_);(case side1=>exact cl_ (Kd.C_below HR0_1.out HB.out));(case side2=>exact HC0_1.out);rintro e w9 ⟨Ah,rfl,ho0,hb⟩;refine ⟨_,rfl,?_⟩;have Ag:=A_ (Kd.R_lower ho0 (below_size bb_));replace Aa:=bz Aa hb;replace HB:=A_ (below_step bb_ hb);(try clear hb);(try clear hb2);(try clear hk);(try clear hi);(try clear ho0)))
  go_ret2
  exact ⟨_,by first|rfl|(simp [errW_none,errW_some] <;> rfl)|(simp [*,errW_none,errW_some] <;> rfl),rl_ Ag,bb_⟩
 ·replace c3:=Bool.eq_false_iff.mpr c3;subst c3;have H1 : (some (([] : List Int),false)) = some (r1,r2):=by rw [if_neg (show ¬ (false = true) by decide)] at H;exact H
  clear H;have H:=H1;clear H1;simp only [Option.some.injEq,Prod.mk.injEq] at H
  obtain ⟨rfl,rfl⟩:=H;go_enter Tryd.func58,Tryd.ntmps58
  go_wp2_with (first|((with_reducible refine gate_dst (N:=1) rfl ?_);refine box_event ?hg (N:=1) ?hd (cs:=#[.int .i64 a0_0,.slice A0_1 l0_1.length c0_1]) (t:=28) ?hr ?_;(case hd=>rfl);(case hg=>rfl);(case hr=>go_simp;try rfl);intro Ab hg w10 hbox hb;have Aa:=A_ (hbox);have Ae:=A_ (gw_ (w:=w) hg bb_);have Af:=A_ (gw_ (w:=w) hg bb_);replace HB:=A_ (below_step bb_ hb);clear hb hbox hg;have hcz11_0 : w10.cell? ⟨Ab,0,none⟩ = some (.int .i64 a0_0):=blk_cell Aa.out 0;have hcz11_1 : w10.cell? ⟨Ab,1,none⟩ = some (.slice A0_1 l0_1.length c0_1):=blk_cell Aa.out 1;have hfz11_0:=blk_frozen Aa.out 0;have hfz11_1:=blk_frozen Aa.out 1)|((with_reducible refine gate_callee (f:=134) rfl ?_);refine goesL_ (some 5) rfl rfl Tryd.func134 (by kernel_rfl) rfl #[.agg #[.int .i64 a0_0,.slice A0_1 l0_1.length c0_1]] rfl au_ ?_;(with_reducible refine (Aat.calls k a0_0 _ _ l0_1 false _ ?side1 ?side2 ?side3 A2.out).mono ?_);(case side1=>exact cl_ (Kd.C_below HR0_1.out HB.out));(case side2=>exact HC0_1.out);(case side3=>first|exact HT.out|exact HT.out.below bb_|(repeat (first|exact HT.out|apply TabOK.drewN|apply TabOK.drew|apply TabOK.alloc)));rintro e w12 ⟨rfl,hb⟩;refine ⟨_,rfl,?_⟩;replace Aa:=bz Aa hb;replace HB:=A_ (below_step bb_ hb);(try clear hb);(try clear hb2);(try clear hk);(try clear hi)))
  go_ret2
  exact ⟨_,by first|rfl|(simp [errW_none,errW_some] <;> rfl)|(simp [*,errW_none,errW_some] <;> rfl),by first|exact Kd.R_nil _ _ _ _ _|exact Kd.N_nil _ _ _ _ _|exact Kd.V_nil _ _ _ _ _|exact Kd.Q_nil _ _ _ _ _|exact Kd.S_nil _ _ _ _ _,bb_⟩
def Abk.f (k : Nat) (a0_0 : Int) (l0_1 : List Int) : Option (Int) := (Aai.f k a0_0 l0_1).bind fun t1358 => ((Abd.f t1358).bind fun t1361 => (some (t1361.length : Int)))
set_option maxHeartbeats 8000000 in
set_option maxRecDepth 100000 in
theorem Abk.calls (k : Nat) (a0_0 : Int) (A0_1 : Option Addr) (c0_1 : Nat) (l0_1 : List Int) (r : Int) (w : World) (hr0_1 : Kd.C (Kd.int .i64) w A0_1 l0_1.length l0_1) (hc0_1 : l0_1.length ≤ c0_1) (h : Abk.f k a0_0 l0_1 = some r) :
 Calls Tryd.prog 144 #[.agg #[.int .i64 a0_0,.slice A0_1 l0_1.length c0_1]] w fun e w'=>e = .returned (.int .i64 r) ∧ Below w.heap.size w w':=by
 have hu28:=Tryd.underlying28;have HR0_1:=A_ hr0_1;have HC0_1:=A_ hc0_1;clear hr0_1 hc0_1;have HB:=A_ (Below.refl w.heap.size w);have H : ((Aai.f k a0_0 l0_1).bind fun Ac=>((Abd.f Ac).bind fun Ad=>(some (Ad.length : Int)))) = some r:=h;clear h;replace H:=Option.bind_eq_some_iff.mp H;obtain ⟨Ac,A20,H⟩:=H;replace H : ((Abd.f Ac).bind fun Ad=>(some (Ad.length : Int))) = some r:=H;have A2:=A_ A20;clear A20;replace H:=Option.bind_eq_some_iff.mp H;obtain ⟨Ad,A30,H⟩:=H;replace H : (some (Ad.length : Int)) = some r:=H;have A3:=A_ A30;clear A30;obtain rfl:=Option.some.inj H;go_enter Tryd.func144,Tryd.ntmps144
 go_wp2_with (first|((with_reducible refine gate_dst (N:=1) rfl ?_);refine box_event ?hg (N:=1) ?hd (cs:=#[.int .i64 a0_0,.slice A0_1 l0_1.length c0_1]) (t:=28) ?hr ?_;(case hd=>rfl);(case hg=>rfl);(case hr=>go_simp;try rfl);intro Ae hg w4 hbox hb;have Aa:=A_ (hbox);have Ag:=A_ (gw_ (w:=w) hg bb_);have Ah:=A_ (gw_ (w:=w) hg bb_);replace HB:=A_ (below_step bb_ hb);clear hb hbox hg;have hcz5_0 : w4.cell? ⟨Ae,0,none⟩ = some (.int .i64 a0_0):=blk_cell Aa.out 0;have hcz5_1 : w4.cell? ⟨Ae,1,none⟩ = some (.slice A0_1 l0_1.length c0_1):=blk_cell Aa.out 1;have hfz5_0:=blk_frozen Aa.out 0;have hfz5_1:=blk_frozen Aa.out 1)|((with_reducible refine gate_callee (f:=116) rfl ?_);refine goesL_ (some 4) rfl rfl Tryd.func116 (by kernel_rfl) rfl #[.agg #[.int .i64 a0_0,.slice A0_1 l0_1.length c0_1]] rfl au_ ?_;(with_reducible refine (Aai.calls k a0_0 _ _ l0_1 Ac _ ?side1 ?side2 A2.out).mono ?_);(case side1=>exact cl_ (Kd.C_below HR0_1.out HB.out));(case side2=>exact HC0_1.out);rintro e w6 ⟨Ai,rfl,ho0,hb⟩;refine ⟨_,rfl,?_⟩;have Ab:=A_ (Kd.R_lower ho0 (below_size bb_));replace Aa:=bz Aa hb;replace HB:=A_ (below_step bb_ hb);(try clear hb);(try clear hb2);(try clear hk);(try clear hi);(try clear ho0);obtain ⟨Ao7,co7,eo7⟩:=Kd.R_slice Ab.out;subst eo7)|((with_reducible refine gate_callee (f:=196) rfl ?_);refine goesL_ (some 5) rfl rfl Tryd.func196 (by kernel_rfl) rfl #[.slice Ao7 Ac.length co7] rfl au_ ?_;(with_reducible refine (Abd.calls _ _ Ac Ad _ ?side1 ?side2 A3.out).mono ?_);(case side1=>exact cl_ (Kd.R_reads' Ab.out).2.2);(case side2=>exact (Kd.R_reads' Ab.out).2.1);rintro e w8 ⟨Aj,rfl,ho0,hb⟩;refine ⟨_,rfl,?_⟩;have Af:=A_ (Kd.R_lower (Kd.R_new' ho0 (Kd.R_lt (rl_ Ab))) (below_size bb_));replace Ab:=A_ (Kd.R_elder' (rl_ Ab) (Kd.R_base ho0) hb);replace Aa:=bz Aa hb;replace HB:=A_ (below_step bb_ hb);(try clear hb);(try clear hb2);(try clear hk);(try clear hi);(try clear ho0);obtain ⟨Ao9,co9,eo9⟩:=Kd.R_slice Af.out;subst eo9))
 go_ret
 exact ⟨by first|rfl|(simp [errW_none,errW_some] <;> rfl)|(simp [*,errW_none,errW_some] <;> rfl),bb_⟩
def Aa4.f (k : Nat) (a0_0 : Int) (l0_1 : List Int) : Option (Int × Bool) := (Aat.f k a0_0 l0_1).bind fun t1365 => (if t1365 = true then ((Abk.f k a0_0 l0_1).bind fun t1366 => (some (t1366, true))) else (some (0, false)))
set_option maxHeartbeats 8000000 in
set_option maxRecDepth 100000 in
theorem Aa4.calls (k : Nat) (a0_0 : Int) (A0_1 : Option Addr) (c0_1 : Nat) (l0_1 : List Int) (r1 : Int) (r2 : Bool) (w : World) (hr0_1 : Kd.C (Kd.int .i64) w A0_1 l0_1.length l0_1) (hc0_1 : l0_1.length ≤ c0_1) (hT : TabOK w) (h : Aa4.f k a0_0 l0_1 = some (r1,r2)) :
 Calls Tryd.prog 59 #[.agg #[.int .i64 a0_0,.slice A0_1 l0_1.length c0_1]] w fun e w'=>e = .returned (.tuple #[.int .i64 r1,.bool r2]) ∧ Below w.heap.size w w':=by
 have hu28:=Tryd.underlying28;have HT:=A_ hT;clear hT;have HR0_1:=A_ hr0_1;have HC0_1:=A_ hc0_1;clear hr0_1 hc0_1;have HB:=A_ (Below.refl w.heap.size w);have H : ((Aat.f k a0_0 l0_1).bind fun Ad=>(if Ad = true then ((Abk.f k a0_0 l0_1).bind fun Ac=>(some (Ac,true))) else (some (0,false)))) = some (r1,r2):=h;clear h;replace H:=Option.bind_eq_some_iff.mp H;obtain ⟨Ad,A20,H⟩:=H;replace H : (if Ad = true then ((Abk.f k a0_0 l0_1).bind fun Ac=>(some (Ac,true))) else (some (0,false))) = some (r1,r2):=H;have A2:=A_ A20;clear A20;by_cases c3 : Ad = true
 ·subst c3;have H1 : ((Abk.f k a0_0 l0_1).bind fun Ac=>(some (Ac,true))) = some (r1,r2):=by rw [if_pos rfl] at H;exact H
  clear H;have H:=H1;clear H1;replace H:=Option.bind_eq_some_iff.mp H;obtain ⟨Ac,A40,H⟩:=H;replace H : (some (Ac,true)) = some (r1,r2):=H;have A4:=A_ A40;clear A40;simp only [Option.some.injEq,Prod.mk.injEq] at H
  obtain ⟨rfl,rfl⟩:=H;go_enter Tryd.func59,Tryd.ntmps59
  go_wp2_with (first|((with_reducible refine gate_dst (N:=1) rfl ?_);refine box_event ?hg (N:=1) ?hd (cs:=#[.int .i64 a0_0,.slice A0_1 l0_1.length c0_1]) (t:=28) ?hr ?_;(case hd=>rfl);(case hg=>rfl);(case hr=>go_simp;try rfl);intro Ab hg w5 hbox hb;have Aa:=A_ (hbox);have Ae:=A_ (gw_ (w:=w) hg bb_);have Af:=A_ (gw_ (w:=w) hg bb_);replace HB:=A_ (below_step bb_ hb);clear hb hbox hg;have hcz6_0 : w5.cell? ⟨Ab,0,none⟩ = some (.int .i64 a0_0):=blk_cell Aa.out 0;have hcz6_1 : w5.cell? ⟨Ab,1,none⟩ = some (.slice A0_1 l0_1.length c0_1):=blk_cell Aa.out 1;have hfz6_0:=blk_frozen Aa.out 0;have hfz6_1:=blk_frozen Aa.out 1)|((with_reducible refine gate_callee (f:=134) rfl ?_);refine goesL_ (some 5) rfl rfl Tryd.func134 (by kernel_rfl) rfl #[.agg #[.int .i64 a0_0,.slice A0_1 l0_1.length c0_1]] rfl au_ ?_;(with_reducible refine (Aat.calls k a0_0 _ _ l0_1 true _ ?side1 ?side2 ?side3 A2.out).mono ?_);(case side1=>exact cl_ (Kd.C_below HR0_1.out HB.out));(case side2=>exact HC0_1.out);(case side3=>first|exact HT.out|exact HT.out.below bb_|(repeat (first|exact HT.out|apply TabOK.drewN|apply TabOK.drew|apply TabOK.alloc)));rintro e w7 ⟨rfl,hb⟩;refine ⟨_,rfl,?_⟩;replace Aa:=bz Aa hb;replace HB:=A_ (below_step bb_ hb);(try clear hb);(try clear hb2);(try clear hk);(try clear hi);have hcz8_0 : w7.cell? ⟨Ab,0,none⟩ = some (.int .i64 a0_0):=blk_cell Aa.out 0;have hcz8_1 : w7.cell? ⟨Ab,1,none⟩ = some (.slice A0_1 l0_1.length c0_1):=blk_cell Aa.out 1;have hfz8_0:=blk_frozen Aa.out 0;have hfz8_1:=blk_frozen Aa.out 1)|((with_reducible refine gate_callee (f:=144) rfl ?_);refine goesL_ (some 8) rfl rfl Tryd.func144 (by kernel_rfl) rfl #[.agg #[.int .i64 a0_0,.slice A0_1 l0_1.length c0_1]] rfl au_ ?_;(with_reducible refine (Abk.calls k a0_0 _ _ l0_1 Ac _ ?side1 ?side2 A4.out).mono ?_);(case side1=>exact cl_ (Kd.C_below HR0_1.out HB.out));(case side2=>exact HC0_1.out);rintro e w9 ⟨rfl,hb⟩;refine ⟨_,rfl,?_⟩;replace Aa:=bz Aa hb;replace HB:=A_ (below_step bb_ hb);(try clear hb);(try clear hb2);(try clear hk);(try clear hi)))
  go_ret2
  exact ⟨by first|rfl|(simp [errW_none,errW_some] <;> rfl)|(simp [*,errW_none,errW_some] <;> rfl),bb_⟩
 ·replace c3:=Bool.eq_false_iff.mpr c3;subst c3;have H1 : (some (0,false)) = some (r1,r2):=by rw [if_neg (show ¬ (false = true) by decide)] at H;exact H
  clear H;have H:=H1;clear H1;simp only [Option.some.injEq,Prod.mk.injEq] at H
  obtain ⟨rfl,rfl⟩:=H;go_enter Tryd.func59,Tryd.ntmps59
  go_wp2_with (first|((with_reducible refine gate_dst (N:=1) rfl ?_);refine box_event ?hg (N:=1) ?hd (cs:=#[.int .i64 a0_0,.slice A0_1 l0_1.length c0_1]) (t:=28) ?hr ?_;(case hd=>rfl);(case hg=>rfl);(case hr=>go_simp;try rfl);intro Ab hg w10 hbox hb;have Aa:=A_ (hbox);have Ae:=A_ (gw_ (w:=w) hg bb_);have Af:=A_ (gw_ (w:=w) hg bb_);replace HB:=A_ (below_step bb_ hb);clear hb hbox hg;have hcz11_0 : w10.cell? ⟨Ab,0,none⟩ = some (.int .i64 a0_0):=blk_cell Aa.out 0;have hcz11_1 : w10.cell? ⟨Ab,1,none⟩ = some (.slice A0_1 l0_1.length c0_1):=blk_cell Aa.out 1;have hfz11_0:=blk_frozen Aa.out 0;have hfz11_1:=blk_frozen Aa.out 1)|((with_reducible refine gate_callee (f:=134) rfl ?_);refine goesL_ (some 5) rfl rfl Tryd.func134 (by kernel_rfl) rfl #[.agg #[.int .i64 a0_0,.slice A0_1 l0_1.length c0_1]] rfl au_ ?_;(with_reducible refine (Aat.calls k a0_0 _ _ l0_1 false _ ?side1 ?side2 ?side3 A2.out).mono ?_);(case side1=>exact cl_ (Kd.C_below HR0_1.out HB.out));(case side2=>exact HC0_1.out);(case side3=>first|exact HT.out|exact HT.out.below bb_|(repeat (first|exact HT.out|apply TabOK.drewN|apply TabOK.drew|apply TabOK.alloc)));rintro e w12 ⟨rfl,hb⟩;refine ⟨_,rfl,?_⟩;replace Aa:=bz Aa hb;replace HB:=A_ (below_step bb_ hb);(try clear hb);(try clear hb2);(try clear hk);(try clear hi)))
  go_ret2
  exact ⟨by first|rfl|(simp [errW_none,errW_some] <;> rfl)|(simp [*,errW_none,errW_some] <;> rfl),bb_⟩
def Aaa (w0 W : World) (g : Nat) (f0 : List Int) (f1 : Int) (f2 : Int) : Prop := ∃ A0 c0, W.heap[g]? = some (.cells #[.slice A0 f0.length c0, .int .i64 f1, .int .u64 f2] 103 (0, 0)) ∧ w0.heap.size ≤ g ∧ Kd.C (Kd.int .u8) w0 A0 f0.length f0
theorem Aaa.grown {w0 W : World} {g : Nat} {f0 : List Int} {f1 : Int} {f2 : Int} {W1 : World} {row : Option Nat} (h : Aaa w0 W g f0 f1 f2) (hw : W.grownBy W1 row) (hne : some g ≠ row) : Aaa w0 W1 g f0 f1 f2:=by
 obtain ⟨A0,c0,hb,hg,hr0⟩:=h;exact ⟨A0,c0,blk_grown hb hw hne,hg,hr0⟩
theorem Aaa.below {w0 W : World} {g : Nat} {f0 : List Int} {f1 : Int} {f2 : Int} {W1 : World} (h : Aaa w0 W g f0 f1 f2) (hw : Below W.heap.size W W1) : Aaa w0 W1 g f0 f1 f2:=h.grown (grown_of_below hw none) (by simp)
theorem Aaa.drewN {w0 W : World} {g : Nat} {f0 : List Int} {f1 : Int} {f2 : Int} (h : Aaa w0 W g f0 f1 f2) (m : Nat) : Aaa w0 (W.drewN m) g f0 f1 f2:=h
theorem Aaa.drew {w0 W : World} {g : Nat} {f0 : List Int} {f1 : Int} {f2 : Int} (h : Aaa w0 W g f0 f1 f2) : Aaa w0 W.drew g f0 f1 f2:=h
theorem Aaa.apart {w0 W : World} {g : Nat} {f0 : List Int} {f1 : Int} {f2 : Int} {α : Type} {d : Kd α} {e : Nat} {base : Nat} {ok : Nat → Prop} {v : Value} {xs : List α} (h : Aaa w0 W g f0 f1 f2) (ho : d.R e W base ok v xs) (ht : ∀ q,q ∈ e :: d.E → q ≠ 103) : d.R e W base (fun k=>ok k ∧ k ≠ g) v xs:=by
 obtain ⟨A0,c0,hb,hg,hr0⟩:=h;exact Kd.R_types ho hb ht
theorem Aaa.own_ne {w0 W : World} {g : Nat} {f0 : List Int} {f1 : Int} {f2 : Int} {α : Type} {d : Kd α} {e : Nat} {base : Nat} {ok : Nat → Prop} {v : Value} {xs : List α} (h : Aaa w0 W g f0 f1 f2) (ho : d.R e W base ok v xs) (ht : e ≠ 103) : some g ≠ v.ownBlock:=by
 obtain ⟨A0,c0,hb,hg,hr0⟩:=h;exact Kd.R_ne ho hb ht
theorem Aaa.lt {w0 W : World} {g : Nat} {f0 : List Int} {f1 : Int} {f2 : Int} (h : Aaa w0 W g f0 f1 f2) : g < W.heap.size:=by
 obtain ⟨A0,c0,hb,hg,hr0⟩:=h;exact blk_lt hb
theorem Aaa.ge {w0 W : World} {g : Nat} {f0 : List Int} {f1 : Int} {f2 : Int} (h : Aaa w0 W g f0 f1 f2) : w0.heap.size ≤ g:=by
 obtain ⟨A0,c0,hb,hg,hr0⟩:=h;exact hg
theorem Aaa.far {w0 W : World} {g : Nat} {f0 : List Int} {f1 : Int} {f2 : Int} {p : Addr} (h : Aaa w0 W g f0 f1 f2) (hne : g ≠ p.block) (u : Value) : Aaa w0 (W.setCell p u) g f0 f1 f2:=by
 obtain ⟨A0,c0,hb,hg,hr0⟩:=h;exact ⟨A0,c0,blk_far hb hne u,hg,hr0⟩
theorem cellS103_0 {W : World} {g : Nat} {A0 : Option Addr} {c0 : Nat} {f0 : List Int} {f1 : Int} {f2 : Int} (h : W.heap[g]? = some (.cells #[.slice A0 f0.length c0,.int .i64 f1,.int .u64 f2] 103 (0,0))) : W.cell? ⟨g,0,none⟩ = some (.slice A0 f0.length c0):=(blk_cell h 0).trans rfl
theorem cellS103_1 {W : World} {g : Nat} {A0 : Option Addr} {c0 : Nat} {f0 : List Int} {f1 : Int} {f2 : Int} (h : W.heap[g]? = some (.cells #[.slice A0 f0.length c0,.int .i64 f1,.int .u64 f2] 103 (0,0))) : W.cell? ⟨g,1,none⟩ = some (.int .i64 f1):=(blk_cell h 1).trans rfl
theorem Aaa.set_1 {w0 W : World} {g : Nat} {f0 : List Int} {f1 : Int} {f2 : Int} (h : Aaa w0 W g f0 f1 f2) (x : Int) : Aaa w0 (W.setCell ⟨g,1,none⟩ (.int .i64 x)) g f0 x f2:=by
 obtain ⟨A0,c0,hb,hg,hr0⟩:=h;exact ⟨A0,c0,by simpa using blk_set hb 1 (.int .i64 x),hg,hr0⟩
theorem cellS103_2 {W : World} {g : Nat} {A0 : Option Addr} {c0 : Nat} {f0 : List Int} {f1 : Int} {f2 : Int} (h : W.heap[g]? = some (.cells #[.slice A0 f0.length c0,.int .i64 f1,.int .u64 f2] 103 (0,0))) : W.cell? ⟨g,2,none⟩ = some (.int .u64 f2):=(blk_cell h 2).trans rfl
theorem Aaa.set_2 {w0 W : World} {g : Nat} {f0 : List Int} {f1 : Int} {f2 : Int} (h : Aaa w0 W g f0 f1 f2) (x : Int) : Aaa w0 (W.setCell ⟨g,2,none⟩ (.int .u64 x)) g f0 f1 x:=by
 obtain ⟨A0,c0,hb,hg,hr0⟩:=h;exact ⟨A0,c0,by simpa using blk_set hb 2 (.int .u64 x),hg,hr0⟩
theorem is_ {p : Prop} (h : p := by repeat (with_reducible first | exact Aside0.out (by assumption) | apply Aaa.alloc | apply Aaa.drewN | apply Aaa.drew | apply Aaa.set_1 | apply Aaa.set_2 | refine Aaa.far ?_ (Aside0.out (by assumption)) _)) : p := h
def Abj.f (s0_0 : List Int) (s0_1 : Int) (s0_2 : Int) : Option (Int × Int × Int) := if s0_1 < (s0_0.length : Int) then (if 0 ≤ s0_1 then (if (wrap64 (s0_1 + 1)) ≤ (s0_0.length : Int) then (some (wrap64 (rd s0_0 s0_1), wrap64 (s0_1 + 1), IntKind.u64.wrap ((IntKind.u64.wrap ((IntKind.u64.wrap (s0_2 * 6364136223846793005)) + (IntKind.u64.wrap (wrap64 (rd s0_0 s0_1))))) + 1442695040888963407))) else (some (wrap64 (Go.bits .and .u64 ((IntKind.u64.wrap ((IntKind.u64.wrap ((IntKind.u64.wrap (s0_2 * 6364136223846793005)) + (IntKind.u64.wrap (wrap64 (rd s0_0 s0_1))))) + 1442695040888963407)) / 1099511627776) 255), wrap64 (s0_1 + 1), IntKind.u64.wrap ((IntKind.u64.wrap ((IntKind.u64.wrap (s0_2 * 6364136223846793005)) + (IntKind.u64.wrap (wrap64 (rd s0_0 s0_1))))) + 1442695040888963407)))) else (none)) else (if (wrap64 (s0_1 + 1)) ≤ (s0_0.length : Int) then (some (0, wrap64 (s0_1 + 1), IntKind.u64.wrap ((IntKind.u64.wrap ((IntKind.u64.wrap (s0_2 * 6364136223846793005)))) + 1442695040888963407))) else (some (wrap64 (Go.bits .and .u64 ((IntKind.u64.wrap ((IntKind.u64.wrap ((IntKind.u64.wrap (s0_2 * 6364136223846793005)))) + 1442695040888963407)) / 1099511627776) 255), wrap64 (s0_1 + 1), IntKind.u64.wrap ((IntKind.u64.wrap ((IntKind.u64.wrap (s0_2 * 6364136223846793005)))) + 1442695040888963407))))
set_option maxHeartbeats 8000000 in
set_option maxRecDepth 100000 in
theorem Abj.calls (g : Nat) (s0_0 : List Int) (s0_1 : Int) (s0_2 : Int) (r1 : Int) (r2 : Int) (r3 : Int) (w0 w : World) (hI : Aaa w0 w g s0_0 s0_1 s0_2) (hB : Below w0.heap.size w0 w) (h : Abj.f s0_0 s0_1 s0_2 = some (r1,r2,r3)) :
 Calls Tryd.prog 212 #[.pointer (some ⟨g,0,none⟩)] w fun e w'=>e = .returned (.int .i64 r1) ∧ Aaa w0 w' g s0_0 r2 r3 ∧ Below w0.heap.size w0 w' ∧ KeepBut w w' g none:=by
 have HI0:=A_ hI;have HK:=A_ (KeepBut.refl w g none);have HL:=A_ hB.size;clear hI;have HW0:=A_ hB.size;have HB:=A_ hB;clear hB;have H : (if s0_1 < (s0_0.length : Int) then (if 0 ≤ s0_1 then (if (wrap64 (s0_1 + 1)) ≤ (s0_0.length : Int) then (some (wrap64 (rd s0_0 s0_1),wrap64 (s0_1 + 1),IntKind.u64.wrap ((IntKind.u64.wrap ((IntKind.u64.wrap (s0_2 * 6364136223846793005)) + (IntKind.u64.wrap (wrap64 (rd s0_0 s0_1))))) + 1442695040888963407))) else (some (wrap64 (Go.bits .and .u64 ((IntKind.u64.wrap ((IntKind.u64.wrap ((IntKind.u64.wrap (s0_2 * 6364136223846793005)) + (IntKind.u64.wrap (wrap64 (rd s0_0 s0_1))))) + 1442695040888963407)) / 1099511627776) 255),wrap64 (s0_1 + 1),IntKind.u64.wrap ((IntKind.u64.wrap ((IntKind.u64.wrap (s0_2 * 6364136223846793005)) + (IntKind.u64.wrap (wrap64 (rd s0_0 s0_1))))) + 1442695040888963407)))) else (none)) else (if (wrap64 (s0_1 + 1)) ≤ (s0_0.length : Int) then (some (0,wrap64 (s0_1 + 1),IntKind.u64.wrap ((IntKind.u64.wrap ((IntKind.u64.wrap (s0_2 * 6364136223846793005)))) + 1442695040888963407))) else (some (wrap64 (Go.bits .and .u64 ((IntKind.u64.wrap ((IntKind.u64.wrap ((IntKind.u64.wrap (s0_2 * 6364136223846793005)))) + 1442695040888963407)) / 1099511627776) 255),wrap64 (s0_1 + 1),IntKind.u64.wrap ((IntKind.u64.wrap ((IntKind.u64.wrap (s0_2 * 6364136223846793005)))) + 1442695040888963407))))) = some (r1,r2,r3):=h;clear h;by_cases c2 : s0_1 < (s0_0.length : Int)
 ·rw [if_pos c2] at H;have c2b0 : decide (s0_1 < (s0_0.length : Int)) = true:=decide_eq_true c2;clear c2;by_cases c3 : 0 ≤ s0_1
  ·rw [if_pos c3] at H;have c3b0 : decide (0 ≤ s0_1) = true:=decide_eq_true c3;clear c3;by_cases c4 : (wrap64 (s0_1 + 1)) ≤ (s0_0.length : Int)
   ·rw [if_pos c4] at H;have c4b0 : decide ((wrap64 (s0_1 + 1)) ≤ (s0_0.length : Int)) = true:=decide_eq_true c4;clear c4;simp only [Option.some.injEq,Prod.mk.injEq] at H
    obtain ⟨rfl,rfl,rfl⟩:=H;obtain ⟨ASz5_0,cSz5_0,HGz5,hgz5,HSz5_0⟩:=HI0.out;have hcz5_0:=cellS103_0 HGz5;have hcz5_1:=cellS103_1 HGz5;have hcz5_2:=cellS103_2 HGz5;have hfz5_1:=blk_frozen HGz5 1;have hfz5_2:=blk_frozen HGz5 2;clear HGz5 hgz5;have Ab : 0 ≤ (s0_1 : Int):=of_decide_eq_true (by first|(with_reducible assumption)|assumption);have Ac : s0_1 < (s0_0.length : Int):=of_decide_eq_true (by first|(with_reducible assumption)|assumption);obtain ⟨Ae,Ad,Aa⟩:=Kd.at_int HSz5_0 s0_1 Ab Ac;cases Ad
    replace Aa:=pw_cell_below HB.out Aa;replace Ab:=eq_true Ab;replace Ac:=eq_true Ac;go_enter Tryd.func212,Tryd.ntmps212
    go_wp2
    repeat (go_quiet (fail);try go_wp2)
    go_ret
    exact ⟨by first|rfl|(simp [errW_none,errW_some] <;> rfl)|(simp [*,errW_none,errW_some] <;> rfl),is_,by repeat (first|(with_reducible first|exact HB.out|apply below_alloc|apply pw_below_drewN|apply below_drew1|refine below_set ?_ (Aaa.ge HI0.out))|exact HB.out),by repeat (first|(with_reducible first|exact HK.out|apply KeepBut.set_|apply keep_drewN|apply keep_drew|apply keep_alloc)|exact HK.out)⟩
   ·rw [if_neg c4] at H;have c4b0 : decide ((wrap64 (s0_1 + 1)) ≤ (s0_0.length : Int)) = false:=decide_eq_false c4;clear c4;simp only [Option.some.injEq,Prod.mk.injEq] at H
    obtain ⟨rfl,rfl,rfl⟩:=H;obtain ⟨ASz6_0,cSz6_0,HGz6,hgz6,HSz6_0⟩:=HI0.out;have hcz6_0:=cellS103_0 HGz6;have hcz6_1:=cellS103_1 HGz6;have hcz6_2:=cellS103_2 HGz6;have hfz6_1:=blk_frozen HGz6 1;have hfz6_2:=blk_frozen HGz6 2;clear HGz6 hgz6;have Ab : 0 ≤ (s0_1 : Int):=of_decide_eq_true (by first|(with_reducible assumption)|assumption);have Ac : s0_1 < (s0_0.length : Int):=of_decide_eq_true (by first|(with_reducible assumption)|assumption);obtain ⟨Ae,Ad,Aa⟩:=Kd.at_int HSz6_0 s0_1 Ab Ac;cases Ad
    replace Aa:=pw_cell_below HB.out Aa;replace Ab:=eq_true Ab;replace Ac:=eq_true Ac;go_enter Tryd.func212,Tryd.ntmps212
    go_wp2
    repeat (go_quiet (fail);try go_wp2)
    go_ret
    exact ⟨by first|rfl|(simp [errW_none,errW_some] <;> rfl)|(simp [*,errW_none,errW_some] <;> rfl),is_,by repeat (first|(with_reducible first|exact HB.out|apply below_alloc|apply pw_below_drewN|apply below_drew1|refine below_set ?_ (Aaa.ge HI0.out))|exact HB.out),by repeat (first|(with_reducible first|exact HK.out|apply KeepBut.set_|apply keep_drewN|apply keep_drew|apply keep_alloc)|exact HK.out)⟩
  ·rw [if_neg c3] at H;exact absurd H (by simp)
 ·rw [if_neg c2] at H;have c2b0 : decide (s0_1 < (s0_0.length : Int)) = false:=decide_eq_false c2;clear c2;by_cases c7 : (wrap64 (s0_1 + 1)) ≤ (s0_0.length : Int)
  ·rw [if_pos c7] at H;have c7b0 : decide ((wrap64 (s0_1 + 1)) ≤ (s0_0.length : Int)) = true:=decide_eq_true c7;clear c7;simp only [Option.some.injEq,Prod.mk.injEq] at H
   obtain ⟨rfl,rfl,rfl⟩:=H;obtain ⟨ASz8_0,cSz8_0,HGz8,hgz8,HSz8_0⟩:=HI0.out;have hcz8_0:=cellS103_0 HGz8;have hcz8_1:=cellS103_1 HGz8;have hcz8_2:=cellS103_2 HGz8;have hfz8_1:=blk_frozen HGz8 1;have hfz8_2:=blk_frozen HGz8 2;clear HGz8 hgz8;go_enter Tryd.func212,Tryd.ntmps212
   go_wp2
   repeat (go_quiet (fail);try go_wp2)
   go_ret
   exact ⟨by first|rfl|(simp [errW_none,errW_some] <;> rfl)|(simp [*,errW_none,errW_some] <;> rfl),is_,by repeat (first|(with_reducible first|exact HB.out|apply below_alloc|apply pw_below_drewN|apply below_drew1|refine below_set ?_ (Aaa.ge HI0.out))|exact HB.out),by repeat (first|(with_reducible first|exact HK.out|apply KeepBut.set_|apply keep_drewN|apply keep_drew|apply keep_alloc)|exact HK.out)⟩
  ·rw [if_neg c7] at H;have c7b0 : decide ((wrap64 (s0_1 + 1)) ≤ (s0_0.length : Int)) = false:=decide_eq_false c7;clear c7;simp only [Option.some.injEq,Prod.mk.injEq] at H
   obtain ⟨rfl,rfl,rfl⟩:=H;obtain ⟨ASz9_0,cSz9_0,HGz9,hgz9,HSz9_0⟩:=HI0.out;have hcz9_0:=cellS103_0 HGz9;have hcz9_1:=cellS103_1 HGz9;have hcz9_2:=cellS103_2 HGz9;have hfz9_1:=blk_frozen HGz9 1;have hfz9_2:=blk_frozen HGz9 2;clear HGz9 hgz9;go_enter Tryd.func212,Tryd.ntmps212
   go_wp2
   repeat (go_quiet (fail);try go_wp2)
   go_ret
   exact ⟨by first|rfl|(simp [errW_none,errW_some] <;> rfl)|(simp [*,errW_none,errW_some] <;> rfl),is_,by repeat (first|(with_reducible first|exact HB.out|apply below_alloc|apply pw_below_drewN|apply below_drew1|refine below_set ?_ (Aaa.ge HI0.out))|exact HB.out),by repeat (first|(with_reducible first|exact HK.out|apply KeepBut.set_|apply keep_drewN|apply keep_drew|apply keep_alloc)|exact HK.out)⟩
def Aaf.f (s0_0 : List Int) (s0_1 : Int) (s0_2 : Int) (a1 : Int) : Option (Int × Int × Int) := if a1 ≤ 1 then (some (0, s0_1, s0_2)) else ((Abj.f s0_0 s0_1 s0_2).bind fun bt717 => (if a1 > 200 then ((Abj.f s0_0 bt717.2.1 bt717.2.2).bind fun bt720 => (if a1 = 0 then (none) else (some (Int.tmod (wrap64 ((wrap64 (bt717.1 * 256)) + bt720.1)) a1, bt720.2.1, bt720.2.2)))) else (if a1 = 0 then (none) else (some (Int.tmod bt717.1 a1, bt717.2.1, bt717.2.2)))))
set_option maxHeartbeats 8000000 in
set_option maxRecDepth 100000 in
theorem Aaf.calls (g : Nat) (s0_0 : List Int) (s0_1 : Int) (s0_2 : Int) (a1 : Int) (r1 : Int) (r2 : Int) (r3 : Int) (w0 w : World) (hI : Aaa w0 w g s0_0 s0_1 s0_2) (hB : Below w0.heap.size w0 w) (h : Aaf.f s0_0 s0_1 s0_2 a1 = some (r1,r2,r3)) :
 Calls Tryd.prog 150 #[.pointer (some ⟨g,0,none⟩),.int .i64 a1] w fun e w'=>e = .returned (.int .i64 r1) ∧ Aaa w0 w' g s0_0 r2 r3 ∧ Below w0.heap.size w0 w' ∧ KeepBut w w' g none:=by
 have HI0:=A_ hI;have HK:=A_ (KeepBut.refl w g none);have HL:=A_ hB.size;clear hI;have HW0:=A_ hB.size;have HB:=A_ hB;clear hB;have H : (if a1 ≤ 1 then (some (0,s0_1,s0_2)) else ((Abj.f s0_0 s0_1 s0_2).bind fun Ab=>(if a1 > 200 then ((Abj.f s0_0 Ab.2.1 Ab.2.2).bind fun Aa=>(if a1 = 0 then (none) else (some (Int.tmod (wrap64 ((wrap64 (Ab.1 * 256)) + Aa.1)) a1,Aa.2.1,Aa.2.2)))) else (if a1 = 0 then (none) else (some (Int.tmod Ab.1 a1,Ab.2.1,Ab.2.2)))))) = some (r1,r2,r3):=h;clear h;by_cases c3 : a1 ≤ 1
 ·rw [if_pos c3] at H;have c3b0 : decide (a1 ≤ 1) = true:=decide_eq_true c3;clear c3;simp only [Option.some.injEq,Prod.mk.injEq] at H
  obtain ⟨rfl,rfl,rfl⟩:=H;go_enter Tryd.func150,Tryd.ntmps150
  go_wp2
  go_ret
  exact ⟨by first|rfl|(simp [errW_none,errW_some] <;> rfl)|(simp [*,errW_none,errW_some] <;> rfl),is_,by repeat (first|(with_reducible first|exact HB.out|apply below_alloc|apply pw_below_drewN|apply below_drew1|refine below_set ?_ (Aaa.ge HI0.out))|exact HB.out),by repeat (first|(with_reducible first|exact HK.out|apply KeepBut.set_|apply keep_drewN|apply keep_drew|apply keep_alloc)|exact HK.out)⟩
 ·rw [if_neg c3] at H;have c3b0 : decide (a1 ≤ 1) = false:=decide_eq_false c3;clear c3;replace H:=Option.bind_eq_some_iff.mp H;obtain ⟨⟨Ac,Ad,Ae⟩,A40,H⟩:=H;replace H : (if a1 > 200 then ((Abj.f s0_0 Ad Ae).bind fun Aa=>(if a1 = 0 then (none) else (some (Int.tmod (wrap64 ((wrap64 (Ac * 256)) + Aa.1)) a1,Aa.2.1,Aa.2.2)))) else (if a1 = 0 then (none) else (some (Int.tmod Ac a1,Ad,Ae)))) = some (r1,r2,r3):=H;have A4:=A_ A40;clear A40;by_cases c5 : a1 > 200
  ·rw [if_pos c5] at H;have c5b0 : decide (200 < a1) = true:=decide_eq_true c5;clear c5;replace H:=Option.bind_eq_some_iff.mp H;obtain ⟨⟨Af,Ag,Ah⟩,A60,H⟩:=H;replace H : (if a1 = 0 then (none) else (some (Int.tmod (wrap64 ((wrap64 (Ac * 256)) + Af)) a1,Ag,Ah))) = some (r1,r2,r3):=H;have A6:=A_ A60;clear A60;by_cases c7 : a1 = 0
   ·rw [if_pos c7] at H;exact absurd H (by simp)
   ·rw [if_neg c7] at H;have c7b0 : (a1 == 0) = false:=beq_eq_false_iff_ne.mpr c7;have c7b1 : (a1 != 0) = true:=bne_iff_ne.mpr c7;simp only [Option.some.injEq,Prod.mk.injEq] at H
    obtain ⟨rfl,rfl,rfl⟩:=H;go_enter Tryd.func150,Tryd.ntmps150
    go_wp2_with (first|((with_reducible refine gate_callee (f:=212) rfl ?_);refine goesL_ (some 9) rfl rfl Tryd.func212 (by kernel_rfl) rfl #[.pointer (some ⟨g,0,none⟩)] rfl au_ ?_;(with_reducible refine (Abj.calls g s0_0 s0_1 s0_2 Ac Ad Ae w0 _ ?side1 ?side2 A4.out).mono ?_);(case side1=>exact is_);(case side2=>repeat (first|(with_reducible first|exact HB.out|apply below_alloc|apply pw_below_drewN|apply below_drew1|refine below_set ?_ (Aaa.ge HI0.out))|exact HB.out));rintro e w8 ⟨rfl,hi,hb,hk⟩;refine ⟨_,rfl,?_⟩;replace HK:=A_ (KeepBut.trans (by repeat (with_reducible first|exact HK.out|apply KeepBut.set_|apply keep_drewN|apply keep_drew|apply keep_alloc)) hk (.inl rfl));replace HB:=A_ (hb);replace HI0:=A_ (hi);(try clear hb);(try clear hb2);(try clear hk);(try clear hi))|((with_reducible refine gate_callee (f:=212) rfl ?_);refine goesL_ (some 15) rfl rfl Tryd.func212 (by kernel_rfl) rfl #[.pointer (some ⟨g,0,none⟩)] rfl au_ ?_;(with_reducible refine (Abj.calls g s0_0 Ad Ae Af Ag Ah w0 _ ?side1 ?side2 A6.out).mono ?_);(case side1=>exact is_);(case side2=>repeat (first|(with_reducible first|exact HB.out|apply below_alloc|apply pw_below_drewN|apply below_drew1|refine below_set ?_ (Aaa.ge HI0.out))|exact HB.out));rintro e w9 ⟨rfl,hi,hb,hk⟩;refine ⟨_,rfl,?_⟩;replace HK:=A_ (KeepBut.trans (by repeat (with_reducible first|exact HK.out|apply KeepBut.set_|apply keep_drewN|apply keep_drew|apply keep_alloc)) hk (.inl rfl));replace HB:=A_ (hb);replace HI0:=A_ (hi);(try clear hb);(try clear hb2);(try clear hk);(try clear hi)))
    go_ret
    exact ⟨by first|rfl|(simp [errW_none,errW_some] <;> rfl)|(simp [*,errW_none,errW_some] <;> rfl),is_,by repeat (first|(with_reducible first|exact HB.out|apply below_alloc|apply pw_below_drewN|apply below_drew1|refine below_set ?_ (Aaa.ge HI0.out))|exact HB.out),by repeat (first|(with_reducible first|exact HK.out|apply KeepBut.set_|apply keep_drewN|apply keep_drew|apply keep_alloc)|exact HK.out)⟩
  ·rw [if_neg c5] at H;have c5b0 : decide (200 < a1) = false:=decide_eq_false c5;clear c5;by_cases c10 : a1 = 0
   ·rw [if_pos c10] at H;exact absurd H (by simp)
   ·rw [if_neg c10] at H;have c10b0 : (a1 == 0) = false:=beq_eq_false_iff_ne.mpr c10;have c10b1 : (a1 != 0) = true:=bne_iff_ne.mpr c10;simp only [Option.some.injEq,Prod.mk.injEq] at H
    obtain ⟨rfl,rfl,rfl⟩:=H;go_enter Tryd.func150,Tryd.ntmps150
    go_wp2_with (first|((with_reducible refine gate_callee (f:=212) rfl ?_);refine goesL_ (some 9) rfl rfl Tryd.func212 (by kernel_rfl) rfl #[.pointer (some ⟨g,0,none⟩)] rfl au_ ?_;(with_reducible refine (Abj.calls g s0_0 s0_1 s0_2 Ac Ad Ae w0 _ ?side1 ?side2 A4.out).mono ?_);(case side1=>exact is_);(case side2=>repeat (first|(with_reducible first|exact HB.out|apply below_alloc|apply pw_below_drewN|apply below_drew1|refine below_set ?_ (Aaa.ge HI0.out))|exact HB.out));rintro e w11 ⟨rfl,hi,hb,hk⟩;refine ⟨_,rfl,?_⟩;replace HK:=A_ (KeepBut.trans (by repeat (with_reducible first|exact HK.out|apply KeepBut.set_|apply keep_drewN|apply keep_drew|apply keep_alloc)) hk (.inl rfl));replace HB:=A_ (hb);replace HI0:=A_ (hi);(try clear hb);(try clear hb2);(try clear hk);(try clear hi)))
    go_ret
    exact ⟨by first|rfl|(simp [errW_none,errW_some] <;> rfl)|(simp [*,errW_none,errW_some] <;> rfl),is_,by repeat (first|(with_reducible first|exact HB.out|apply below_alloc|apply pw_below_drewN|apply below_drew1|refine below_set ?_ (Aaa.ge HI0.out))|exact HB.out),by repeat (first|(with_reducible first|exact HK.out|apply KeepBut.set_|apply keep_drewN|apply keep_drew|apply keep_alloc)|exact HK.out)⟩
def Aa8.f (s0_0 : List Int) (s0_1 : Int) (s0_2 : Int) (a1 : Int) : Option (Bool × Int × Int) := (Aaf.f s0_0 s0_1 s0_2 a1).bind fun bt727 => (some ((bt727.1 == 0), bt727.2.1, bt727.2.2))
set_option maxHeartbeats 8000000 in
set_option maxRecDepth 100000 in
theorem Aa8.calls (g : Nat) (s0_0 : List Int) (s0_1 : Int) (s0_2 : Int) (a1 : Int) (r1 : Bool) (r2 : Int) (r3 : Int) (w0 w : World) (hI : Aaa w0 w g s0_0 s0_1 s0_2) (hB : Below w0.heap.size w0 w) (h : Aa8.f s0_0 s0_1 s0_2 a1 = some (r1,r2,r3)) :
 Calls Tryd.prog 173 #[.pointer (some ⟨g,0,none⟩),.int .i64 a1] w fun e w'=>e = .returned (.bool r1) ∧ Aaa w0 w' g s0_0 r2 r3 ∧ Below w0.heap.size w0 w' ∧ KeepBut w w' g none:=by
 have HI0:=A_ hI;have HK:=A_ (KeepBut.refl w g none);have HL:=A_ hB.size;clear hI;have HW0:=A_ hB.size;have HB:=A_ hB;clear hB;have H : ((Aaf.f s0_0 s0_1 s0_2 a1).bind fun Aa=>(some ((Aa.1 == 0),Aa.2.1,Aa.2.2))) = some (r1,r2,r3):=h;clear h;replace H:=Option.bind_eq_some_iff.mp H;obtain ⟨⟨Ab,Ac,Ad⟩,A30,H⟩:=H;replace H : (some ((Ab == 0),Ac,Ad)) = some (r1,r2,r3):=H;have A3:=A_ A30;clear A30;simp only [Option.some.injEq,Prod.mk.injEq] at H
 obtain ⟨rfl,rfl,rfl⟩:=H;go_enter Tryd.func173,Tryd.ntmps173
 go_wp2_with (first|((with_reducible refine gate_callee (f:=150) rfl ?_);refine goesL_ (some 7) rfl rfl Tryd.func150 (by kernel_rfl) rfl #[.pointer (some ⟨g,0,none⟩),.int .i64 a1] rfl au_ ?_;(with_reducible refine (Aaf.calls g s0_0 s0_1 s0_2 a1 Ab Ac Ad w0 _ ?side1 ?side2 A3.out).mono ?_);(case side1=>exact is_);(case side2=>repeat (first|(with_reducible first|exact HB.out|apply below_alloc|apply pw_below_drewN|apply below_drew1|refine below_set ?_ (Aaa.ge HI0.out))|exact HB.out));rintro e w4 ⟨rfl,hi,hb,hk⟩;refine ⟨_,rfl,?_⟩;replace HK:=A_ (KeepBut.trans (by repeat (with_reducible first|exact HK.out|apply KeepBut.set_|apply keep_drewN|apply keep_drew|apply keep_alloc)) hk (.inl rfl));replace HB:=A_ (hb);replace HI0:=A_ (hi);(try clear hb);(try clear hb2);(try clear hk);(try clear hi)))
 go_ret
 exact ⟨by first|rfl|(simp [errW_none,errW_some] <;> rfl)|(simp [*,errW_none,errW_some] <;> rfl),is_,by repeat (first|(with_reducible first|exact HB.out|apply below_alloc|apply pw_below_drewN|apply below_drew1|refine below_set ?_ (Aaa.ge HI0.out))|exact HB.out),by repeat (first|(with_reducible first|exact HK.out|apply KeepBut.set_|apply keep_drewN|apply keep_drew|apply keep_alloc)|exact HK.out)⟩
def Aav.f (s0_0 : List Int) (s0_1 : Int) (s0_2 : Int) (l1 : List Int) : Option (Int × Int × Int) := (Aaf.f s0_0 s0_1 s0_2 (l1.length : Int)).bind fun bt723 => (if 0 ≤ bt723.1 then (if bt723.1 < (l1.length : Int) then (some (rd l1 bt723.1, bt723.2.1, bt723.2.2)) else (none)) else (none))
set_option maxHeartbeats 8000000 in
set_option maxRecDepth 100000 in
theorem Aav.calls (g : Nat) (s0_0 : List Int) (s0_1 : Int) (s0_2 : Int) (A1 : Option Addr) (c1 : Nat) (l1 : List Int) (r1 : Int) (r2 : Int) (r3 : Int) (w0 w : World) (hI : Aaa w0 w g s0_0 s0_1 s0_2) (hB : Below w0.heap.size w0 w) (hr1 : Kd.C (Kd.int .i64) w A1 l1.length l1) (hc1 : l1.length ≤ c1) (hf1 : ∀ ad,A1 = some ad → 0 < l1.length → ad.block ≠ g) (h : Aav.f s0_0 s0_1 s0_2 l1 = some (r1,r2,r3)) :
 Calls Tryd.prog 125 #[.pointer (some ⟨g,0,none⟩),.slice A1 l1.length c1] w fun e w'=>e = .returned (.int .i64 r1) ∧ Aaa w0 w' g s0_0 r2 r3 ∧ Below w0.heap.size w0 w' ∧ KeepBut w w' g none:=by
 have HR1:=A_ hr1;have HC1:=A_ hc1;clear hr1 hc1;have HI0:=A_ hI;have HK:=A_ (KeepBut.refl w g none);have HL:=A_ hB.size;clear hI;have HW0:=A_ hB.size;have HB:=A_ hB;clear hB;have H : ((Aaf.f s0_0 s0_1 s0_2 (l1.length : Int)).bind fun Ab=>(if 0 ≤ Ab.1 then (if Ab.1 < (l1.length : Int) then (some (rd l1 Ab.1,Ab.2.1,Ab.2.2)) else (none)) else (none))) = some (r1,r2,r3):=h;clear h;replace H:=Option.bind_eq_some_iff.mp H;obtain ⟨⟨Aa,Af,Ag⟩,A30,H⟩:=H;replace H : (if 0 ≤ Aa then (if Aa < (l1.length : Int) then (some (rd l1 Aa,Af,Ag)) else (none)) else (none)) = some (r1,r2,r3):=H;have A3:=A_ A30;clear A30;by_cases c4 : 0 ≤ Aa
 ·rw [if_pos c4] at H;have c4b0 : decide (0 ≤ Aa) = true:=decide_eq_true c4;clear c4;by_cases c5 : Aa < (l1.length : Int)
  ·rw [if_pos c5] at H;have c5b0 : decide (Aa < (l1.length : Int)) = true:=decide_eq_true c5;clear c5;simp only [Option.some.injEq,Prod.mk.injEq] at H
   obtain ⟨rfl,rfl,rfl⟩:=H;go_enter Tryd.func125,Tryd.ntmps125
   go_wp2_with (first|((with_reducible refine gate_callee (f:=150) rfl ?_);refine goesL_ (some 9) rfl rfl Tryd.func150 (by kernel_rfl) rfl #[.pointer (some ⟨g,0,none⟩),.int .i64 (l1.length : Int)] rfl au_ ?_;(with_reducible refine (Aaf.calls g s0_0 s0_1 s0_2 (l1.length : Int) Aa Af Ag w0 _ ?side1 ?side2 A3.out).mono ?_);(case side1=>exact is_);(case side2=>repeat (first|(with_reducible first|exact HB.out|apply below_alloc|apply pw_below_drewN|apply below_drew1|refine below_set ?_ (Aaa.ge HI0.out))|exact HB.out));rintro e w6 ⟨rfl,hi,hb,hk⟩;refine ⟨_,rfl,?_⟩;replace HK:=A_ (KeepBut.trans (by repeat (with_reducible first|exact HK.out|apply KeepBut.set_|apply keep_drewN|apply keep_drew|apply keep_alloc)) hk (.inl rfl));replace HB:=A_ (hb);replace HI0:=A_ (hi);(try clear hb);(try clear hb2);(try clear hk);(try clear hi);have Ad : 0 ≤ (Aa : Int):=of_decide_eq_true (by first|(with_reducible assumption)|assumption);have Ae : Aa < (l1.length : Int):=of_decide_eq_true (by first|(with_reducible assumption)|assumption);obtain ⟨Ah,Ai,Ac⟩:=Kd.at_int HR1.out Aa Ad Ae;cases Ai;replace Ac:=keep_cell HK.out Ac (by first|(rw [add_block];exact hf1 _ rfl (by omega))|exact hf1 _ rfl (by omega)|exact hf1 Ah rfl (by omega));replace Ad:=eq_true Ad;replace Ae:=eq_true Ae))
   go_ret
   exact ⟨by first|rfl|(simp [errW_none,errW_some] <;> rfl)|(simp [*,errW_none,errW_some] <;> rfl),is_,by repeat (first|(with_reducible first|exact HB.out|apply below_alloc|apply pw_below_drewN|apply below_drew1|refine below_set ?_ (Aaa.ge HI0.out))|exact HB.out),by repeat (first|(with_reducible first|exact HK.out|apply KeepBut.set_|apply keep_drewN|apply keep_drew|apply keep_alloc)|exact HK.out)⟩
  ·rw [if_neg c5] at H;exact absurd H (by simp)
 ·rw [if_neg c4] at H;exact absurd H (by simp)
def Ab0.f (l0 : List Int) : Option (List Int) := (some (([] : List Int) : List Int)).bind fun y175 => (if y175.length + l0.length < 17592186044416 then (some (y175 ++ l0)) else (none))
set_option maxHeartbeats 8000000 in
set_option maxRecDepth 100000 in
theorem Ab0.calls (A0 : Option Addr) (c0 : Nat) (l0 : List Int) (r : List Int) (w : World) (hr0 : Kd.C (Kd.int .i64) w A0 l0.length l0) (hc0 : l0.length ≤ c0) (h : Ab0.f l0 = some r) :
 Calls Tryd.prog 202 #[.slice A0 l0.length c0] w fun e w'=>∃ v0_ : Value,e = .returned (v0_) ∧ Kd.R (Kd.int .i64) 3 w' w.heap.size (fun _=>True) v0_ r ∧ Below w.heap.size w w':=by
 have HR0:=A_ hr0;have HC0:=A_ hc0;clear hr0 hc0;have HB:=A_ (Below.refl w.heap.size w);have H : ((some (([] : List Int) : List Int)).bind fun Aa=>(if Aa.length + l0.length < 17592186044416 then (some (Aa ++ l0)) else (none))) = some r:=h;clear h;obtain ⟨Aa,Ab⟩ : ∃ y_ : List Int,y_ = (([] : List Int)):=⟨_,rfl⟩;replace H : (if Aa.length + l0.length < 17592186044416 then (some (Aa ++ l0)) else (none)) = some r:=by first|(rw [Ab];with_reducible exact H)|(have H2_:=(Option.bind_some _ _).symm.trans H;rw [Ab];with_reducible exact H2_)|(have H2_:=(Option.bind_some _ _).symm.trans H;with_reducible exact H2_)|with_reducible exact H|(rw [Ab];exact H)|exact H
 have Ad:=A_ Ab;clear Ab;by_cases c2 : Aa.length + l0.length < 17592186044416
 ·rw [if_pos c2] at H;have LMc2:=A_ c2;clear c2;obtain ⟨Ah,Ac⟩ : ∃ y_ : List Int,y_ = (Aa ++ l0):=⟨_,rfl⟩;replace H : (some Ah) = some r:=by first|(rw [Ac];with_reducible exact H)|(have H2_:=(Option.bind_some _ _).symm.trans H;rw [Ac];with_reducible exact H2_)|(have H2_:=(Option.bind_some _ _).symm.trans H;with_reducible exact H2_)|with_reducible exact H|(rw [Ac];exact H)|exact H
  have Af:=A_ Ac;clear Ac;obtain rfl:=Option.some.inj H;go_enter Tryd.func202,Tryd.ntmps202
  go_wp2_with (first|((with_reducible refine gate_dst (N:=3) rfl ?_);refine Kd.R_lit (Kd.int .i64) _ 3 ?hg (N:=3) ?hd (xs:=([] : List Int)) (inner:=[]) (ok:=fun _=>True) (okp:=fun _=>True) ?hr ?hp (fun _ hk=>hk) trivial (Below.refl _ _) (Nat.le_refl _) (by simp) ?_;(case hd=>rfl);(case hg=>rfl);(case hr=>go_simp;try rfl);(case hp=>exact (Reps.none _ _));intro Ai w3 ho4 hb hg_ hnew_;clear hg_ hnew_;(first|rw [← Ad.out] at ho4|(simp only [Int.reduceToNat] at ho4;rw [← Ad.out] at ho4));have Ae:=A_ (Kd.R_lower ho4 (below_size bb_));replace HB:=A_ (below_step bb_ hb);clear hb ho4)|((with_reducible refine gate_builtin (b:=.append) (xs:=#[.tmp 3,.tmp 4]) rfl ?_);at_builtin;refine Kd.R_append_rows (Kd.int .i64) (w0:=w) w.heap.size rfl (.tmp 3) (.tmp 4) 22 3 (.int .i64 0) 8 rfl Tryd.underlying22 info3 rfl (by decide) (by omega) Ai Aa l0 _ _ _ (fun _=>True) (fun _=>False) rfl rfl ?aO ?aR (fun _ _ h=>h) (fun _ h=>h.elim) ?aF ?aB ?aS ?aL ?_;(case aR=>exact cl_ (Kd.C_below HR0.out HB.out));(case aB=>exact bb_);(case aF=>exact (fun _ _=>trivial));(case aO=>exact (rl_ Ae));(case aS=>exact (below_size bb_));(case aL=>have:=LMc2.out;omega);intro Aj w5 ho hb hg hat;rw [← Af.out] at ho;replace HB:=A_ (hb);have Ag:=A_ (ho);clear Ae;clear ho hb hg hat))
  go_ret
  exact ⟨_,by first|rfl|(simp [errW_none,errW_some] <;> rfl)|(simp [*,errW_none,errW_some] <;> rfl),rl_ Ag,bb_⟩
 ·rw [if_neg c2] at H;exact absurd H (by simp)
mutual
def Aae.l0 : Nat → Int → Int → Int → List Int → Option (Int × List Int × Bool)
 | 0,_,_,_,_=>none
 | k + 1,x19,x20,x737000,x737001=>if x20 < x19 then (Aae.l1 k x20 x19 x20 (x737001.length : Int) 0 x737000 x737001) else (some (x737000,x737001,true))
def Aae.l1 : Nat → Int → Int → Int → Int → Int → Int → List Int → Option (Int × List Int × Bool)
 | 0,_,_,_,_,_,_,_=>none
 | k + 1,x5,x19,x20,x25,x26,x737000,x737001=>if x26 < x25 then (if 0 ≤ x26 then (if x26 < (x737001.length : Int) then ((Aap.f (rd x737001 x26) x5).bind fun t738=>(if t738 = true then (if 0 ≤ x5 then (if x5 < (x737001.length : Int) then (Aae.l1 k x5 x19 x20 x25 (wrap64 (x26 + 1)) x737000 (x737001.set (x26 : Int).toNat (Go.bits .or .i64 (rd x737001 x26) (rd x737001 x5)))) else (none)) else (none)) else (Aae.l1 k x5 x19 x20 x25 (wrap64 (x26 + 1)) x737000 x737001))) else (none)) else (none)) else (Aae.l0 k x19 (wrap64 (x20 + 1)) x737000 x737001)
end
def Aae.f (k : Nat) (a0_0 : Int) (l0_1 : List Int) : Option (Int × List Int × Bool) := (Abi.f k a0_0 l0_1).bind fun t732 => (if t732 = true then ((Ab0.f l0_1).bind fun t733 => (Aae.l0 k (t733.length : Int) 0 a0_0 t733)) else (some (0, ([] : List Int), false)))
def Aae.T3 : Bool × List (List Nat × List Nat) := (true, [([], []), ([0], [0]), ([], []), ([2], [2]), ([3], [3]), ([1, 4], [1, 4]), ([], []), ([6, 5, 4, 0, 1, 2, 3, 4, 5, 6], [5, 6])])
def Aae.B3 : List Nat := [0, 1, 0, 4, 12, 31, 0, 127]
theorem Aae.tab3 : rtab .any (opsOf Tryd.f239 3) = Aae.T3:=by kernel_rfl
theorem Aae.bits3 : waitsOk Aae.T3.2 Aae.B3 = true:=by kernel_rfl
def Aae.T11 : Bool × List (List Nat × List Nat) := (true, [([], []), ([0], [0]), ([], []), ([1, 2], [1, 2]), ([3], [3]), ([], []), ([5], [5]), ([], []), ([6, 7], [6, 7]), ([8], [8]), ([4, 9], [4, 9]), ([1, 2, 0, 1, 2, 3, 4, 5, 6, 7, 8, 9, 10], [1, 2]), ([11, 10, 0, 1, 2, 3, 4, 5, 6, 7, 8, 9, 10], [10, 11])])
def Aae.B11 : List Nat := [0, 1, 0, 7, 15, 0, 32, 0, 224, 480, 1023, 2047, 4095]
theorem Aae.tab11 : rtab .any (opsOf Tryd.f239 11) = Aae.T11:=by kernel_rfl
theorem Aae.bits11 : waitsOk Aae.T11.2 Aae.B11 = true:=by kernel_rfl
set_option maxHeartbeats 8000000 in
set_option maxRecDepth 100000 in
theorem Aae.calls (k : Nat) (a0_0 : Int) (A0_1 : Option Addr) (c0_1 : Nat) (l0_1 : List Int) (r1 : Int) (r2 : List Int) (r3 : Bool) (w : World) (hr0_1 : Kd.C (Kd.int .i64) w A0_1 l0_1.length l0_1) (hc0_1 : l0_1.length ≤ c0_1) (h : Aae.f k a0_0 l0_1 = some (r1,r2,r3)) :
 Calls Tryd.prog 239 #[.agg #[.int .i64 a0_0,.slice A0_1 l0_1.length c0_1]] w fun e w'=>∃ v1_ : Value,e = .returned (.tuple #[.agg #[.int .i64 r1,v1_],.bool r3]) ∧ Kd.R (Kd.int .i64) 3 w' w.heap.size (fun _=>True) v1_ r2 ∧ Below w.heap.size w w':=by
 have hu28:=Tryd.underlying28;have HR0_1:=A_ hr0_1;have HC0_1:=A_ hc0_1;clear hr0_1 hc0_1;have HB:=A_ (Below.refl w.heap.size w);have H : ((Abi.f k a0_0 l0_1).bind fun Bb=>(if Bb = true then ((Ab0.f l0_1).bind fun Aj=>(Aae.l0 k (Aj.length : Int) 0 a0_0 Aj)) else (some (0,([] : List Int),false)))) = some (r1,r2,r3):=h;clear h;replace H:=Option.bind_eq_some_iff.mp H;obtain ⟨Bb,A20,H⟩:=H;replace H : (if Bb = true then ((Ab0.f l0_1).bind fun Aj=>(Aae.l0 k (Aj.length : Int) 0 a0_0 Aj)) else (some (0,([] : List Int),false))) = some (r1,r2,r3):=H;have A2:=A_ A20;clear A20;by_cases c3 : Bb = true
 ·subst c3;have H1 : ((Ab0.f l0_1).bind fun Aj=>(Aae.l0 k (Aj.length : Int) 0 a0_0 Aj)) = some (r1,r2,r3):=by rw [if_pos rfl] at H;exact H
  clear H;have H:=H1;clear H1;replace H:=Option.bind_eq_some_iff.mp H;obtain ⟨Aj,A40,H⟩:=H;replace H : (Aae.l0 k (Aj.length : Int) 0 a0_0 Aj) = some (r1,r2,r3):=H;have A4:=A_ A40;clear A40;have H':=A_ H;clear H;go_enter Tryd.func239,Tryd.ntmps239
  try go_wp2_with (first|((with_reducible refine gate_dst (N:=1) rfl ?_);refine box_event ?hg (N:=1) ?hd (cs:=#[.int .i64 a0_0,.slice A0_1 l0_1.length c0_1]) (t:=28) ?hr ?_;(case hd=>rfl);(case hg=>rfl);(case hr=>go_simp;try rfl);intro Ak hg w5 hbox hb;have Ab:=A_ (hbox);have Bl:=A_ (gw_ (w:=w) hg bb_);have Bm:=A_ (gw_ (w:=w) hg bb_);replace HB:=A_ (below_step bb_ hb);clear hb hbox hg)|((with_reducible refine gate_dst (N:=2) rfl ?_);refine box_event ?hg (N:=2) ?hd (cs:=#[.int .i64 0,.slice none 0 0]) (t:=28) ?hr ?_;(case hd=>rfl);(case hg=>rfl);(case hr=>go_simp;try rfl);intro An hg w6 hbox hb;have Ac:=A_ (hbox);have Bn:=A_ (gw_ (w:=w) hg bb_);have Bo:=A_ (gw_ (w:=w) hg bb_);replace HB:=A_ (below_step bb_ hb);have Aq:=A_ (nl_ hg Ab);have Ar:=A_ (ng_ hg Ab);replace Ab:=bz Ab hb;clear hb hbox hg;have hnb7:=Aq.out;have hnc7:=Ar.out;have hcz8_0 : w6.cell? ⟨Ak,0,none⟩ = some (.int .i64 a0_0):=blk_cell Ab.out 0;have hcz8_1 : w6.cell? ⟨Ak,1,none⟩ = some (.slice A0_1 l0_1.length c0_1):=blk_cell Ab.out 1;have hfz8_0:=blk_frozen Ab.out 0;have hfz8_1:=blk_frozen Ab.out 1)|((with_reducible refine gate_callee (f:=207) rfl ?_);refine goesL_ (some 8) rfl rfl Tryd.func207 (by kernel_rfl) rfl #[.agg #[.int .i64 a0_0,.slice A0_1 l0_1.length c0_1]] rfl au_ ?_;(with_reducible refine (Abi.calls k a0_0 _ _ l0_1 true _ ?side1 ?side2 A2.out).mono ?_);(case side1=>exact cl_ (Kd.C_below HR0_1.out HB.out));(case side2=>exact HC0_1.out);rintro e w9 ⟨rfl,hb⟩;refine ⟨_,rfl,?_⟩;replace Ab:=bz Ab hb;replace Ac:=bz Ac hb;replace HB:=A_ (below_step bb_ hb);(try clear hb);(try clear hb2);(try clear hk);(try clear hi)))
  replace Ab:=A_ (blk_drew Ab.out);replace Ac:=A_ (blk_drew Ac.out);replace HB:=A_ (below_drew1 HB.out);refine start_ (n:=8) (S:=fun w'=>w'.cell? ⟨Ak,0,none⟩ = some (.int .i64 a0_0) ∧ w'.cell? ⟨Ak,1,none⟩ = some (.slice A0_1 l0_1.length c0_1)) (ds:=[]) #[F,F,F,F,F,F,F,F] (by kernel_rfl) rfl rfl ⟨blk_cell Ab.out 0,blk_cell Ab.out 1⟩ (fun hHeld=>?_);refine with_tabW Aae.tab3 Aae.bits3 (fun HT_ HW_=>?_)
  generalize w9.drew = w10 at Ab Ac HB hHeld ⊢
  refine pure_ (i:=0) (N:=some 11) (v:=?_) (a':=?_) #[T,F,F,F,F,F,F,F] rfl rfl (any_of HT_.out (by kernel_rfl)) (fun _ _ _ h=>h) (Or.inl ⟨by rfl,?_⟩) ?_ ?_
  rotate_left;·intro w';go_simp;with_reducible rfl
  rotate_left;·simp only [Act.put,L_,M_,N_,i64_w,i32_w];rfl
  refine pure_ (i:=2) (N:=some 13) (v:=?_) (a':=?_) #[T,F,T,F,F,F,F,F] rfl rfl (any_of HT_.out (by kernel_rfl)) (fun _ _ _ h=>h) (Or.inl ⟨by rfl,?_⟩) ?_ ?_
  rotate_left;·intro w';go_simp;with_reducible rfl
  rotate_left;·simp only [Act.put,L_,M_,N_,i64_w,i32_w];rfl
  refine take_ (i:=1) (N:=some 12) (v:=?_) (a':=?_) #[T,T,T,F,F,F,F,F] rfl rfl (take_ofW HT_.out HW_.out (by kernel_rfl)) (fun _ _ _ h=>h) (Or.inl ⟨by rfl,?_⟩) hHeld ?_ ?_
  rotate_left
  ·rintro w' ⟨s0,s1⟩
   go_simp
   with_reducible rfl
  rotate_left;·simp only [Act.put,L_,M_,N_,i64_w,i32_w];rfl
  refine take_ (i:=3) (N:=some 14) (v:=?_) (a':=?_) #[T,T,T,T,F,F,F,F] rfl rfl (take_ofW HT_.out HW_.out (by kernel_rfl)) (fun _ _ _ h=>h) (Or.inl ⟨by rfl,?_⟩) hHeld ?_ ?_
  rotate_left
  ·rintro w' ⟨s0,s1⟩
   go_simp
   with_reducible rfl
  rotate_left;·simp only [Act.put,L_,M_,N_,i64_w,i32_w];rfl
  refine join_ (σ:=Value × Nat) 1 #[T,T,T,T,T,T,T,F] (fun s_=>[(15,s_.1),(4,.pointer (some ⟨s_.2,0,none⟩)),(16,.agg #[.int .i64 a0_0,s_.1])]) (fun s_ w'=>(w'.cell? ⟨Ak,0,none⟩ = some (.int .i64 a0_0) ∧ w'.cell? ⟨Ak,1,none⟩ = some (.slice A0_1 l0_1.length c0_1)) ∧ (Kd.R (Kd.int .i64) 3 w' w.heap.size (fun _=>True) s_.1 Aj) ∧ (w'.heap[Ak]? = some (.cells #[.int .i64 a0_0,.slice A0_1 l0_1.length c0_1] 28 (0,0))) ∧ (w'.heap[An]? = some (.cells #[.int .i64 0,.slice none 0 0] 28 (0,0))) ∧ (w'.heap[s_.2]? = some (.cells #[.int .i64 0,.slice none 0 0] 28 (0,0))) ∧ (w.heap.size ≤ s_.2) ∧ (w.heap.size ≤ s_.2) ∧ (Ak ≠ s_.2) ∧ (s_.2 ≠ Ak) ∧ (An ≠ s_.2) ∧ (s_.2 ≠ An) ∧ (Below w.heap.size w w')) ?_ ?_
  rotate_left
  ·intro hCont
   refine two_ (i:=4) (j:=6) (Ni:=some 15) (Nj:=some 4) #[T,T,T,T,T,F,F,F] #[T,T,T,T,F,F,T,F] rfl rfl rfl rfl (two_of HT_.out (by kernel_rfl)) (by decide) (by decide) (fun K hK=>?_) (fun K hK=>?_)
   ·skip
    refine goes_ Tryd.func202 (by kernel_rfl) rfl #[.slice A0_1 l0_1.length c0_1] (by rfl) rfl rfl au_ ?_
    with_reducible refine (Ab0.calls _ _ l0_1 Aj _ ?side1 ?side2 A4.out).mono ?_
    (case side1=>exact cl_ (Kd.C_below HR0_1.out HB.out))
    (case side2=>exact HC0_1.out)
    rintro e w11 ⟨Bc,rfl,ho0,hb⟩
    refine ⟨_,rfl,?_⟩
    have Ap:=A_ (Kd.R_lower ho0 (below_size bb_));replace Ab:=bz Ab hb;replace Ac:=bz Ac hb;replace HB:=A_ (below_step bb_ hb);(try clear hb);(try clear hb2);(try clear hk);(try clear hi);(try clear ho0);obtain ⟨Ao12,co12,eo12⟩:=Kd.R_slice Ap.out;(first|subst eo12|(injection eo12 with f1_ f2_ f3_;have f4_:=f1_.symm;have f5_:=f3_.symm;clear f1_ f2_ f3_;subst f4_;subst f5_))
    refine hK.out _ _ ⟨blk_cell Ab.out 0,blk_cell Ab.out 1⟩ (fun hHeld=>?_)
    clear hK K;refine norm_ (a':=?_) ?_ ?_
    rotate_left
    ·show Act.put _ (some 15) _ = _
     simp only [Act.put,L_,M_,N_,i64_w,i32_w]
     rfl
    refine pure_ (i:=5) (N:=some 16) (v:=?_) (a':=?_) #[T,T,T,T,T,T,F,F] rfl rfl (any_of HT_.out (by kernel_rfl)) (fun _ _ _ h=>h) (Or.inl ⟨by rfl,?_⟩) ?_ ?_
    rotate_left;·intro w';go_simp;with_reducible rfl
    rotate_left;·simp only [Act.put,L_,M_,N_,i64_w,i32_w];rfl
    refine one_ (i:=6) (N:=some 4) #[T,T,T,T,T,T,T,F] rfl rfl (one_of HT_.out (by kernel_rfl)) (by decide) (fun K hK=>?_)
    refine box_step ?hg (N:=4) ?hd (cs:=#[.int .i64 0,.slice none 0 0]) (t:=28) ?hr ?_;(case hd=>rfl);(case hg=>rfl);(case hr=>go_simp;try rfl)
    intro Af hg w13 hbox hb
    replace Ap:=rb_ Ap hb;have Ad:=A_ (hbox);have Az:=A_ (gw_ (w:=w) hg bb_);have Ba:=A_ (gw_ (w:=w) hg bb_);replace HB:=A_ (below_step bb_ hb);have Ag:=A_ (nl_ hg Ab);have Al:=A_ (ng_ hg Ab);replace Ab:=bz Ab hb;have Ai:=A_ (nl_ hg Ac);have Am:=A_ (ng_ hg Ac);replace Ac:=bz Ac hb;clear hb hbox hg;refine hK.out _ _ ⟨blk_cell Ab.out 0,blk_cell Ab.out 1⟩ (fun hHeld=>?_)
    clear hK K;refine norm_ (a':=?_) ?_ ?_
    rotate_left
    ·show Act.put _ (some 4) _ = _
     simp only [Act.put,L_,M_,N_,i64_w,i32_w]
     rfl
    exact norm_ (by simp only [putAll,Act.put,L_,M_,N_]) (hCont (.slice Ao12 Aj.length co12,Af) _ ⟨hHeld,(rl_ Ap),(bl_ Ab),(bl_ Ac),(bl_ Ad),Az.out,Ba.out,Ag.out,Al.out,Ai.out,Am.out,bb_⟩)
   ·skip
    refine box_step ?hg (N:=4) ?hd (cs:=#[.int .i64 0,.slice none 0 0]) (t:=28) ?hr ?_;(case hd=>rfl);(case hg=>rfl);(case hr=>go_simp;try rfl)
    intro Af hg w11 hbox hb
    have Ad:=A_ (hbox);have Az:=A_ (gw_ (w:=w) hg bb_);have Ba:=A_ (gw_ (w:=w) hg bb_);replace HB:=A_ (below_step bb_ hb);have Ag:=A_ (nl_ hg Ab);have Al:=A_ (ng_ hg Ab);replace Ab:=bz Ab hb;have Ai:=A_ (nl_ hg Ac);have Am:=A_ (ng_ hg Ac);replace Ac:=bz Ac hb;clear hb hbox hg;refine hK.out _ _ ⟨blk_cell Ab.out 0,blk_cell Ab.out 1⟩ (fun hHeld=>?_)
    clear hK K;refine norm_ (a':=?_) ?_ ?_
    rotate_left
    ·show Act.put _ (some 4) _ = _
     simp only [Act.put,L_,M_,N_,i64_w,i32_w]
     rfl
    refine one_ (i:=4) (N:=some 15) #[T,T,T,T,T,F,T,F] rfl rfl (one_of HT_.out (by kernel_rfl)) (by decide) (fun K hK=>?_)
    refine goes_ Tryd.func202 (by kernel_rfl) rfl #[.slice A0_1 l0_1.length c0_1] (by rfl) rfl rfl au_ ?_
    with_reducible refine (Ab0.calls _ _ l0_1 Aj _ ?side1 ?side2 A4.out).mono ?_
    (case side1=>exact cl_ (Kd.C_below HR0_1.out HB.out))
    (case side2=>exact HC0_1.out)
    rintro e w12 ⟨Bc,rfl,ho0,hb⟩
    refine ⟨_,rfl,?_⟩
    have Ap:=A_ (Kd.R_lower ho0 (below_size bb_));replace Ab:=bz Ab hb;replace Ac:=bz Ac hb;replace Ad:=bz Ad hb;replace HB:=A_ (below_step bb_ hb);(try clear hb);(try clear hb2);(try clear hk);(try clear hi);(try clear ho0);obtain ⟨Ao13,co13,eo13⟩:=Kd.R_slice Ap.out;(first|subst eo13|(injection eo13 with f1_ f2_ f3_;have f4_:=f1_.symm;have f5_:=f3_.symm;clear f1_ f2_ f3_;subst f4_;subst f5_))
    refine hK.out _ _ ⟨blk_cell Ab.out 0,blk_cell Ab.out 1⟩ (fun hHeld=>?_)
    clear hK K;refine norm_ (a':=?_) ?_ ?_
    rotate_left
    ·show Act.put _ (some 15) _ = _
     simp only [Act.put,L_,M_,N_,i64_w,i32_w]
     rfl
    refine pure_ (i:=5) (N:=some 16) (v:=?_) (a':=?_) #[T,T,T,T,T,T,T,F] rfl rfl (any_of HT_.out (by kernel_rfl)) (fun _ _ _ h=>h) (Or.inl ⟨by rfl,?_⟩) ?_ ?_
    rotate_left;·intro w';go_simp;with_reducible rfl
    rotate_left;·simp only [Act.put,L_,M_,N_,i64_w,i32_w];rfl
    exact norm_ (by simp only [putAll,Act.put,L_,M_,N_]) (hCont (.slice Ao13 Aj.length co13,Af) _ ⟨hHeld,(rl_ Ap),(bl_ Ab),(bl_ Ac),(bl_ Ad),Az.out,Ba.out,Ag.out,Al.out,Ai.out,Am.out,bb_⟩)
  rintro ⟨Bc,Af⟩ w14 ⟨hS_,h0_,h1_,h2_,h3_,h4_,h5_,h6_,h7_,h8_,h9_,h10_⟩
  have n0_ : Aside0 (Kd.R (Kd.int .i64) 3 w14 w.heap.size (fun _=>True) Bc Aj):=⟨h0_⟩;have n1_ : Aside0 (w14.heap[Ak]? = some (.cells #[.int .i64 a0_0,.slice A0_1 l0_1.length c0_1] 28 (0,0))):=⟨h1_⟩;have n2_ : Aside0 (w14.heap[An]? = some (.cells #[.int .i64 0,.slice none 0 0] 28 (0,0))):=⟨h2_⟩;have n3_ : Aside0 (w14.heap[Af]? = some (.cells #[.int .i64 0,.slice none 0 0] 28 (0,0))):=⟨h3_⟩;have n4_ : Aside0 (w.heap.size ≤ Af):=⟨h4_⟩;have n5_ : Aside0 (w.heap.size ≤ Af):=⟨h5_⟩;have n6_ : Aside0 (Ak ≠ Af):=⟨h6_⟩;have n7_ : Aside0 (Af ≠ Ak):=⟨h7_⟩;have n8_ : Aside0 (An ≠ Af):=⟨h8_⟩;have n9_ : Aside0 (Af ≠ An):=⟨h9_⟩;have n10_ : Aside0 (Below w.heap.size w w14):=⟨h10_⟩;clear Ab;clear Ac;clear HB;clear h0_ h1_ h2_ h3_ h4_ h5_ h6_ h7_ h8_ h9_ h10_;have Ap:=n0_;have Ab:=n1_;have Ac:=n2_;have Ad:=n3_;have Az:=n4_;have Ba:=n5_;have Ag:=n6_;have Al:=n7_;have Ai:=n8_;have Am:=n9_;have HB:=n10_;clear n0_ n1_ n2_ n3_ n4_ n5_ n6_ n7_ n8_ n9_ n10_;have hHeld : w14.cell? ⟨Ak,0,none⟩ = some (.int .i64 a0_0) ∧ w14.cell? ⟨Ak,1,none⟩ = some (.slice A0_1 l0_1.length c0_1):=hS_;obtain ⟨Ao15,co15,eo15⟩:=Kd.R_slice Ap.out;(first|subst eo15|(injection eo15 with f1_ f2_ f3_;have f4_:=f1_.symm;have f5_:=f3_.symm;clear f1_ f2_ f3_;subst f4_;subst f5_))
  refine norm_ (a':=?_) ?_ ?_
  rotate_left;·simp only [putAll,Act.put,L_,M_,N_];rfl
  refine one_ (i:=7) (N:=none) #[T,T,T,T,T,T,T,T] rfl rfl (one_of HT_.out (by kernel_rfl)) (by decide) (fun K hK=>?_)
  have hs16 : w14.cell? ⟨Af,0,none⟩ = some (.int .i64 0):=blk_cell Ad.out 0;have hfs16:=blk_frozen Ad.out 0;have hns16_0:=Ag.out;have hns16_1:=Ai.out;have hms16_0:=Al.out;have hms16_1:=Am.out;have hs17 : w14.cell? ⟨Af,1,none⟩ = some (.slice none 0 0):=blk_cell Ad.out 1;have hfs17:=blk_frozen Ad.out 1;have hns17_0:=Ag.out;have hns17_1:=Ai.out;have hms17_0:=Al.out;have hms17_1:=Am.out;refine skip_ (w1:=?_) (by rfl) rfl ?_ ?_
  rotate_left
  ·go_simp
   rfl
  refine hK.out _ _ ⟨((cell_far (p:=⟨Af,_,none⟩) Ag.out _).trans (((cell_far (p:=⟨Af,_,none⟩) Ag.out _).trans (hHeld.1)))),((cell_far (p:=⟨Af,_,none⟩) Ag.out _).trans (((cell_far (p:=⟨Af,_,none⟩) Ag.out _).trans (hHeld.2))))⟩ (fun hHeld=>?_)
  clear hK K;refine done_ (done_of HT_.out (by kernel_rfl)) ?_
  have hnb18:=Al.out;have hnc18:=Ag.out;have hnb19:=Am.out;have hnc19:=Ai.out;have hcz20_0 : w14.cell? ⟨Af,0,none⟩ = some (.int .i64 0):=blk_cell Ad.out 0;have hcz20_1 : w14.cell? ⟨Af,1,none⟩ = some (.slice none 0 0):=blk_cell Ad.out 1;have hfz20_0:=blk_frozen Ad.out 0;have hfz20_1:=blk_frozen Ad.out 1;try go_wp2
  go_loopg [20] k (fun kq v20 w'=>∃ (x20_1 : Int) (Ah : List Int) (Ao : Value),v20 = .int .i64 x20_1 ∧ Aside0 (Aae.l0 kq (Aj.length : Int) x20_1 a0_0 Ah = some (r1,r2,r3)) ∧ Aside0 (kq ≤ k) ∧ Aside0 (Kd.R (Kd.int .i64) 3 w' w.heap.size (fun _=>True) Ao Ah) ∧ Aside0 (w'.heap[Ak]? = some (.cells #[.int .i64 a0_0,(.slice A0_1 l0_1.length c0_1)] 28 (0,0))) ∧ Aside0 (w'.heap[An]? = some (.cells #[.int .i64 0,(.slice none 0 0)] 28 (0,0))) ∧ Aside0 (w'.heap[Af]? = some (.cells #[.int .i64 a0_0,Ao] 28 (0,0))) ∧ Aside0 (Below w.heap.size w w'))
  case atStart=>exact ⟨(0),(Aj),(.slice Ao15 Aj.length co15),(by first|rfl|(simp;done)|(simp [*];done)),H',⟨Nat.le_refl _⟩,⟨rq_ (Kd.R_mono (Kd.R_far (p:=⟨Af,1,none⟩) (Kd.R_far (p:=⟨Af,0,none⟩) (Kd.R_types Ap.out Ad.out (by decide)) (fun _ hk=>hk.2) (.int .i64 a0_0)) (fun _ hk=>hk.2) (.slice Ao15 Aj.length co15)) (fun _ hk=>trivial))⟩,⟨by (with_reducible repeat (first|refine blk_drewN ?_ _|refine blk_drew ?_|refine blk_alloc ?_ _));refine blk_far ?_ Ag.out _;(with_reducible repeat (first|refine blk_drewN ?_ _|refine blk_drew ?_|refine blk_alloc ?_ _));refine blk_far ?_ Ag.out _;(with_reducible repeat (first|refine blk_drewN ?_ _|refine blk_drew ?_|refine blk_alloc ?_ _));exact Ab.out⟩,⟨by (with_reducible repeat (first|refine blk_drewN ?_ _|refine blk_drew ?_|refine blk_alloc ?_ _));refine blk_far ?_ Ai.out _;(with_reducible repeat (first|refine blk_drewN ?_ _|refine blk_drew ?_|refine blk_alloc ?_ _));refine blk_far ?_ Ai.out _;(with_reducible repeat (first|refine blk_drewN ?_ _|refine blk_drew ?_|refine blk_alloc ?_ _));exact Ac.out⟩,⟨by (with_reducible repeat (first|refine blk_drewN ?_ _|refine blk_drew ?_|refine blk_alloc ?_ _));refine blk_put (cs:=#[.int .i64 a0_0,.slice none 0 0]) ?_ 1 _ rfl;(with_reducible repeat (first|refine blk_drewN ?_ _|refine blk_drew ?_|refine blk_alloc ?_ _));refine blk_put (cs:=#[.int .i64 0,.slice none 0 0]) ?_ 0 _ rfl;(with_reducible repeat (first|refine blk_drewN ?_ _|refine blk_drew ?_|refine blk_alloc ?_ _));exact Ad.out⟩,⟨bb_⟩⟩
  case round =>
   clear H';try clear c1
   try clear c2
   try clear p2
   try clear c3
   try clear c7
   try clear c18
   try clear c19
   try clear c20
   try clear hcz20_0
   try clear hcz20_1
   try clear hcz8_0
   try clear hcz8_1
   try clear hfz20_0
   try clear hfz20_1
   try clear hfz8_0
   try clear hfz8_1
   obtain ⟨x20_1,Ah,Ao,rfl,HA,HK1,Ae,Ab,Ac,Ad,HB⟩:=hrel;cases gk with
   | zero=>exact absurd HA.out (by simp [Aae.l0])
   | succ k1 =>
    have H:=HA.out;clear HA;simp only [Aae.l0] at H
    by_cases c21 : x20_1 < (Aj.length : Int)
    ·rw [if_pos c21] at H;have c21b0 : decide (x20_1 < (Aj.length : Int)) = true:=decide_eq_true c21;clear c21;have H':=A_ H;clear H;have hnb22:=Al.out;have hnc22:=Ag.out;have hnb23:=Am.out;have hnc23:=Ai.out;have hcz24_0 : wr.cell? ⟨Af,0,none⟩ = some (.int .i64 a0_0):=blk_cell Ad.out 0;have hcz24_1 : wr.cell? ⟨Af,1,none⟩ = some (Ao):=blk_cell Ad.out 1;have hfz24_0:=blk_frozen Ad.out 0;have hfz24_1:=blk_frozen Ad.out 1;obtain ⟨Ao25,co25,eo25⟩:=Kd.R_slice Ae.out;subst eo25;go_wp2
     go_loopg [26] k1 (fun kq v26 w'=>∃ (x26_2 : Int) (Aa : List Int) (Ao : Value),v26 = .int .i64 x26_2 ∧ Aside0 (Aae.l1 kq x20_1 (Aj.length : Int) x20_1 (Ah.length : Int) x26_2 a0_0 Aa = some (r1,r2,r3)) ∧ Aside0 (kq ≤ k1) ∧ Aside0 (Kd.R (Kd.int .i64) 3 w' w.heap.size (fun _=>True) Ao Aa) ∧ Aside0 (w'.heap[Ak]? = some (.cells #[.int .i64 a0_0,(.slice A0_1 l0_1.length c0_1)] 28 (0,0))) ∧ Aside0 (w'.heap[An]? = some (.cells #[.int .i64 0,(.slice none 0 0)] 28 (0,0))) ∧ Aside0 (w'.heap[Af]? = some (.cells #[.int .i64 a0_0,Ao] 28 (0,0))) ∧ Aside0 (Below w.heap.size w w'))
     case atStart=>exact ⟨(0),(Ah),(.slice Ao25 Ah.length co25),(by first|rfl|(simp;done)|(simp [*];done)),H',⟨Nat.le_refl _⟩,⟨rl_ Ae⟩,⟨bl_ Ab⟩,⟨bl_ Ac⟩,⟨bl_ Ad⟩,⟨bb_⟩⟩
     case round =>
      clear H';try clear c1
      try clear c2
      try clear p2
      try clear c3
      try clear c7
      try clear c18
      try clear c19
      try clear c20
      try clear c21
      try clear c21b0
      try clear c22
      try clear c23
      try clear hcz20_0
      try clear hcz20_1
      try clear hcz24_0
      try clear hcz24_1
      try clear hcz8_0
      try clear hcz8_1
      try clear hfz20_0
      try clear hfz20_1
      try clear hfz24_0
      try clear hfz24_1
      try clear hfz8_0
      try clear hfz8_1
      try clear p2
      obtain ⟨x26_2,Aa,Ao,rfl,HA,HK2,Ae,Ab,Ac,Ad,HB⟩:=hrel;cases gk with
      | zero=>exact absurd HA.out (by simp [Aae.l1])
      | succ k2 =>
       have H:=HA.out;clear HA;simp only [Aae.l1] at H
       by_cases c26 : x26_2 < (Ah.length : Int)
       ·rw [if_pos c26] at H;have c26b0 : decide (x26_2 < (Ah.length : Int)) = true:=decide_eq_true c26;clear c26;by_cases c27 : 0 ≤ x26_2
        ·rw [if_pos c27] at H;have c27b0 : decide (0 ≤ x26_2) = true:=decide_eq_true c27;clear c27;by_cases c28 : x26_2 < (Aa.length : Int)
         ·rw [if_pos c28] at H;have c28b0 : decide (x26_2 < (Aa.length : Int)) = true:=decide_eq_true c28;clear c28;replace H:=Option.bind_eq_some_iff.mp H;obtain ⟨Bi,Bj,H⟩:=H;replace H : (if Bi = true then (if 0 ≤ x20_1 then (if x20_1 < (Aa.length : Int) then (Aae.l1 k2 x20_1 (Aj.length : Int) x20_1 (Ah.length : Int) (wrap64 (x26_2 + 1)) a0_0 (Aa.set (x26_2 : Int).toNat (Go.bits .or .i64 (rd Aa x26_2) (rd Aa x20_1)))) else (none)) else (none)) else (Aae.l1 k2 x20_1 (Aj.length : Int) x20_1 (Ah.length : Int) (wrap64 (x26_2 + 1)) a0_0 Aa)) = some (r1,r2,r3):=H;have A29:=A_ Bj;clear Bj;by_cases c30 : Bi = true
          ·subst c30;have H1 : (if 0 ≤ x20_1 then (if x20_1 < (Aa.length : Int) then (Aae.l1 k2 x20_1 (Aj.length : Int) x20_1 (Ah.length : Int) (wrap64 (x26_2 + 1)) a0_0 (Aa.set (x26_2 : Int).toNat (Go.bits .or .i64 (rd Aa x26_2) (rd Aa x20_1)))) else (none)) else (none)) = some (r1,r2,r3):=by rw [if_pos rfl] at H;exact H
           clear H;have H:=H1;clear H1;by_cases c31 : 0 ≤ x20_1
           ·rw [if_pos c31] at H;have c31b0 : decide (0 ≤ x20_1) = true:=decide_eq_true c31;clear c31;by_cases c32 : x20_1 < (Aa.length : Int)
            ·rw [if_pos c32] at H;have c32b0 : decide (x20_1 < (Aa.length : Int)) = true:=decide_eq_true c32;clear c32;obtain ⟨Bk,Av⟩ : ∃ y_ : List Int,y_ = (Aa.set (x26_2 : Int).toNat (Go.bits .or .i64 (rd Aa x26_2) (rd Aa x20_1))):=⟨_,rfl⟩;replace H : (Aae.l1 k2 x20_1 (Aj.length : Int) x20_1 (Ah.length : Int) (wrap64 (x26_2 + 1)) a0_0 Bk) = some (r1,r2,r3):=by first|(rw [Av];with_reducible exact H)|(have H2_:=(Option.bind_some _ _).symm.trans H;rw [Av];with_reducible exact H2_)|(have H2_:=(Option.bind_some _ _).symm.trans H;with_reducible exact H2_)|with_reducible exact H|(rw [Av];exact H)|exact H
             have Bp:=A_ Av;clear Av;have H':=A_ H;clear H;have hnb34:=Al.out;have hnc34:=Ag.out;have hnb35:=Am.out;have hnc35:=Ai.out;have hcz36_0 : wr.cell? ⟨Af,0,none⟩ = some (.int .i64 a0_0):=blk_cell Ad.out 0;have hcz36_1 : wr.cell? ⟨Af,1,none⟩ = some (Ao):=blk_cell Ad.out 1;have hfz36_0:=blk_frozen Ad.out 0;have hfz36_1:=blk_frozen Ad.out 1;obtain ⟨Ao37,co37,eo37⟩:=Kd.R_slice Ae.out;subst eo37;have At : 0 ≤ (x26_2 : Int):=of_decide_eq_true (by first|(with_reducible assumption)|assumption);have Au : x26_2 < (Aa.length : Int):=of_decide_eq_true (by first|(with_reducible assumption)|assumption);obtain ⟨As,Bd,Aw⟩:=Kd.at_int (Kd.R_reads' Ae.out).2.2 x26_2 At Au;cases Bd
             replace At:=eq_true At;replace Au:=eq_true Au;try go_wp2_with (first|((with_reducible refine gate_callee (f:=192) rfl ?_);refine goesL_ (some 35) rfl rfl Tryd.func192 (by kernel_rfl) rfl #[.int .i64 (rd Aa x26_2),.int .i64 x20_1] rfl au_ ?_;(with_reducible refine (Aap.calls (rd Aa x26_2) x20_1 true _ A29.out).mono ?_);rintro e w' ⟨rfl,⟨nd,rfl⟩⟩;refine ⟨_,rfl,?_⟩;(try (rw [drewN_self wr];generalize hq_ : World.drewN wr _ = wr;have n0_ : Aside0 (Kd.R (Kd.int .i64) 3 wr w.heap.size (fun _=>True) (.slice (some As) Aa.length co37) Aa):=⟨by rw [← hq_];exact (rl_ Ae)⟩;have n1_ : Aside0 (wr.heap[Ak]? = some (.cells #[.int .i64 a0_0,.slice A0_1 l0_1.length c0_1] 28 (0,0))):=⟨by rw [← hq_];exact (bl_ Ab)⟩;have n2_ : Aside0 (wr.heap[An]? = some (.cells #[.int .i64 0,.slice none 0 0] 28 (0,0))):=⟨by rw [← hq_];exact (bl_ Ac)⟩;have n3_ : Aside0 (wr.heap[Af]? = some (.cells #[.int .i64 a0_0,.slice (some As) Aa.length co37] 28 (0,0))):=⟨by rw [← hq_];exact (bl_ Ad)⟩;have n4_ : Aside0 (Below w.heap.size w wr):=⟨by rw [← hq_];exact bb_⟩;clear Ae Ab Ac Ad HB hq_;have Ae:=n0_;have Ab:=n1_;have Ac:=n2_;have Ad:=n3_;have HB:=n4_;clear n0_ n1_ n2_ n3_ n4_;have Bt : wr.cell? ⟨Ak,0,none⟩ = some (.int .i64 a0_0):=blk_cell Ab.out 0;have Bu:=blk_frozen Ab.out 0;have Bw : wr.cell? ⟨Ak,1,none⟩ = some (.slice A0_1 l0_1.length c0_1):=blk_cell Ab.out 1;have Bx:=blk_frozen Ab.out 1;have Bz : wr.cell? ⟨An,0,none⟩ = some (.int .i64 0):=blk_cell Ac.out 0;have B0:=blk_frozen Ac.out 0;have B1 : wr.cell? ⟨An,1,none⟩ = some (.slice none 0 0):=blk_cell Ac.out 1;have B2:=blk_frozen Ac.out 1;have B4 : wr.cell? ⟨Af,0,none⟩ = some (.int .i64 a0_0):=blk_cell Ad.out 0;have B5:=blk_frozen Ad.out 0;have B6 : wr.cell? ⟨Af,1,none⟩ = some (.slice (some As) Aa.length co37):=blk_cell Ad.out 1;have B7:=blk_frozen Ad.out 1))))
             replace Ae:=A_ (Kd.R_drew Ae.out);replace Ab:=A_ (blk_drew Ab.out);replace Ac:=A_ (blk_drew Ac.out);replace Ad:=A_ (blk_drew Ad.out);replace HB:=A_ (below_drew1 HB.out);have Be : 0 ≤ (x26_2 : Int):=of_decide_eq_true (by first|(with_reducible assumption)|assumption);have Bf : x26_2 < (Aa.length : Int):=of_decide_eq_true (by first|(with_reducible assumption)|assumption);obtain ⟨Bq,B8,Ax⟩:=Kd.at_int (Kd.R_reads' Ae.out).2.2 x26_2 Be Bf;obtain rfl : As = Bq:=(by injection B8);replace Be:=eq_true Be;replace Bf:=eq_true Bf;have Bg : 0 ≤ (x20_1 : Int):=of_decide_eq_true (by first|(with_reducible assumption)|assumption);have Bh : x20_1 < (Aa.length : Int):=of_decide_eq_true (by first|(with_reducible assumption)|assumption);obtain ⟨Br,Ca,Ay⟩:=Kd.at_int (Kd.R_reads' Ae.out).2.2 x20_1 Bg Bh;obtain rfl : As = Br:=(by injection Ca);replace Bg:=eq_true Bg;replace Bh:=eq_true Bh;have p33 : 0 ≤ (x26_2 : Int):=of_decide_eq_true (by first|(with_reducible assumption)|assumption);have q33 : (x26_2 : Int) < ((Aa.length : Int) : Int):=of_decide_eq_true (by first|(with_reducible assumption)|assumption);obtain ⟨go33,co33,eo33,gb33,gl33,cl33,HG33⟩:=Kd.R_form Ae.out (by omega);(first|cases eo33|(injection eo33 with ea_ en_ ec_;(first|subst ea_|(injection ea_ with ea_;subst ea_));subst ec_;clear en_))
             have GB33:=A_ gb33;have GG33:=A_ HG33;clear gb33 gl33 HG33;(first|simp only [add_plain] at Aw|skip)
             (first|simp only [add_plain] at Ax|skip)
             (first|simp only [add_plain] at Ay|skip)
             obtain ⟨hx33_0,hf33_0⟩:=Kd.R_celln 0 Ae.out (x26_2 : Int) p33 q33;replace p33:=eq_true p33;replace q33:=eq_true q33;have HP39:=Kd.R_putn Ae.out (x26_2 : Int) (Go.bits .or .i64 (rd Aa x26_2) (rd Aa x20_1));rw [← Bp.out] at HP39;have HQ39:=A_ HP39;clear HP39;refine start_ (n:=13) (S:=fun w'=>w'.cell? ⟨Af,0,none⟩ = some (.int .i64 a0_0) ∧ w'.cell? ⟨Af,1,none⟩ = some (.slice (some ⟨go33,0,none⟩) Aa.length co37) ∧ w'.cell? ⟨go33,(x26_2).toNat,none⟩ = some (.int .i64 (rd Aa x26_2)) ∧ w'.cell? ⟨go33,(x20_1).toNat,none⟩ = some (.int .i64 (rd Aa x20_1))) (ds:=[12]) #[F,F,F,F,F,F,F,F,F,F,F,F,F] (by kernel_rfl) rfl rfl ⟨blk_cell Ad.out 0,blk_cell Ad.out 1,Ax,Ay⟩ (fun hHeld=>?_);refine with_tabW Aae.tab11 Aae.bits11 (fun HT_ HW_=>?_)
             generalize wr.drew = w38 at Ae Ab Ac Ad HB GG33 HQ39 hf33_0 hx33_0 Aw Ax Ay hHeld ⊢
             refine pure_ (i:=0) (N:=some 36) (v:=?_) (a':=?_) #[T,F,F,F,F,F,F,F,F,F,F,F,F] rfl rfl (any_of HT_.out (by kernel_rfl)) (fun _ _ _ h=>h) (Or.inl ⟨by rfl,?_⟩) ?_ ?_
             rotate_left;·intro w';go_simp;with_reducible rfl
             rotate_left;·simp only [Act.put,L_,M_,N_,i64_w,i32_w];rfl
             refine pure_ (i:=2) (N:=some 38) (v:=?_) (a':=?_) #[T,F,T,F,F,F,F,F,F,F,F,F,F] rfl rfl (any_of HT_.out (by kernel_rfl)) (fun _ _ _ h=>h) (Or.inl ⟨by rfl,?_⟩) ?_ ?_
             rotate_left;·intro w';go_simp;with_reducible rfl
             rotate_left;·simp only [Act.put,L_,M_,N_,i64_w,i32_w];rfl
             refine pure_ (i:=5) (N:=some 41) (v:=?_) (a':=?_) #[T,F,T,F,F,T,F,F,F,F,F,F,F] rfl rfl (any_of HT_.out (by kernel_rfl)) (fun _ _ _ h=>h) (Or.inl ⟨by rfl,?_⟩) ?_ ?_
             rotate_left;·intro w';go_simp;with_reducible rfl
             rotate_left;·simp only [Act.put,L_,M_,N_,i64_w,i32_w];rfl
             refine pure_ (i:=7) (N:=some 43) (v:=?_) (a':=?_) #[T,F,T,F,F,T,F,T,F,F,F,F,F] rfl rfl (any_of HT_.out (by kernel_rfl)) (fun _ _ _ h=>h) (Or.inl ⟨by rfl,?_⟩) ?_ ?_
             rotate_left;·intro w';go_simp;with_reducible rfl
             rotate_left;·simp only [Act.put,L_,M_,N_,i64_w,i32_w];rfl
             refine take_ (i:=1) (N:=some 37) (v:=?_) (a':=?_) #[T,T,T,F,F,T,F,T,F,F,F,F,F] rfl rfl (take_ofW HT_.out HW_.out (by kernel_rfl)) (fun _ _ _ h=>h) (Or.inl ⟨by rfl,?_⟩) hHeld ?_ ?_
             rotate_left
             ·rintro w' ⟨s0,s1,s2,s3⟩
              go_simp
              with_reducible rfl
             rotate_left;·simp only [Act.put,L_,M_,N_,i64_w,i32_w];rfl
             refine pure_ (i:=3) (N:=some 39) (v:=?_) (a':=?_) #[T,T,T,T,F,T,F,T,F,F,F,F,F] rfl rfl (any_of HT_.out (by kernel_rfl)) (fun _ _ _ h=>h) (Or.inl ⟨by rfl,?_⟩) ?_ ?_
             rotate_left;·intro w';go_simp;with_reducible rfl
             rotate_left;·simp only [Act.put,L_,M_,N_,i64_w,i32_w];rfl
             refine take_ (i:=4) (N:=some 40) (v:=?_) (a':=?_) #[T,T,T,T,T,T,F,T,F,F,F,F,F] rfl rfl (take_ofW HT_.out HW_.out (by kernel_rfl)) (fun _ _ _ h=>h) (Or.inl ⟨by rfl,?_⟩) hHeld ?_ ?_
             rotate_left
             ·rintro w' ⟨s0,s1,s2,s3⟩
              go_simp
              with_reducible rfl
             rotate_left;·simp only [Act.put,L_,M_,N_,i64_w,i32_w];rfl
             refine take_ (i:=6) (N:=some 42) (v:=?_) (a':=?_) #[T,T,T,T,T,T,T,T,F,F,F,F,F] rfl rfl (take_ofW HT_.out HW_.out (by kernel_rfl)) (fun _ _ _ h=>h) (Or.inl ⟨by rfl,?_⟩) hHeld ?_ ?_
             rotate_left
             ·rintro w' ⟨s0,s1,s2,s3⟩
              go_simp
              with_reducible rfl
             rotate_left;·simp only [Act.put,L_,M_,N_,i64_w,i32_w];rfl
             refine pure_ (i:=8) (N:=some 44) (v:=?_) (a':=?_) #[T,T,T,T,T,T,T,T,T,F,F,F,F] rfl rfl (any_of HT_.out (by kernel_rfl)) (fun _ _ _ h=>h) (Or.inl ⟨by rfl,?_⟩) ?_ ?_
             rotate_left;·intro w';go_simp;with_reducible rfl
             rotate_left;·simp only [Act.put,L_,M_,N_,i64_w,i32_w];rfl
             refine take_ (i:=9) (N:=some 45) (v:=?_) (a':=?_) #[T,T,T,T,T,T,T,T,T,T,F,F,F] rfl rfl (take_ofW HT_.out HW_.out (by kernel_rfl)) (fun _ _ _ h=>h) (Or.inl ⟨by rfl,?_⟩) hHeld ?_ ?_
             rotate_left
             ·rintro w' ⟨s0,s1,s2,s3⟩
              go_simp
              with_reducible rfl
             rotate_left;·simp only [Act.put,L_,M_,N_,i64_w,i32_w];rfl
             refine pure_ (i:=10) (N:=some 46) (v:=?_) (a':=?_) #[T,T,T,T,T,T,T,T,T,T,T,F,F] rfl rfl (any_of HT_.out (by kernel_rfl)) (fun _ _ _ h=>h) (Or.inl ⟨by rfl,?_⟩) ?_ ?_
             rotate_left;·intro w';go_simp;with_reducible rfl
             rotate_left;·simp only [Act.put,L_,M_,N_,i64_w,i32_w];rfl
             refine pure_ (i:=11) (N:=some 47) (v:=?_) (a':=?_) #[T,T,T,T,T,T,T,T,T,T,T,T,F] rfl rfl (any_of HT_.out (by kernel_rfl)) (fun _ _ _ h=>h) (Or.inl ⟨by rfl,?_⟩) ?_ ?_
             rotate_left;·intro w';go_simp;with_reducible rfl
             rotate_left;·simp only [Act.put,L_,M_,N_,i64_w,i32_w];rfl
             refine last_ (i:=12) (N:=none) #[T,T,T,T,T,T,T,T,T,T,T,T,T] rfl rfl (one_of HT_.out (by kernel_rfl)) (by decide) (fun K hK=>?_)
             refine skip_ (w1:=?_) (by rfl) rfl ?_ ?_
             rotate_left
             ·go_simp
              rfl
             refine hK.out _ _ ?_
             clear hK K;refine done_ (done_of HT_.out (by kernel_rfl)) ?_
             try go_wp2
             go_roundg k2
             case measure=>have:=HK1.out;have:=HK2.out;omega
             case rel=>exact ⟨(wrap64 (x26_2 + 1)),(Bk),(.slice (some ⟨go33,0,none⟩) Aa.length co37),(by first|rfl|(simp;done)|(simp [*];done)),H',⟨by have:=HK1.out;have:=HK2.out;omega⟩,⟨rl_ HQ39⟩,⟨by (with_reducible repeat (first|refine blk_drewN ?_ _|refine blk_drew ?_|refine blk_alloc ?_ _));refine blk_far ?_ (by have h_:=Kd.R_ne Ae.out Ab.out (by decide);intro e_;exact h_ (by rw [e_];rfl)) _;(with_reducible repeat (first|refine blk_drewN ?_ _|refine blk_drew ?_|refine blk_alloc ?_ _));exact Ab.out⟩,⟨by (with_reducible repeat (first|refine blk_drewN ?_ _|refine blk_drew ?_|refine blk_alloc ?_ _));refine blk_far ?_ (by have h_:=Kd.R_ne Ae.out Ac.out (by decide);intro e_;exact h_ (by rw [e_];rfl)) _;(with_reducible repeat (first|refine blk_drewN ?_ _|refine blk_drew ?_|refine blk_alloc ?_ _));exact Ac.out⟩,⟨by (with_reducible repeat (first|refine blk_drewN ?_ _|refine blk_drew ?_|refine blk_alloc ?_ _));refine blk_far ?_ (by have h_:=Kd.R_ne Ae.out Ad.out (by decide);intro e_;exact h_ (by rw [e_];rfl)) _;(with_reducible repeat (first|refine blk_drewN ?_ _|refine blk_drew ?_|refine blk_alloc ?_ _));exact Ad.out⟩,⟨by repeat (first|(with_reducible first|exact HB.out|apply below_alloc|apply pw_below_drewN|apply below_drew1|refine below_set ?_ GB33.out|refine below_set ?_ (Aside0.out (by assumption)))|exact HB.out)⟩⟩
            ·rw [if_neg c32] at H;exact absurd H (by simp)
           ·rw [if_neg c31] at H;exact absurd H (by simp)
          ·replace c30:=Bool.eq_false_iff.mpr c30;subst c30;have H1 : (Aae.l1 k2 x20_1 (Aj.length : Int) x20_1 (Ah.length : Int) (wrap64 (x26_2 + 1)) a0_0 Aa) = some (r1,r2,r3):=by rw [if_neg (show ¬ (false = true) by decide)] at H;exact H
           clear H;have H:=H1;clear H1;have H':=A_ H;clear H;have hnb40:=Al.out;have hnc40:=Ag.out;have hnb41:=Am.out;have hnc41:=Ai.out;have hcz42_0 : wr.cell? ⟨Af,0,none⟩ = some (.int .i64 a0_0):=blk_cell Ad.out 0;have hcz42_1 : wr.cell? ⟨Af,1,none⟩ = some (Ao):=blk_cell Ad.out 1;have hfz42_0:=blk_frozen Ad.out 0;have hfz42_1:=blk_frozen Ad.out 1;obtain ⟨Ao43,co43,eo43⟩:=Kd.R_slice Ae.out;subst eo43;have At : 0 ≤ (x26_2 : Int):=of_decide_eq_true (by first|(with_reducible assumption)|assumption);have Au : x26_2 < (Aa.length : Int):=of_decide_eq_true (by first|(with_reducible assumption)|assumption);obtain ⟨As,Bd,Aw⟩:=Kd.at_int (Kd.R_reads' Ae.out).2.2 x26_2 At Au;cases Bd
           replace At:=eq_true At;replace Au:=eq_true Au;go_wp2_with (first|((with_reducible refine gate_callee (f:=192) rfl ?_);refine goesL_ (some 35) rfl rfl Tryd.func192 (by kernel_rfl) rfl #[.int .i64 (rd Aa x26_2),.int .i64 x20_1] rfl au_ ?_;(with_reducible refine (Aap.calls (rd Aa x26_2) x20_1 false _ A29.out).mono ?_);rintro e w' ⟨rfl,⟨nd,rfl⟩⟩;refine ⟨_,rfl,?_⟩))
           go_roundg k2
           case measure=>have:=HK1.out;have:=HK2.out;omega
           case rel=>exact ⟨(wrap64 (x26_2 + 1)),(Aa),(.slice (some As) Aa.length co43),(by first|rfl|(simp;done)|(simp [*];done)),H',⟨by have:=HK1.out;have:=HK2.out;omega⟩,⟨rl_ Ae⟩,⟨bl_ Ab⟩,⟨bl_ Ac⟩,⟨bl_ Ad⟩,⟨bb_⟩⟩
         ·rw [if_neg c28] at H;exact absurd H (by simp)
        ·rw [if_neg c27] at H;exact absurd H (by simp)
       ·rw [if_neg c26] at H;have c26b0 : decide (x26_2 < (Ah.length : Int)) = false:=decide_eq_false c26;clear c26;have H':=A_ H;clear H;go_wp2
        go_roundg k2
        case measure=>have:=HK1.out;have:=HK2.out;omega
        case rel=>exact ⟨(wrap64 (x20_1 + 1)),(Aa),(Ao),(by first|rfl|(simp;done)|(simp [*];done)),H',⟨by have:=HK1.out;have:=HK2.out;omega⟩,⟨rl_ Ae⟩,⟨bl_ Ab⟩,⟨bl_ Ac⟩,⟨bl_ Ad⟩,⟨bb_⟩⟩
    ·rw [if_neg c21] at H;have c21b0 : decide (x20_1 < (Aj.length : Int)) = false:=decide_eq_false c21;clear c21;simp only [Option.some.injEq,Prod.mk.injEq] at H
     obtain ⟨rfl,rfl,rfl⟩:=H;have hnb44:=Al.out;have hnc44:=Ag.out;have hnb45:=Am.out;have hnc45:=Ai.out;have hcz46_0 : wr.cell? ⟨Af,0,none⟩ = some (.int .i64 a0_0):=blk_cell Ad.out 0;have hcz46_1 : wr.cell? ⟨Af,1,none⟩ = some (Ao):=blk_cell Ad.out 1;have hfz46_0:=blk_frozen Ad.out 0;have hfz46_1:=blk_frozen Ad.out 1;have hnb47:=Ar.out;have hnc47:=Aq.out;have hcz48_0 : wr.cell? ⟨An,0,none⟩ = some (.int .i64 0):=blk_cell Ac.out 0;have hcz48_1 : wr.cell? ⟨An,1,none⟩ = some (.slice none 0 0):=blk_cell Ac.out 1;have hfz48_0:=blk_frozen Ac.out 0;have hfz48_1:=blk_frozen Ac.out 1;obtain ⟨Ao49,co49,eo49⟩:=Kd.R_slice Ae.out;subst eo49;go_wp2
     refine bodyPost_ret (results_ct rfl _ _ An 28 #[.int .i64 a0_0,.slice Ao49 Ah.length co49] (0,0) _ rfl (by (with_reducible repeat (first|refine blk_drewN ?_ _|refine blk_drew ?_|refine blk_alloc ?_ _));refine blk_put (cs:=#[.int .i64 a0_0,.slice none 0 0]) ?_ 1 _ rfl;(with_reducible repeat (first|refine blk_drewN ?_ _|refine blk_drew ?_|refine blk_alloc ?_ _));refine blk_put (cs:=#[.int .i64 0,.slice none 0 0]) ?_ 0 _ rfl;(with_reducible repeat (first|refine blk_drewN ?_ _|refine blk_drew ?_|refine blk_alloc ?_ _));exact Ac.out) Tryd.underlying28 rfl (by kernel_rfl)) rfl ?_
     exact ⟨_,by first|rfl|(simp [errW_none,errW_some] <;> rfl)|(simp [*,errW_none,errW_some] <;> rfl),rq_ (Kd.R_mono (Kd.R_far (p:=⟨An,1,none⟩) (Kd.R_far (p:=⟨An,0,none⟩) (Kd.R_types Ae.out Ac.out (by decide)) (fun _ hk=>hk.2) (.int .i64 a0_0)) (fun _ hk=>hk.2) (.slice Ao49 Ah.length co49)) (fun _ hk=>trivial)),bb_⟩
 ·replace c3:=Bool.eq_false_iff.mpr c3;subst c3;have H1 : (some (0,([] : List Int),false)) = some (r1,r2,r3):=by rw [if_neg (show ¬ (false = true) by decide)] at H;exact H
  clear H;have H:=H1;clear H1;simp only [Option.some.injEq,Prod.mk.injEq] at H
  obtain ⟨rfl,rfl,rfl⟩:=H;go_enter Tryd.func239,Tryd.ntmps239
  go_wp2_with (first|((with_reducible refine gate_dst (N:=1) rfl ?_);refine box_event ?hg (N:=1) ?hd (cs:=#[.int .i64 a0_0,.slice A0_1 l0_1.length c0_1]) (t:=28) ?hr ?_;(case hd=>rfl);(case hg=>rfl);(case hr=>go_simp;try rfl);intro Ak hg w50 hbox hb;have Ab:=A_ (hbox);have Bl:=A_ (gw_ (w:=w) hg bb_);have Bm:=A_ (gw_ (w:=w) hg bb_);replace HB:=A_ (below_step bb_ hb);clear hb hbox hg)|((with_reducible refine gate_dst (N:=2) rfl ?_);refine box_event ?hg (N:=2) ?hd (cs:=#[.int .i64 0,.slice none 0 0]) (t:=28) ?hr ?_;(case hd=>rfl);(case hg=>rfl);(case hr=>go_simp;try rfl);intro An hg w51 hbox hb;have Ac:=A_ (hbox);have Bn:=A_ (gw_ (w:=w) hg bb_);have Bo:=A_ (gw_ (w:=w) hg bb_);replace HB:=A_ (below_step bb_ hb);have Aq:=A_ (nl_ hg Ab);have Ar:=A_ (ng_ hg Ab);replace Ab:=bz Ab hb;clear hb hbox hg;have hnb52:=Aq.out;have hnc52:=Ar.out;have hcz53_0 : w51.cell? ⟨Ak,0,none⟩ = some (.int .i64 a0_0):=blk_cell Ab.out 0;have hcz53_1 : w51.cell? ⟨Ak,1,none⟩ = some (.slice A0_1 l0_1.length c0_1):=blk_cell Ab.out 1;have hfz53_0:=blk_frozen Ab.out 0;have hfz53_1:=blk_frozen Ab.out 1)|((with_reducible refine gate_callee (f:=207) rfl ?_);refine goesL_ (some 8) rfl rfl Tryd.func207 (by kernel_rfl) rfl #[.agg #[.int .i64 a0_0,.slice A0_1 l0_1.length c0_1]] rfl au_ ?_;(with_reducible refine (Abi.calls k a0_0 _ _ l0_1 false _ ?side1 ?side2 A2.out).mono ?_);(case side1=>exact cl_ (Kd.C_below HR0_1.out HB.out));(case side2=>exact HC0_1.out);rintro e w54 ⟨rfl,hb⟩;refine ⟨_,rfl,?_⟩;replace Ab:=bz Ab hb;replace Ac:=bz Ac hb;replace HB:=A_ (below_step bb_ hb);(try clear hb);(try clear hb2);(try clear hk);(try clear hi);have hcz55_0 : w54.cell? ⟨An,0,none⟩ = some (.int .i64 0):=blk_cell Ac.out 0;have hcz55_1 : w54.cell? ⟨An,1,none⟩ = some (.slice none 0 0):=blk_cell Ac.out 1;have hfz55_0:=blk_frozen Ac.out 0;have hfz55_1:=blk_frozen Ac.out 1))
  refine bodyPost_ret (results_ct rfl _ _ An 28 #[.int .i64 0,.slice none 0 0] (0,0) _ rfl (by (with_reducible repeat (first|refine blk_drewN ?_ _|refine blk_drew ?_|refine blk_alloc ?_ _));refine blk_put (cs:=#[.int .i64 0,.slice none 0 0]) ?_ 1 _ rfl;(with_reducible repeat (first|refine blk_drewN ?_ _|refine blk_drew ?_|refine blk_alloc ?_ _));refine blk_put (cs:=#[.int .i64 0,.slice none 0 0]) ?_ 0 _ rfl;(with_reducible repeat (first|refine blk_drewN ?_ _|refine blk_drew ?_|refine blk_alloc ?_ _));exact Ac.out) Tryd.underlying28 rfl (by kernel_rfl)) rfl ?_
  exact ⟨_,by first|rfl|(simp [errW_none,errW_some] <;> rfl)|(simp [*,errW_none,errW_some] <;> rfl),by first|exact Kd.R_nil _ _ _ _ _|exact Kd.N_nil _ _ _ _ _|exact Kd.V_nil _ _ _ _ _|exact Kd.Q_nil _ _ _ _ _|exact Kd.S_nil _ _ _ _ _,bb_⟩
end Go.Proofs.YtimjblnglhmakaaDoor.P

