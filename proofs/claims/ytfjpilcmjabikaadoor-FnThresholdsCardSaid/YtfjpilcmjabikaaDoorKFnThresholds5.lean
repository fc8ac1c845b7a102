/- A part of the proof that the law FnThresholds holds at every input. Written by wip/pack.py: the kit's printed words that are used, the functions' walks as wip/gen.py prints them, and hand proofs. -/
import Derived.Test.YtfjpilcmjabikaaDoorKFnThresholds4
namespace Go.Proofs.YtfjpilcmjabikaaDoor.P
open Go.RowKit Go.Proofs.YtfjpilcmjabikaaDoorW.PrintWords Go.Proofs.YtfjpilcmjabikaaDoorW.PrintLast Go.Proofs.YtfjpilcmjabikaaDoorW.PrintMore
open Bool renaming true → T, false → F
open List renaming setIfInBounds_toArray → L_, set_cons_zero → M_, set_cons_succ → N_, map_toArray → P_, map_cons → Q_, map_nil → R_, length_drop → S_, length_take → U_
open Aside0 renaming mk → A_
attribute [local go_sem] max2_int min2_int max_two min_two max_three min_three max_four min_four
set_option linter.unusedVariables false
set_option linter.unusedSimpArgs false
attribute [local go_sem] fldOrder_0 fldOrder_1
mutual
def Aac.j0 : Nat → Int → Bool → Bool → Bool → Int → List Int → Option (Bool)
 | 0,_,_,_,_,_,_=>none
 | k + 1,x6,x7,x10,x84,x1027000,x1027001=>if x84 = true then (some false) else ((Aax.f k x1027000 x1027001).bind fun bt1036=>((Aae.f k x1027000 x1027001).bind fun bt1040=>(if (bt1036.2 != bt1040.2) = true then (Aac.j1 k x6 x7 bt1036.1 bt1036.2 true x1027000 x1027001) else ((Abg.f k bt1036.1 bt1040.1).bind fun t1044=>(if t1044 = true then (if bt1036.2 = true then (Aac.j1 k x6 x7 bt1036.1 bt1036.2 x10 x1027000 x1027001) else (Aac.j1 k x6 x7 bt1036.1 bt1036.2 false x1027000 x1027001)) else (Aac.j1 k x6 x7 bt1036.1 bt1036.2 true x1027000 x1027001))))))
def Aac.j1 : Nat → Int → Bool → List Int → Bool → Bool → Int → List Int → Option (Bool)
 | 0,_,_,_,_,_,_,_=>none
 | k + 1,x6,x7,x14,x15,x109,x1027000,x1027001=>if x109 = true then (some false) else (if x15 = true then (if 0 < (x14.length : Int) then (if 1 < (x14.length : Int) then ((Abw.f k x1027000 x1027001 (rd x14 0) (rd x14 1)).bind fun bt1047=>(if 2 < (x14.length : Int) then ((Abw.f k x1027000 x1027001 (rd x14 1) (rd x14 2)).bind fun bt1051=>(if bt1047.2 = true then (if bt1051.2 = true then (if bt1047.1 = true then (Aac.j2 k x6 x7 x14 (!bt1051.1) x1027000 x1027001) else (Aac.j2 k x6 x7 x14 true x1027000 x1027001)) else (Aac.j2 k x6 x7 x14 true x1027000 x1027001)) else (Aac.j2 k x6 x7 x14 true x1027000 x1027001))) else (none))) else (none)) else (none)) else (Aac.j4 k x6 x7 x1027000 x1027001))
def Aac.j4 : Nat → Int → Bool → Int → List Int → Option (Bool)
 | 0,_,_,_,_=>none
 | k + 1,x6,x7,x1027000,x1027001=>if x7 = true then (Aac.l1 k x6 1 x1027000 x1027001) else (some true)
def Aac.l1 : Nat → Int → Int → Int → List Int → Option (Bool)
 | 0,_,_,_,_=>none
 | k + 1,x6,x26,x1027000,x1027001=>if x26 ≤ 10 then ((Aba.f k x1027000 x1027001 x26).bind fun bt1061=>(if (bt1061.2 != (decide (x26 ≥ x6))) = true then (some false) else (if bt1061.2 = true then ((Aby.f k x1027000 x1027001 x26 bt1061.1).bind fun bt1065=>(if bt1065.2 = true then (if bt1065.1 = true then (Aac.l1 k x6 (wrap64 (x26 + 1)) x1027000 x1027001) else (some false)) else (some false))) else (Aac.l1 k x6 (wrap64 (x26 + 1)) x1027000 x1027001)))) else (some true)
def Aac.j2 : Nat → Int → Bool → List Int → Bool → Int → List Int → Option (Bool)
 | 0,_,_,_,_,_,_=>none
 | k + 1,x6,x7,x14,x146,x1027000,x1027001=>if x146 = true then (some false) else (if 3 ≤ (x14.length : Int) then ((some (x14.take 3 : List Int)).bind fun y1053=>(Aac.l0 k x6 x7 x14 y1053 (y1053.length : Int) 0 x1027000 x1027001)) else (none))
def Aac.l0 : Nat → Int → Bool → List Int → List Int → Int → Int → Int → List Int → Option (Bool)
 | 0,_,_,_,_,_,_,_,_=>none
 | k + 1,x6,x7,x14,x148,x149,x150,x1027000,x1027001=>if x150 < x149 then (if 0 ≤ x150 then (if x150 < (x148.length : Int) then ((Abn.f k x1027000 x1027001 (rd x148 x150)).bind fun bt1058=>(if bt1058.2 = true then (if 3 < (x14.length : Int) then (if 0 ≤ (rd x14 3) then (if (Int.tmod (shr .i64 bt1058.1 (rd x14 3)) 2) = 1 then (Aac.l0 k x6 x7 x14 x148 x149 (wrap64 (x150 + 1)) x1027000 x1027001) else (some false)) else (none)) else (none)) else (some false))) else (none)) else (none)) else (Aac.j4 k x6 x7 x1027000 x1027001)
end
def Aac.f (k : Nat) (l0 : List Int) (l1 : List Int) : Option (Bool) := (Ab4.f l0 l1).bind fun t1021 => (if t1021 = true then (some true) else ((Abl.f k l0).bind fun bt1022 => ((Aar.f k bt1022.1 bt1022.2).bind fun bt1027 => ((Aau.f k bt1022.1 bt1022.2).bind fun bt1029 => ((Abt.f k bt1022.1 bt1022.2).bind fun bt1031 => ((Abu.f k bt1022.1 bt1022.2).bind fun bt1033 => (if (bt1027.2 != bt1029.2) = true then (Aac.j0 k bt1027.1 bt1027.2 bt1031.1 true bt1022.1 bt1022.2) else (if bt1027.1 = bt1029.1 then (if (bt1031.2 != bt1033.2) = true then (Aac.j0 k bt1027.1 bt1027.2 bt1031.1 true bt1022.1 bt1022.2) else (if (bt1031.1 != bt1033.1) = true then (Aac.j0 k bt1027.1 bt1027.2 bt1031.1 true bt1022.1 bt1022.2) else (if (bt1027.2 != bt1031.1) = true then (Aac.j0 k bt1027.1 bt1027.2 bt1031.1 true bt1022.1 bt1022.2) else ((Aap.f k bt1022.1 bt1022.2).bind fun t1035 => (Aac.j0 k bt1027.1 bt1027.2 bt1031.1 (bt1031.2 != t1035) bt1022.1 bt1022.2))))) else (Aac.j0 k bt1027.1 bt1027.2 bt1031.1 true bt1022.1 bt1022.2)))))))))
def Aac.T15 : Bool × List (List Nat × List Nat) := (true, [([], []), ([], []), ([1], [1]), ([2], [2]), ([], []), ([4], [4]), ([5], [5]), ([0, 3, 6], [0, 3, 6]), ([7], [7]), ([8], [8]), ([8], [8]), ([9, 7, 0, 1, 2, 3, 4, 5, 6, 7, 8, 9], [9]), ([10, 11, 0, 1, 2, 3, 4, 5, 6, 7, 8, 9, 10, 11], [10])])
def Aac.B15 : List Nat := [0, 0, 2, 6, 0, 16, 48, 127, 255, 511, 511, 1023, 4095]
theorem Aac.tab15 : rtab .any (opsOf Tryd.f6 15) = Aac.T15:=by kernel_rfl
theorem Aac.bits15 : waitsOk Aac.T15.2 Aac.B15 = true:=by kernel_rfl
def Aac.T16 : Bool × List (List Nat × List Nat) := (true, [([], []), ([], []), ([1], [1]), ([2], [2]), ([], []), ([4], [4]), ([5], [5]), ([0, 3, 6], [0, 3, 6]), ([7], [7]), ([8], [8]), ([8], [8]), ([9, 7, 0, 1, 2, 3, 4, 5, 6, 7, 8, 9], [9]), ([10, 11, 0, 1, 2, 3, 4, 5, 6, 7, 8, 9, 10, 11], [10])])
def Aac.B16 : List Nat := [0, 0, 2, 6, 0, 16, 48, 127, 255, 511, 511, 1023, 4095]
theorem Aac.tab16 : rtab .any (opsOf Tryd.f6 16) = Aac.T16:=by kernel_rfl
theorem Aac.bits16 : waitsOk Aac.T16.2 Aac.B16 = true:=by kernel_rfl
set_option maxHeartbeats 8000000 in
set_option maxRecDepth 100000 in
def Aac.calls.part : PSigma fun R1_ : Prop => PSigma fun R2_ : Prop => (Unit → R1_) → (Unit → R2_) → ∀ (k : Nat) (A0 : Option Addr) (c0 : Nat) (l0 : List Int) (A1 : Option Addr) (c1 : Nat) (l1 : List Int) (r : Bool) (w : World) (hr0 : Kd.C (Kd.int .u8) w A0 l0.length l0) (hc0 : l0.length ≤ c0) (hr1 : Kd.C (Kd.int .u8) w A1 l1.length l1) (hc1 : l1.length ≤ c1) (hT : TabOK w) (h : Aac.f k l0 l1 = some r),
 Calls Tryd.prog 6 #[.slice A0 l0.length c0,.slice A1 l1.length c1] w fun e w'=>e = .returned (.bool r) ∧ Below w.heap.size w w' :=
 ⟨_,_,fun hR1_ hR2_=>by
 intro k A0 c0 l0 A1 c1 l1 r w hr0 hc0 hr1 hc1 hT h
 have hu26:=Tryd.underlying26;have HT:=A_ hT;clear hT;have HR0:=A_ hr0;have HC0:=A_ hc0;clear hr0 hc0;have HR1:=A_ hr1;have HC1:=A_ hc1;clear hr1 hc1;have HB:=A_ (Below.refl w.heap.size w);have H : ((Ab4.f l0 l1).bind fun t1021=>(if t1021 = true then (some true) else ((Abl.f k l0).bind fun bt1022=>((Aar.f k bt1022.1 bt1022.2).bind fun bt1027=>((Aau.f k bt1022.1 bt1022.2).bind fun bt1029=>((Abt.f k bt1022.1 bt1022.2).bind fun bt1031=>((Abu.f k bt1022.1 bt1022.2).bind fun bt1033=>(if (bt1027.2 != bt1029.2) = true then (Aac.j0 k bt1027.1 bt1027.2 bt1031.1 true bt1022.1 bt1022.2) else (if bt1027.1 = bt1029.1 then (if (bt1031.2 != bt1033.2) = true then (Aac.j0 k bt1027.1 bt1027.2 bt1031.1 true bt1022.1 bt1022.2) else (if (bt1031.1 != bt1033.1) = true then (Aac.j0 k bt1027.1 bt1027.2 bt1031.1 true bt1022.1 bt1022.2) else (if (bt1027.2 != bt1031.1) = true then (Aac.j0 k bt1027.1 bt1027.2 bt1031.1 true bt1022.1 bt1022.2) else ((Aap.f k bt1022.1 bt1022.2).bind fun t1035=>(Aac.j0 k bt1027.1 bt1027.2 bt1031.1 (bt1031.2 != t1035) bt1022.1 bt1022.2))))) else (Aac.j0 k bt1027.1 bt1027.2 bt1031.1 true bt1022.1 bt1022.2)))))))))) = some r:=h;clear h;replace H:=Option.bind_eq_some_iff.mp H;obtain ⟨t1021,A30,H⟩:=H;(try dsimp only at H);have A3:=A_ A30;clear A30;by_cases c4 : t1021 = true
 ·subst c4;rw [if_pos rfl] at H;obtain rfl:=Option.some.inj H;go_enter Tryd.func6,Tryd.ntmps6
  go_wp2_with (first|((with_reducible refine gate_callee (f:=9) rfl ?_);refine goesL_ (some 33) rfl rfl Tryd.func9 (by kernel_rfl) rfl #[.slice A0 l0.length c0,.slice A1 l1.length c1] rfl au_ ?_;(with_reducible refine (Ab4.calls _ _ l0 _ _ l1 true _ ?side1 ?side2 ?side3 ?side4 A3.1).mono ?_);(case side1=>repeat (first|exact HR0.1|(with_reducible refine Kd.C_alloc ?_ _)|(with_reducible refine Kd.C_drewN ?_ _)|(with_reducible refine Kd.C_drew ?_)));(case side2=>exact HC0.1);(case side3=>repeat (first|exact HR1.1|(with_reducible refine Kd.C_alloc ?_ _)|(with_reducible refine Kd.C_drewN ?_ _)|(with_reducible refine Kd.C_drew ?_)));(case side4=>exact HC1.1);rintro e w' ⟨rfl,⟨nd,rfl⟩⟩;refine ⟨_,rfl,?_⟩))
  go_ret
  exact ⟨by first|rfl|(simp [errW_none,errW_some] <;> rfl)|(simp [*,errW_none,errW_some] <;> rfl),bb_⟩
 ·replace c4:=Bool.eq_false_iff.mpr c4;subst c4;rw [if_neg nf_] at H;replace H:=Option.bind_eq_some_iff.mp H;obtain ⟨⟨t1022,t1023⟩,A50,H⟩:=H;(try dsimp only at H);have A5:=A_ A50;clear A50;replace H:=Option.bind_eq_some_iff.mp H;obtain ⟨⟨t1027,t1028⟩,A60,H⟩:=H;(try dsimp only at H);have A6:=A_ A60;clear A60;replace H:=Option.bind_eq_some_iff.mp H;obtain ⟨⟨t1029,t1030⟩,A70,H⟩:=H;(try dsimp only at H);have A7:=A_ A70;clear A70;replace H:=Option.bind_eq_some_iff.mp H;obtain ⟨⟨t1031,t1032⟩,A80,H⟩:=H;(try dsimp only at H);have A8:=A_ A80;clear A80;replace H:=Option.bind_eq_some_iff.mp H;obtain ⟨⟨t1033,t1034⟩,A90,H⟩:=H;(try dsimp only at H);have A9:=A_ A90;clear A90;have HC10:=A_ H;clear H;go_enter Tryd.func6,Tryd.ntmps6
  go_upto_region 8 with (first|((with_reducible refine gate_callee (f:=9) rfl ?_);refine goesL_ (some 33) rfl rfl Tryd.func9 (by kernel_rfl) rfl #[.slice A0 l0.length c0,.slice A1 l1.length c1] rfl au_ ?_;(with_reducible refine (Ab4.calls _ _ l0 _ _ l1 false _ ?side1 ?side2 ?side3 ?side4 A3.1).mono ?_);(case side1=>repeat (first|exact HR0.1|(with_reducible refine Kd.C_alloc ?_ _)|(with_reducible refine Kd.C_drewN ?_ _)|(with_reducible refine Kd.C_drew ?_)));(case side2=>exact HC0.1);(case side3=>repeat (first|exact HR1.1|(with_reducible refine Kd.C_alloc ?_ _)|(with_reducible refine Kd.C_drewN ?_ _)|(with_reducible refine Kd.C_drew ?_)));(case side4=>exact HC1.1);rintro e w' ⟨rfl,⟨nd,rfl⟩⟩;refine ⟨_,rfl,?_⟩)|((with_reducible refine gate_callee (f:=30) rfl ?_);refine goesL_ (some 35) rfl rfl Tryd.func30 (by kernel_rfl) rfl #[.slice A0 l0.length c0] rfl au_ ?_;(with_reducible refine (Abl.calls k _ _ l0 t1022 t1023 _ ?side1 ?side2 A5.1).mono ?_);(case side1=>repeat (first|exact HR0.1|(with_reducible refine Kd.C_alloc ?_ _)|(with_reducible refine Kd.C_drewN ?_ _)|(with_reducible refine Kd.C_drew ?_)));(case side2=>exact HC0.1);rintro e w11 ⟨v1024,rfl,ho0,hb⟩;refine ⟨_,rfl,?_⟩;have n0_:=A_ (Kd.R_lower ho0 (below_size bb_));have n1_:=A_ (below_step bb_ hb);clear HB;have HO1025:=n0_;have HB:=n1_;clear n0_ n1_;(try clear hb);(try clear hb2);(try clear hk);(try clear hi);(try clear ho0))|((with_reducible refine gate_dst (N:=5) rfl ?_);refine box_event ?hg (N:=5) ?hd (cs:=#[.int .i64 0,.slice none 0 0]) (t:=26) ?hr ?_;(case hd=>rfl);(case hg=>rfl);(case hr=>go_simp;try rfl);intro gb1026 hg w12 hbox hb;have n0_:=rb_ HO1025 hb;have n1_:=A_ (below_step bb_ hb);have n2_:=A_ (hbox);have n3_:=A_ (gw_ (w:=w) hg bb_);have n4_:=A_ (gw_ (w:=w) hg bb_);clear HO1025;clear HB;have HO1025:=n0_;have HB:=n1_;have BK1026:=n2_;have GW1026:=n3_;have GE1026:=n4_;clear n0_ n1_ n2_ n3_ n4_;clear hb hbox hg;obtain ⟨Z,Z,Z,Z⟩:=o2_ BK1026.1;obtain ⟨Ao14,co14,eo14⟩:=Kd.R_slice HO1025.1;subst eo14)|((with_reducible refine gate_callee (f:=31) rfl ?_);refine goesL_ (some 38) rfl rfl Tryd.func31 (by kernel_rfl) rfl #[.agg #[.int .i64 t1022,.slice Ao14 t1023.length co14]] rfl au_ ?_;(with_reducible refine (Aar.calls k t1022 _ _ t1023 t1027 t1028 _ ?side1 ?side2 ?side3 A6.1).mono ?_);(case side1=>refine (Kd.R_reads' (e:=3) (base:=w.heap.size) (ok:=fun k_=>True) (n:=t1023.length) (c:=co14) ?_).2.2;exact (rq_ (rf_ HO1025 BK1026 (.int .i64 t1022) (.slice Ao14 t1023.length co14))));(case side2=>exact (Kd.R_reads' HO1025.1).2.1);(case side3=>first|exact HT.1|exact HT.1.below bb_|(repeat (first|exact HT.1|apply TabOK.drewN|apply TabOK.drew|apply TabOK.alloc)));rintro e w15 ⟨rfl,hb⟩;refine ⟨_,rfl,?_⟩;have n0_:=A_ (Kd.R_below (rq_ (rf_ HO1025 BK1026 (.int .i64 t1022) (.slice Ao14 t1023.length co14))) hb);have n1_:=A_ (blk_below (g:=gb1026) (o:=.cells #[.int .i64 t1022,.slice Ao14 t1023.length co14] 26 (0,0)) (by (with_reducible repeat (first|refine blk_drewN ?_ _|refine blk_drew ?_|refine blk_alloc ?_ _));refine blk_put (cs:=#[.int .i64 t1022,.slice none 0 0]) ?_ 1 _ rfl;(with_reducible repeat (first|refine blk_drewN ?_ _|refine blk_drew ?_|refine blk_alloc ?_ _));refine blk_put (cs:=#[.int .i64 0,.slice none 0 0]) ?_ 0 _ rfl;(with_reducible repeat (first|refine blk_drewN ?_ _|refine blk_drew ?_|refine blk_alloc ?_ _));exact BK1026.1) hb);have n2_:=A_ (below_step bb_ hb);clear HO1025;clear BK1026;clear HB;have HO1025:=n0_;have BK1026:=n1_;have HB:=n2_;clear n0_ n1_ n2_;(try clear hb);(try clear hb2);(try clear hk);(try clear hi);obtain ⟨Z,Z,Z,Z⟩:=o2_ BK1026.1)|((with_reducible refine gate_callee (f:=32) rfl ?_);refine goesL_ (some 43) rfl rfl Tryd.func32 (by kernel_rfl) rfl #[.agg #[.int .i64 t1022,.slice Ao14 t1023.length co14]] rfl au_ ?_;(with_reducible refine (Aau.calls k t1022 _ _ t1023 t1029 t1030 _ ?side1 ?side2 A7.1).mono ?_);(case side1=>exact cl_ (Kd.R_reads' HO1025.1).2.2);(case side2=>exact (Kd.R_reads' HO1025.1).2.1);rintro e w17 ⟨rfl,hb⟩;refine ⟨_,rfl,?_⟩;have n0_:=rb_ HO1025 hb;have n1_:=bz BK1026 hb;have n2_:=A_ (below_step bb_ hb);clear HO1025;clear BK1026;clear HB;have HO1025:=n0_;have BK1026:=n1_;have HB:=n2_;clear n0_ n1_ n2_;(try clear hb);(try clear hb2);(try clear hk);(try clear hi);obtain ⟨Z,Z,Z,Z⟩:=o2_ BK1026.1)|((with_reducible refine gate_callee (f:=33) rfl ?_);refine goesL_ (some 48) rfl rfl Tryd.func33 (by kernel_rfl) rfl #[.agg #[.int .i64 t1022,.slice Ao14 t1023.length co14]] rfl au_ ?_;(with_reducible refine (Abt.calls k t1022 _ _ t1023 t1031 t1032 _ ?side1 ?side2 ?side3 A8.1).mono ?_);(case side1=>exact cl_ (Kd.R_reads' HO1025.1).2.2);(case side2=>exact (Kd.R_reads' HO1025.1).2.1);(case side3=>first|exact HT.1|exact HT.1.below bb_|(repeat (first|exact HT.1|apply TabOK.drewN|apply TabOK.drew|apply TabOK.alloc)));rintro e w19 ⟨rfl,hb⟩;refine ⟨_,rfl,?_⟩;have n0_:=rb_ HO1025 hb;have n1_:=bz BK1026 hb;have n2_:=A_ (below_step bb_ hb);clear HO1025;clear BK1026;clear HB;have HO1025:=n0_;have BK1026:=n1_;have HB:=n2_;clear n0_ n1_ n2_;(try clear hb);(try clear hb2);(try clear hk);(try clear hi);obtain ⟨Z,Z,Z,Z⟩:=o2_ BK1026.1)|((with_reducible refine gate_callee (f:=34) rfl ?_);refine goesL_ (some 53) rfl rfl Tryd.func34 (by kernel_rfl) rfl #[.agg #[.int .i64 t1022,.slice Ao14 t1023.length co14]] rfl au_ ?_;(with_reducible refine (Abu.calls k t1022 _ _ t1023 t1033 t1034 _ ?side1 ?side2 A9.1).mono ?_);(case side1=>exact cl_ (Kd.R_reads' HO1025.1).2.2);(case side2=>exact (Kd.R_reads' HO1025.1).2.1);rintro e w21 ⟨rfl,hb⟩;refine ⟨_,rfl,?_⟩;have n0_:=rb_ HO1025 hb;have n1_:=bz BK1026 hb;have n2_:=A_ (below_step bb_ hb);clear HO1025;clear BK1026;clear HB;have HO1025:=n0_;have BK1026:=n1_;have HB:=n2_;clear n0_ n1_ n2_;(try clear hb);(try clear hb2);(try clear hk);(try clear hi)))
  (try simp only [Act.put,L_,M_,N_]);go_cut [84] (fun v84 wc=>∃ (kq : Nat) (x84_9 : Bool),v84 = .bool x84_9 ∧ Aside0 (Aac.j0 kq t1027 t1028 t1031 x84_9 t1022 t1023 = some r) ∧ Aside0 (kq ≤ k) ∧ Aside0 (Kd.R (Kd.int .i64) 3 wc w.heap.size (fun _=>True) (.slice Ao14 t1023.length co14) t1023) ∧ Aside0 (wc.heap[gb1026]? = some (.cells #[.int .i64 t1022,(.slice Ao14 t1023.length co14)] 26 (0,0))) ∧ Aside0 (Below w.heap.size w wc))
  case first =>
   have H:=HC10.1;clear HC10;by_cases c22 : (t1028 != t1030) = true
   ·rw [if_pos c22] at H;have c22b0 : (t1028 != t1030) = true:=c22;(try (have c22b1 : decide (t1028 = t1030) = false:=by simpa using c22));(try (have c22b2 : (t1028 == t1030) = false:=by simpa using c22));(try (have c22b3 : ¬ (t1028 = t1030):=by simpa using c22));clear c22;(first|rw [c22b0]|(simp only [i64_w,i32_w];rw [c22b0])|skip)
    have H':=A_ H;clear H;go_wp2
    go_meet
    case rel=>exact ⟨_,(true),(by first|rfl|(simp;done)|(simp [*];done)),H',⟨by first|omega|exact Nat.le_refl _⟩,⟨rl_ HO1025⟩,⟨bl_ BK1026⟩,⟨bb_⟩⟩
   ·rw [if_neg c22] at H;have c22b0 : (t1028 != t1030) = false:=by simpa using c22
    (try (have c22b1 : decide (t1028 = t1030) = true:=by simpa using c22));(try (have c22b2 : (t1028 == t1030) = true:=by simpa using c22));clear c22;(first|rw [c22b0]|(simp only [i64_w,i32_w];rw [c22b0])|skip)
    by_cases c23 : t1027 = t1029
    ·rw [if_pos c23] at H;have c23b0 : (t1027 == t1029) = true:=beq_iff_eq.mpr c23;have c23b1 : (t1027 != t1029) = false:=bne_eq_false_iff_eq.mpr c23;clear c23;by_cases c24 : (t1032 != t1034) = true
     ·rw [if_pos c24] at H;have c24b0 : (t1032 != t1034) = true:=c24;(try (have c24b1 : decide (t1032 = t1034) = false:=by simpa using c24));(try (have c24b2 : (t1032 == t1034) = false:=by simpa using c24));(try (have c24b3 : ¬ (t1032 = t1034):=by simpa using c24));clear c24;have H':=A_ H;clear H;go_wp2
      go_meet
      case rel=>exact ⟨_,(true),(by first|rfl|(simp;done)|(simp [*];done)),H',⟨by first|omega|exact Nat.le_refl _⟩,⟨rl_ HO1025⟩,⟨bl_ BK1026⟩,⟨bb_⟩⟩
     ·rw [if_neg c24] at H;have c24b0 : (t1032 != t1034) = false:=by simpa using c24
      (try (have c24b1 : decide (t1032 = t1034) = true:=by simpa using c24));(try (have c24b2 : (t1032 == t1034) = true:=by simpa using c24));clear c24;by_cases c25 : (t1031 != t1033) = true
      ·rw [if_pos c25] at H;have c25b0 : (t1031 != t1033) = true:=c25;(try (have c25b1 : decide (t1031 = t1033) = false:=by simpa using c25));(try (have c25b2 : (t1031 == t1033) = false:=by simpa using c25));(try (have c25b3 : ¬ (t1031 = t1033):=by simpa using c25));clear c25;have H':=A_ H;clear H;go_wp2
       go_meet
       case rel=>exact ⟨_,(true),(by first|rfl|(simp;done)|(simp [*];done)),H',⟨by first|omega|exact Nat.le_refl _⟩,⟨rl_ HO1025⟩,⟨bl_ BK1026⟩,⟨bb_⟩⟩
      ·rw [if_neg c25] at H;have c25b0 : (t1031 != t1033) = false:=by simpa using c25
       (try (have c25b1 : decide (t1031 = t1033) = true:=by simpa using c25));(try (have c25b2 : (t1031 == t1033) = true:=by simpa using c25));clear c25;by_cases c26 : (t1028 != t1031) = true
       ·rw [if_pos c26] at H;have c26b0 : (t1028 != t1031) = true:=c26;(try (have c26b1 : decide (t1028 = t1031) = false:=by simpa using c26));(try (have c26b2 : (t1028 == t1031) = false:=by simpa using c26));(try (have c26b3 : ¬ (t1028 = t1031):=by simpa using c26));clear c26;have H':=A_ H;clear H;go_wp2
        go_meet
        case rel=>exact ⟨_,(true),(by first|rfl|(simp;done)|(simp [*];done)),H',⟨by first|omega|exact Nat.le_refl _⟩,⟨rl_ HO1025⟩,⟨bl_ BK1026⟩,⟨bb_⟩⟩
       ·rw [if_neg c26] at H;have c26b0 : (t1028 != t1031) = false:=by simpa using c26
        (try (have c26b1 : decide (t1028 = t1031) = true:=by simpa using c26));(try (have c26b2 : (t1028 == t1031) = true:=by simpa using c26));clear c26;replace H:=Option.bind_eq_some_iff.mp H;obtain ⟨t1035,A270,H⟩:=H;(try dsimp only at H);have A27:=A_ A270;clear A270;have H':=A_ H;clear H;obtain ⟨Z,Z,Z,Z⟩:=o2_ BK1026.1;go_wp2_with (first|(go_at_call 16;(with_reducible refine (Aap.calls k t1022 _ _ t1023 t1035 _ ?side1 ?side2 ?side3 A27.1).mono ?_);(case side1=>exact cl_ (Kd.R_reads' HO1025.1).2.2);(case side2=>exact (Kd.R_reads' HO1025.1).2.1);(case side3=>first|exact HT.1|exact HT.1.below bb_|(repeat (first|exact HT.1|apply TabOK.drewN|apply TabOK.drew|apply TabOK.alloc)));rintro e w29 ⟨rfl,hb⟩;have n0_:=rb_ HO1025 hb;have n1_:=bz BK1026 hb;have n2_:=A_ (below_step bb_ hb);clear HO1025;clear BK1026;clear HB;have HO1025:=n0_;have BK1026:=n1_;have HB:=n2_;clear n0_ n1_ n2_;(try clear hb);(try clear hb2);(try clear hk);(try clear hi)))
        go_meet
        case rel=>exact ⟨_,((t1032 != t1035)),(by first|rfl|(simp;done)|(simp [*];done)),H',⟨by first|omega|exact Nat.le_refl _⟩,⟨rl_ HO1025⟩,⟨bl_ BK1026⟩,⟨bb_⟩⟩
    ·rw [if_neg c23] at H;have c23b0 : (t1027 == t1029) = false:=beq_eq_false_iff_ne.mpr c23;have c23b1 : (t1027 != t1029) = true:=bne_iff_ne.mpr c23;have H':=A_ H;clear H;go_wp2
     go_meet
     case rel=>exact ⟨_,(true),(by first|rfl|(simp;done)|(simp [*];done)),H',⟨by first|omega|exact Nat.le_refl _⟩,⟨rl_ HO1025⟩,⟨bl_ BK1026⟩,⟨bb_⟩⟩
  case rest =>
   clear HC10;try clear c1
   try clear c2
   try clear p2
   try clear c3
   try clear c4
   try clear c6
   try clear c9
   try clear c22
   try clear c22b0
   try clear c22b1
   try clear c22b2
   try clear c23
   try clear c23b0
   try clear c23b1
   try clear c24
   try clear c24b0
   try clear c24b1
   try clear c24b2
   try clear c25
   try clear c25b0
   try clear c25b1
   try clear c25b2
   try clear c26
   try clear c26b0
   try clear c26b1
   try clear c26b2
   repeat clear Z
   obtain ⟨kq,x84_9,rfl,HA,HJ9,HO_1027001,BK1026,HB⟩:=hcut;cases kq with
   | zero=>exact absurd HA.1 (by simp [Aac.j0])
   | succ kj9 =>
    have H:=HA.1;clear HA;simp only [Aac.j0] at H
    by_cases c30 : x84_9 = true
    ·subst c30;rw [if_pos rfl] at H;obtain rfl:=Option.some.inj H;go_wp2
     go_ret
     exact ⟨by first|rfl|(simp [errW_none,errW_some] <;> rfl)|(simp [*,errW_none,errW_some] <;> rfl),bb_⟩
    ·replace c30:=Bool.eq_false_iff.mpr c30;subst c30;rw [if_neg nf_] at H;replace H:=Option.bind_eq_some_iff.mp H;obtain ⟨⟨t1036,t1039⟩,A310,H⟩:=H;(try dsimp only at H);have A31:=A_ A310;clear A310;replace H:=Option.bind_eq_some_iff.mp H;obtain ⟨⟨t1040,t1043⟩,A320,H⟩:=H;(try dsimp only at H);have A32:=A_ A320;clear A320;have HC33:=A_ H;clear H;obtain ⟨Z,Z,Z,Z⟩:=o2_ BK1026.1;go_upto_region 12 with (first|((with_reducible refine gate_callee (f:=35) rfl ?_);refine goesL_ (some 87) rfl rfl Tryd.func35 (by kernel_rfl) rfl #[.agg #[.int .i64 t1022,.slice Ao14 t1023.length co14]] rfl au_ ?_;(with_reducible refine (Aax.calls kj9 t1022 _ _ t1023 t1036 t1039 _ ?side1 ?side2 ?side3 A31.1).mono ?_);(case side1=>exact cl_ (Kd.R_reads' HO_1027001.1).2.2);(case side2=>exact (Kd.R_reads' HO_1027001.1).2.1);(case side3=>first|exact HT.1|exact HT.1.below bb_|(repeat (first|exact HT.1|apply TabOK.drewN|apply TabOK.drew|apply TabOK.alloc)));rintro e w35 ⟨v1037,rfl,ho0,hb⟩;refine ⟨_,rfl,?_⟩;have n0_:=A_ (Kd.R_elder' (rl_ HO_1027001) (Kd.R_base ho0) hb);have n1_:=A_ (Kd.R_lower (Kd.R_new' ho0 (Kd.R_lt (rl_ HO_1027001))) (below_size bb_));have n2_:=bz BK1026 hb;have n3_:=A_ (below_step bb_ hb);clear HO_1027001;clear BK1026;clear HB;have HO_1027001:=n0_;have HO1038:=n1_;have BK1026:=n2_;have HB:=n3_;clear n0_ n1_ n2_ n3_;(try clear hb);(try clear hb2);(try clear hk);(try clear hi);(try clear ho0);obtain ⟨Z,Z,Z,Z⟩:=o2_ BK1026.1)|((with_reducible refine gate_callee (f:=36) rfl ?_);refine goesL_ (some 92) rfl rfl Tryd.func36 (by kernel_rfl) rfl #[.agg #[.int .i64 t1022,.slice Ao14 t1023.length co14]] rfl au_ ?_;(with_reducible refine (Aae.calls kj9 t1022 _ _ t1023 t1040 t1043 _ ?side1 ?side2 A32.1).mono ?_);(case side1=>exact cl_ (Kd.R_reads' HO_1027001.1).2.2);(case side2=>exact (Kd.R_reads' HO_1027001.1).2.1);rintro e w37 ⟨v1041,rfl,ho0,hb⟩;refine ⟨_,rfl,?_⟩;have n0_:=A_ (Kd.R_elder' (rl_ HO_1027001) (Kd.R_base ho0) hb);have n1_:=A_ (Kd.R_elder' (rl_ HO1038) (Kd.R_base ho0) hb);have n2_:=A_ (Kd.R_lower (Kd.R_new' (Kd.R_new' ho0 (Kd.R_lt (rl_ HO_1027001))) (Kd.R_lt (rl_ HO1038))) (below_size bb_));have n3_:=bz BK1026 hb;have n4_:=A_ (below_step bb_ hb);clear HO_1027001;clear HO1038;clear BK1026;clear HB;have HO_1027001:=n0_;have HO1038:=n1_;have HO1042:=n2_;have BK1026:=n3_;have HB:=n4_;clear n0_ n1_ n2_ n3_ n4_;(try clear hb);(try clear hb2);(try clear hk);(try clear hi);(try clear ho0)))
     (try simp only [Act.put,L_,M_,N_]);go_cut [109] (fun v109 wc=>∃ (kq : Nat) (x109_32 : Bool),v109 = .bool x109_32 ∧ Aside0 (Aac.j1 kq t1027 t1028 t1036 t1039 x109_32 t1022 t1023 = some r) ∧ Aside0 (kq ≤ kj9) ∧ Aside0 (Kd.R (Kd.int .i64) 3 wc w.heap.size (fun k_=>some k_ ≠ ((.slice Ao14 t1023.length co14) : Value).ownBlock) v1037 t1036) ∧ Aside0 (Kd.R (Kd.int .i64) 3 wc w.heap.size (fun k_=>some k_ ≠ (v1037 : Value).ownBlock) (.slice Ao14 t1023.length co14) t1023) ∧ Aside0 (wc.heap[gb1026]? = some (.cells #[.int .i64 t1022,(.slice Ao14 t1023.length co14)] 26 (0,0))) ∧ Aside0 (Below w.heap.size w wc))
     case first =>
      have H:=HC33.1;clear HC33;by_cases c38 : (t1039 != t1043) = true
      ·rw [if_pos c38] at H;have c38b0 : (t1039 != t1043) = true:=c38;(try (have c38b1 : decide (t1039 = t1043) = false:=by simpa using c38));(try (have c38b2 : (t1039 == t1043) = false:=by simpa using c38));(try (have c38b3 : ¬ (t1039 = t1043):=by simpa using c38));clear c38;(first|rw [c38b0]|(simp only [i64_w,i32_w];rw [c38b0])|skip)
       have H':=A_ H;clear H;go_wp2
       go_meet
       case rel=>exact ⟨_,(true),(by first|rfl|(simp;done)|(simp [*];done)),H',⟨by have:=HJ9.1;first|omega|exact Nat.le_refl _⟩,⟨rq_ (Kd.R_mono HO1038.1 (fun _ hk=>hk.1.2))⟩,⟨rq_ (Kd.R_mono HO_1027001.1 (fun _ hk=>hk.1.2))⟩,⟨bl_ BK1026⟩,⟨bb_⟩⟩
      ·rw [if_neg c38] at H;have c38b0 : (t1039 != t1043) = false:=by simpa using c38
       (try (have c38b1 : decide (t1039 = t1043) = true:=by simpa using c38));(try (have c38b2 : (t1039 == t1043) = true:=by simpa using c38));clear c38;(first|rw [c38b0]|(simp only [i64_w,i32_w];rw [c38b0])|skip)
       replace H:=Option.bind_eq_some_iff.mp H;obtain ⟨t1044,A390,H⟩:=H;(try dsimp only at H);have A39:=A_ A390;clear A390;by_cases c40 : t1044 = true
       ·subst c40;rw [if_pos rfl] at H;by_cases c41 : t1039 = true
        ·subst c41;rw [if_pos rfl] at H;have H':=A_ H;clear H;obtain ⟨Ao42,co42,eo42⟩:=Kd.R_slice HO1038.1;subst eo42;obtain ⟨Ao43,co43,eo43⟩:=Kd.R_slice HO1042.1;subst eo43;go_wp2_with (first|(go_at_call 37;(with_reducible refine (Abg.calls kj9 _ _ t1036 _ _ t1040 true _ ?side1 ?side2 ?side3 ?side4 A39.1).mono ?_);(case side1=>exact cl_ (Kd.R_reads' HO1038.1).2.2);(case side2=>exact (Kd.R_reads' HO1038.1).2.1);(case side3=>exact cl_ (Kd.R_reads' HO1042.1).2.2);(case side4=>exact (Kd.R_reads' HO1042.1).2.1);rintro e w' ⟨rfl,⟨nd,rfl⟩⟩))
         go_meet
         case rel=>exact ⟨_,(t1031),(by first|rfl|(simp;done)|(simp [*];done)),H',⟨by have:=HJ9.1;first|omega|exact Nat.le_refl _⟩,⟨rq_ (Kd.R_mono HO1038.1 (fun _ hk=>hk.1.2))⟩,⟨rq_ (Kd.R_mono HO_1027001.1 (fun _ hk=>hk.1.2))⟩,⟨bl_ BK1026⟩,⟨bb_⟩⟩
        ·replace c41:=Bool.eq_false_iff.mpr c41;subst c41;rw [if_neg nf_] at H;have H':=A_ H;clear H;obtain ⟨Ao44,co44,eo44⟩:=Kd.R_slice HO1038.1;subst eo44;obtain ⟨Ao45,co45,eo45⟩:=Kd.R_slice HO1042.1;subst eo45;go_wp2_with (first|(go_at_call 37;(with_reducible refine (Abg.calls kj9 _ _ t1036 _ _ t1040 true _ ?side1 ?side2 ?side3 ?side4 A39.1).mono ?_);(case side1=>exact cl_ (Kd.R_reads' HO1038.1).2.2);(case side2=>exact (Kd.R_reads' HO1038.1).2.1);(case side3=>exact cl_ (Kd.R_reads' HO1042.1).2.2);(case side4=>exact (Kd.R_reads' HO1042.1).2.1);rintro e w' ⟨rfl,⟨nd,rfl⟩⟩))
         go_meet
         case rel=>exact ⟨_,(false),(by first|rfl|(simp;done)|(simp [*];done)),H',⟨by have:=HJ9.1;first|omega|exact Nat.le_refl _⟩,⟨rq_ (Kd.R_mono HO1038.1 (fun _ hk=>hk.1.2))⟩,⟨rq_ (Kd.R_mono HO_1027001.1 (fun _ hk=>hk.1.2))⟩,⟨bl_ BK1026⟩,⟨bb_⟩⟩
       ·replace c40:=Bool.eq_false_iff.mpr c40;subst c40;rw [if_neg nf_] at H;have H':=A_ H;clear H;obtain ⟨Ao46,co46,eo46⟩:=Kd.R_slice HO1038.1;subst eo46;obtain ⟨Ao47,co47,eo47⟩:=Kd.R_slice HO1042.1;subst eo47;go_wp2_with (first|(go_at_call 37;(with_reducible refine (Abg.calls kj9 _ _ t1036 _ _ t1040 false _ ?side1 ?side2 ?side3 ?side4 A39.1).mono ?_);(case side1=>exact cl_ (Kd.R_reads' HO1038.1).2.2);(case side2=>exact (Kd.R_reads' HO1038.1).2.1);(case side3=>exact cl_ (Kd.R_reads' HO1042.1).2.2);(case side4=>exact (Kd.R_reads' HO1042.1).2.1);rintro e w' ⟨rfl,⟨nd,rfl⟩⟩))
        go_meet
        case rel=>exact ⟨_,(true),(by first|rfl|(simp;done)|(simp [*];done)),H',⟨by have:=HJ9.1;first|omega|exact Nat.le_refl _⟩,⟨rq_ (Kd.R_mono HO1038.1 (fun _ hk=>hk.1.2))⟩,⟨rq_ (Kd.R_mono HO_1027001.1 (fun _ hk=>hk.1.2))⟩,⟨bl_ BK1026⟩,⟨bb_⟩⟩
     case rest =>
      clear HC33;try clear c1
      try clear c2
      try clear p2
      try clear c3
      try clear c4
      try clear c6
      try clear c9
      try clear c22
      try clear c22b0
      try clear c22b1
      try clear c22b2
      try clear c23
      try clear c23b0
      try clear c23b1
      try clear c24
      try clear c24b0
      try clear c24b1
      try clear c24b2
      try clear c25
      try clear c25b0
      try clear c25b1
      try clear c25b2
      try clear c26
      try clear c26b0
      try clear c26b1
      try clear c26b2
      try clear c30
      try clear c31
      try clear c32
      try clear c33
      try clear c34
      try clear c35
      try clear c36
      try clear c38
      try clear c38b0
      try clear c38b1
      try clear c38b2
      try clear c40
      try clear c41
      repeat clear Z
      try clear p2
      obtain ⟨kq,x109_32,rfl,HA,HJ32,HO_14,HO_1027001,BK1026,HB⟩:=hcut;cases kq with
      | zero=>exact absurd HA.1 (by simp [Aac.j1])
      | succ kj32 =>
       have H:=HA.1;clear HA;simp only [Aac.j1] at H
       by_cases c48 : x109_32 = true
       ·subst c48;rw [if_pos rfl] at H;obtain rfl:=Option.some.inj H;go_wp2
        go_ret
        exact ⟨by first|rfl|(simp [errW_none,errW_some] <;> rfl)|(simp [*,errW_none,errW_some] <;> rfl),bb_⟩
       ·replace c48:=Bool.eq_false_iff.mpr c48;subst c48;rw [if_neg nf_] at H;have HC49:=A_ H;clear H;go_upto_if 110 with (fail)
        go_cut [] (fun wc=>∃ (kq : Nat),Aside0 (Aac.j4 kq t1027 t1028 t1022 t1023 = some r) ∧ Aside0 (kq ≤ kj32) ∧ Aside0 (Kd.R (Kd.int .i64) 3 wc w.heap.size (fun _=>True) (.slice Ao14 t1023.length co14) t1023) ∧ Aside0 (wc.heap[gb1026]? = some (.cells #[.int .i64 t1022,(.slice Ao14 t1023.length co14)] 26 (0,0))) ∧ Aside0 (Below w.heap.size w wc))
        case first =>
         rename_i i0_ i1_ i2_ i3_ i4_ i5_ i6_ i7_ i8_ i9_ i10_ i11_ i12_ i13_ i14_ i15_ i16_ i17_ i18_ i19_ i20_ i21_ i22_ i23_ i24_ i25_ i26_ i27_ i28_ i29_ i30_ i31_ i32_ i33_ i34_ i35_ i36_ i37_ i38_ i39_ i40_ i41_ i42_ i43_ i44_ i45_ i46_ i47_ i48_ i49_ i50_ i51_ i52_ i53_ i54_ i55_ i56_ i57_ i58_ i59_ i60_ i61_ i62_ i63_ i64_ i65_ i66_ i67_ i68_ i69_ i70_ i71_ i72_ i73_ i74_ i75_ i76_ i77_ i78_ i79_ i80_ i81_ i82_ i83_ i84_ i85_ i86_ i87_ i88_ i89_ i90_ i91_ i92_ i93_ i94_ i95_ i96_ i97_ i98_ i99_ i100_ i101_ i102_ i103_ i104_ i105_ i106_ i107_ i108_ i109_ i110_ i111_ i112_ i113_ i114_ i115_ i116_ i117_ i118_ i119_ i120_ i121_ i122_ i123_ i124_ i125_ i126_ i127_ i128_ i129_ i130_ i131_ i132_ i133_ i134_ i135_ i136_ i137_ i138_ i139_ i140_ i141_ i142_ i143_ i144_ i145_ i146_ i147_ i148_ i149_ i150_ i151_ i152_ i153_ i154_ i155_ i156_ i157_ i158_ i159_ i160_ i161_ i162_ i163_ i164_ i165_ i166_ i167_ i168_ i169_ i170_ i171_ i172_ i173_ i174_ i175_ i176_ i177_ i178_ i179_ i180_
         clear i1_ i2_ i3_ i4_ i5_ i6_ i7_ i8_ i9_ i10_ i11_ i12_ i13_ i14_ i15_ i16_ i17_ i18_ i19_ i20_ i21_ i22_ i23_ i24_ i25_ i26_ i27_ i28_ i29_ i30_ i31_ i32_ i33_ i34_ i35_ i36_ i37_ i38_ i39_ i40_ i41_ i42_ i43_ i44_ i45_ i46_ i47_ i48_ i49_ i50_ i51_ i52_ i53_ i54_ i55_ i56_ i57_ i58_ i59_ i60_ i61_ i62_ i63_ i64_ i65_ i66_ i67_ i68_ i69_ i70_ i71_ i72_ i73_ i74_ i75_ i76_ i77_ i78_ i79_ i80_ i81_ i82_ i83_ i84_ i85_ i86_ i87_ i88_ i89_ i90_ i91_ i92_ i93_ i94_ i95_ i96_ i97_ i98_ i99_ i100_ i101_ i102_ i103_ i104_ i105_ i106_ i107_ i108_ i109_ i110_ i111_ i112_ i113_ i114_ i115_ i116_ i117_ i118_ i119_ i120_ i121_ i122_ i123_ i124_ i125_ i126_ i127_ i128_ i129_ i130_ i131_ i132_ i133_ i134_ i135_ i136_ i137_ i138_ i139_ i140_ i141_ i142_ i143_ i144_ i145_ i146_ i147_ i148_ i149_ i150_ i151_ i152_ i153_ i154_ i155_ i156_ i157_ i158_ i159_ i160_ i161_ i162_ i163_ i164_ i165_ i166_ i167_ i168_ i169_ i170_ i171_ i172_ i173_ i174_ i175_ i176_;revert k A0 c0 l0 A1 c1 l1 r w hu26 HT HR0 HC0 HR1 HC1 A3 t1022 t1023 A5 t1027 t1028 A6 t1029 t1030 A7 t1031 t1032 A8 t1033 t1034 A9 i0_ nd w11 gb1026 w12 GW1026 GE1026 Ao14 co14 w15 w17 w19 w21 HO1025 u109 kj9 HJ9 t1036 t1039 A31 t1040 t1043 A32 w35 v1037 w37 v1041 HO1038 HO1042 wc u31 u32 u33 u34 u35 u36 u37 u38 u39 u40 u41 u42 u43 u44 u45 u46 u47 u48 u49 u50 u51 u52 u53 u54 u55 u56 u57 u58 u59 u60 u61 u62 u63 u64 u65 u66 u67 u68 u69 u70 u71 u72 u73 u74 u75 u76 u77 u78 u79 u80 u81 u82 u83 u84 u85 u86 u87 u88 u89 u90 u91 u92 u93 u94 u95 u96 u97 u98 u99 u100 u101 u102 u103 u104 u105 u106 u107 u108 u110 u111 u112 u113 u114 u115 u116 u117 u118 u119 u120 u121 u122 u123 u124 u125 u126 u127 u128 u129 u130 u131 u132 u133 u134 u135 u136 u137 u138 u139 u140 u141 u142 u143 u144 u145 u146 u147 u151 u152 u153 u154 u155 u156 u157 u158 u159 u160 u161 u162 u163 u164 u165 u166 u167 u168 u169 u170 u171 u172 u173 u174 u175 u176 u177 u178 u179 u180 u181 u182 u183 u184 u185 u186 u187 u188 u189 u190 u191 u192 u193 u194 u195 u196 u197 u198 u199 u200 u201 u202 HO_14 HO_1027001 BK1026 HB kj32 HJ32 HC49 i177_ i178_ i179_ i180_
         exact hR1_ ()
        case rest =>
         rename_i i0_ i1_ i2_ i3_ i4_ i5_ i6_ i7_ i8_ i9_ i10_ i11_ i12_ i13_ i14_ i15_ i16_ i17_ i18_ i19_ i20_ i21_ i22_ i23_ i24_ i25_ i26_ i27_ i28_ i29_ i30_ i31_ i32_ i33_ i34_ i35_ i36_ i37_ i38_ i39_ i40_ i41_ i42_ i43_ i44_ i45_ i46_ i47_ i48_ i49_ i50_ i51_ i52_ i53_ i54_ i55_ i56_ i57_ i58_ i59_ i60_ i61_ i62_ i63_ i64_ i65_ i66_ i67_ i68_ i69_ i70_ i71_ i72_ i73_ i74_ i75_ i76_ i77_ i78_ i79_ i80_ i81_ i82_ i83_ i84_ i85_ i86_ i87_ i88_ i89_ i90_ i91_ i92_ i93_ i94_ i95_ i96_ i97_ i98_ i99_ i100_ i101_ i102_ i103_ i104_ i105_ i106_ i107_ i108_ i109_ i110_ i111_ i112_ i113_ i114_ i115_ i116_ i117_ i118_ i119_ i120_ i121_ i122_ i123_ i124_ i125_ i126_ i127_ i128_ i129_ i130_ i131_ i132_ i133_ i134_ i135_ i136_ i137_ i138_ i139_ i140_ i141_ i142_ i143_ i144_ i145_ i146_ i147_ i148_ i149_ i150_ i151_ i152_ i153_ i154_ i155_ i156_ i157_ i158_ i159_ i160_ i161_ i162_ i163_ i164_ i165_ i166_ i167_ i168_ i169_ i170_ i171_ i172_ i173_ i174_ i175_ i176_ i177_ i178_ i179_ i180_ i181_ i182_ i183_ i184_ i185_ i186_ i187_ i188_ i189_ i190_ i191_ i192_ i193_ i194_ i195_ i196_ i197_ i198_ i199_ i200_ i201_ i202_ i203_ i204_ i205_ i206_ i207_ i208_ i209_ i210_ i211_ i212_ i213_ i214_ i215_ i216_ i217_ i218_ i219_ i220_ i221_ i222_ i223_ i224_ i225_ i226_ i227_ i228_ i229_ i230_ i231_ i232_ i233_ i234_ i235_ i236_ i237_ i238_ i239_ i240_ i241_ i242_ i243_ i244_ i245_ i246_ i247_ i248_ i249_ i250_ i251_ i252_ i253_ i254_ i255_ i256_ i257_ i258_ i259_ i260_ i261_ i262_ i263_ i264_ i265_ i266_ i267_ i268_ i269_ i270_ i271_ i272_ i273_ i274_ i275_ i276_ i277_ i278_ i279_ i280_ i281_ i282_ i283_ i284_ i285_ i286_ i287_ i288_ i289_ i290_ i291_ i292_ i293_ i294_ i295_ i296_ i297_ i298_ i299_ i300_ i301_ i302_ i303_ i304_ i305_ i306_ i307_ i308_ i309_ i310_ i311_ i312_ i313_ i314_ i315_ i316_ i317_ i318_ i319_ i320_ i321_ i322_ i323_ i324_ i325_ i326_ i327_ i328_ i329_ i330_ i331_ i332_ i333_ i334_ i335_ i336_ i337_ i338_ i339_ i340_ i341_ i342_ i343_ i344_ i345_ i346_
         clear i1_ i2_ i3_ i4_ i5_ i6_ i7_ i8_ i9_ i10_ i11_ i12_ i13_ i14_ i15_ i16_ i17_ i18_ i19_ i20_ i21_ i22_ i23_ i24_ i25_ i26_ i27_ i28_ i29_ i30_ i31_ i32_ i33_ i34_ i35_ i36_ i37_ i38_ i39_ i40_ i41_ i42_ i43_ i44_ i45_ i46_ i47_ i48_ i49_ i50_ i51_ i52_ i53_ i54_ i55_ i56_ i57_ i58_ i59_ i60_ i61_ i62_ i63_ i64_ i65_ i66_ i67_ i68_ i69_ i70_ i71_ i72_ i73_ i74_ i75_ i76_ i77_ i78_ i79_ i80_ i81_ i82_ i83_ i84_ i85_ i86_ i87_ i88_ i89_ i90_ i91_ i92_ i93_ i94_ i95_ i96_ i97_ i98_ i99_ i100_ i101_ i102_ i103_ i104_ i105_ i106_ i107_ i108_ i109_ i110_ i111_ i112_ i113_ i114_ i115_ i116_ i117_ i118_ i119_ i120_ i121_ i122_ i123_ i124_ i125_ i126_ i127_ i128_ i129_ i130_ i131_ i132_ i133_ i134_ i135_ i136_ i137_ i138_ i139_ i140_ i141_ i142_ i143_ i144_ i145_ i146_ i147_ i148_ i149_ i150_ i151_ i152_ i153_ i154_ i155_ i156_ i157_ i158_ i159_ i160_ i161_ i162_ i163_ i164_ i165_ i166_ i167_ i168_ i169_ i170_ i171_ i172_ i173_ i174_ i175_ i177_ i178_ i179_ i180_ i181_ i182_ i183_ i184_ i185_ i186_ i187_ i188_ i189_ i190_ i191_ i192_ i193_ i194_ i195_ i196_ i197_ i198_ i199_ i200_ i201_ i202_ i203_ i204_ i205_ i206_ i207_ i208_ i209_ i210_ i211_ i212_ i213_ i214_ i215_ i216_ i217_ i218_ i219_ i220_ i221_ i222_ i223_ i224_ i225_ i226_ i227_ i228_ i229_ i230_ i231_ i232_ i233_ i234_ i235_ i236_ i237_ i238_ i239_ i240_ i241_ i242_ i243_ i244_ i245_ i246_ i247_ i248_ i249_ i250_ i251_ i252_ i253_ i254_ i255_ i256_ i257_ i258_ i259_ i260_ i261_ i262_ i263_ i264_ i265_ i266_ i267_ i268_ i269_ i270_ i271_ i272_ i273_ i274_ i275_ i276_ i277_ i278_ i279_ i280_ i281_ i282_ i283_ i284_ i285_ i286_ i287_ i288_ i289_ i290_ i291_ i292_ i293_ i294_ i295_ i296_ i297_ i298_ i299_ i300_ i301_ i302_ i303_ i304_ i305_ i306_ i307_ i308_ i309_ i310_ i311_ i312_ i313_ i314_ i315_ i316_ i317_ i318_ i319_ i320_ i321_ i322_ i323_ i324_ i325_ i326_ i327_ i328_ i329_ i330_ i331_ i332_ i333_ i334_ i335_ i336_ i337_ i338_ i339_ i340_ i341_ i342_ i343_ i344_;revert k A0 c0 l0 A1 c1 l1 r w hu26 HT HR0 HC0 HR1 HC1 A3 t1022 t1023 A5 t1027 t1028 A6 t1029 t1030 A7 t1031 t1032 A8 t1033 t1034 A9 i0_ nd w11 gb1026 w12 GW1026 GE1026 Ao14 co14 w15 w17 w19 w21 HO1025 kj9 HJ9 t1036 t1039 A31 t1040 t1043 A32 w35 v1037 w37 v1041 HO1038 HO1042 i176_ HO_14 HO_1027001 BK1026 HB kj32 HJ32 HC49 i345_ i346_ wc u4 u18 u19 u20 u21 u23 u24 u25 u31 u32 u33 u34 u35 u36 u37 u38 u39 u40 u41 u42 u43 u44 u45 u46 u47 u48 u49 u50 u51 u52 u53 u54 u55 u56 u57 u58 u59 u60 u61 u62 u63 u64 u65 u66 u67 u68 u69 u70 u71 u72 u73 u74 u75 u76 u77 u78 u79 u80 u81 u82 u83 u84 u85 u86 u87 u88 u89 u90 u91 u92 u93 u94 u95 u96 u97 u98 u99 u100 u101 u102 u103 u104 u105 u106 u107 u108 u109 u110 u111 u112 u113 u114 u115 u116 u117 u118 u119 u120 u121 u122 u123 u124 u125 u126 u127 u128 u129 u130 u131 u132 u133 u134 u135 u136 u137 u138 u139 u140 u141 u142 u143 u144 u145 u146 u147 u148 u149 u150 u151 u152 u153 u154 u155 u156 u157 u158 u159 u160 u161 u162 u163 u164 u165 u166 u167 u168 u169 u170 u171 u172 u173 u174 u175 u176 u177 u178 u179 u180 u181 u182 u183 u184 u185 u186 u187 u188 u189 u190 u191 u192 u193 u194 u195 u196 u197 u198 u199 u200 u201 u202 hcut
         exact hR2_ ()⟩
set_option maxHeartbeats 8000000 in
set_option maxRecDepth 100000 in
theorem Aac.calls.rest1 : Aac.calls.part.1:=by
 intro k A0 c0 l0 A1 c1 l1 r w hu26 HT HR0 HC0 HR1 HC1 A3 Aj Ag A5 Bh Bi A6 Cl Cm A7 Cn Co A8 Cp Cq A9 i0_ nd w11 Ar w12 Cb Cc Ao14 co14 w15 w17 w19 w21 Cd Cz kj9 HJ9 Ab Bz A31 Cr Cs A32 w35 Ct w37 Cu Ce Cf wc u31 u32 u33 u34 u35 u36 u37 u38 u39 u40 u41 u42 u43 u44 u45 u46 u47 u48 u49 u50 u51 u52 u53 u54 u55 u56 u57 u58 u59 u60 u61 u62 u63 u64 u65 u66 u67 u68 u69 u70 u71 u72 u73 u74 u75 u76 u77 u78 u79 u80 u81 u82 u83 u84 u85 u86 u87 u88 u89 u90 u91 u92 u93 u94 u95 u96 u97 u98 u99 C0 C1 C2 C3 C4 C5 C6 C7 C8 C9 Da Db Dc Dd De Df Dg Dh Di Dj Dk Dl Dm Dn Do Dp Dq Dr Ds Dt Du Dv Dw Dx Dy Dz D0 D1 D2 D3 D4 D5 D6 D7 D8 D9 Ea Eb Ec Ed Ee Ef Eg Eh Ei Ej Ek El Em En Eo Ep Er Es Et Eu Ew Ex Ey Ez E0 E1 E2 E3 E4 E5 E6 E7 E8 E9 Fa Fb Fc Fd Fe Ff Fg Fh Fi Fj Fk Fl Fm Fn Fo Fp Fq Fr Fs HO_14 Aa Ac HB kj32 HJ32 HC49 Cv Cw Cx Cy
 have H:=HC49.1;clear HC49;by_cases c50 : Bz = true
 ·subst c50;rw [if_pos rfl] at H;by_cases c51 : 0 < (Ab.length : Int)
  ·rw [if_pos c51] at H;have c51b0 : decide (0 < (Ab.length : Int)) = true:=decide_eq_true c51;have c51b1 : decide (0 < Ab.length) = true:=decide_eq_true (by omega);clear c51;(first|rw [c51b0]|(simp only [i64_w,i32_w];rw [c51b0])|skip)
   by_cases c52 : 1 < (Ab.length : Int)
   ·rw [if_pos c52] at H;have c52b0 : decide (1 < (Ab.length : Int)) = true:=decide_eq_true c52;have c52b1 : decide (1 < Ab.length) = true:=decide_eq_true (by omega);clear c52;replace H:=Option.bind_eq_some_iff.mp H;obtain ⟨⟨Bm,Bn⟩,Br,H⟩:=H;(try dsimp only at H);have A53:=A_ Br;clear Br;by_cases c54 : 2 < (Ab.length : Int)
    ·rw [if_pos c54] at H;have c54b0 : decide (2 < (Ab.length : Int)) = true:=decide_eq_true c54;have c54b1 : decide (2 < Ab.length) = true:=decide_eq_true (by omega);clear c54;replace H:=Option.bind_eq_some_iff.mp H;obtain ⟨⟨Bo,Bp⟩,Bs,H⟩:=H;(try dsimp only at H);have A55:=A_ Bs;clear Bs;have HC56:=A_ H;clear H;try go_wp2
     have n0_:=A_ (Kd.R_drew HO_14.1);have n1_:=A_ (Kd.R_drew Aa.1);have n2_:=A_ (blk_drew Ac.1);have n3_:=A_ (below_drew1 HB.1);clear HO_14;clear Aa;clear Ac;clear HB;have HO_14:=n0_;have Aa:=n1_;have Ac:=n2_;have HB:=n3_;clear n0_ n1_ n2_ n3_;obtain ⟨Ao58,co58,eo58⟩:=Kd.R_slice HO_14.1;(first|subst eo58|(injection eo58 with f1_ f2_ f3_;have f4_:=f1_.symm;have f5_:=f3_.symm;clear f1_ f2_ f3_;subst f4_;subst f5_))
     have Ay : 0 ≤ (0 : Int):=(by omega);have Az : 0 < (Ab.length : Int):=of_decide_eq_true (by first|(with_reducible assumption)|assumption);obtain ⟨Ae,B0,Am⟩:=Kd.at_int (Kd.R_reads' HO_14.1).2.2 0 Ay Az;cases B0
     have Cg : (0 < Ab.length) = True:=eq_true (by omega);(try rw [show ((0 : Int)).toNat = 0 from rfl] at Am);(try rw [Addr.add_zero'] at Am);replace Ay:=eq_true Ay;replace Az:=eq_true Az;have Ba : 0 ≤ (1 : Int):=(by omega);have Bb : 1 < (Ab.length : Int):=of_decide_eq_true (by first|(with_reducible assumption)|assumption);obtain ⟨Bt,B2,An⟩:=Kd.at_int (Kd.R_reads' HO_14.1).2.2 1 Ba Bb;obtain rfl : Ae = Bt:=(by injection B2);(try simp only [show (1 : Int).toNat = 1 from rfl,Nat.reduceMul,Nat.reduceEqDiff,Go.Addr.add,↓reduceIte] at An);have Ch : (1 < Ab.length) = True:=eq_true (by omega);(try rw [show ((1 : Int)).toNat = 1 from rfl] at An);replace Ba:=eq_true Ba;replace Bb:=eq_true Bb;refine start_ (n:=13) (S:=fun w'=>w'.cell? ⟨Ar,0,none⟩ = some (.int .i64 Aj) ∧ w'.cell? ⟨Ar,1,none⟩ = some (.slice Ao14 Ag.length co14) ∧ w'.cell? Ae = some (.int .i64 (rd Ab 0)) ∧ w'.cell? ⟨Ae.block,Ae.off + 1,none⟩ = some (.int .i64 (rd Ab 1))) (ds:=[]) #[F,F,F,F,F,F,F,F,F,F,F,F,F] (by kernel_rfl) rfl rfl ⟨blk_cell Ac.1 0,blk_cell Ac.1 1,Am,An⟩ (fun hHeld=>?_);refine with_tabW Aac.tab15 Aac.bits15 (fun HT_ HW_=>?_)
     generalize wc.drew = w57 at HO_14 Aa Ac HB Am An hHeld ⊢
     refine pu_ (i:=1) (N:=113) #[F,T,F,F,F,F,F,F,F,F,F,F,F] HT_.1 rfl rfl (fun _ _ _ h=>h) rfl (h:=?_)
     refine pu_ (i:=2) (N:=114) #[F,T,T,F,F,F,F,F,F,F,F,F,F] HT_.1 rfl rfl (fun _ _ _ h=>h) rfl (h:=?_)
     refine pu_ (i:=4) (N:=116) #[F,T,T,F,T,F,F,F,F,F,F,F,F] HT_.1 rfl rfl (fun _ _ _ h=>h) rfl (h:=?_)
     refine pu_ (i:=5) (N:=117) #[F,T,T,F,T,T,F,F,F,F,F,F,F] HT_.1 rfl rfl (fun _ _ _ h=>h) rfl (h:=?_)
     refine take_ (i:=0) (N:=some 112) (v:=?_) (a':=?_) #[T,T,T,F,T,T,F,F,F,F,F,F,F] rfl rfl (take_ofW HT_.1 HW_.1 (by kernel_rfl)) (fun _ _ _ h=>h) (Or.inl ⟨by rfl,?_⟩) hHeld ?_ ?_
     rotate_left
     ·rintro w' ⟨s0,s1,s2,s3⟩
      go_simp
      with_reducible rfl
     rotate_left;·simp only [Act.put,L_,M_,N_,i64_w,i32_w];rfl
     refine take_ (i:=3) (N:=some 115) (v:=?_) (a':=?_) #[T,T,T,T,T,T,F,F,F,F,F,F,F] rfl rfl (take_ofW HT_.1 HW_.1 (by kernel_rfl)) (fun _ _ _ h=>h) (Or.inl ⟨by rfl,?_⟩) hHeld ?_ ?_
     rotate_left
     ·rintro w' ⟨s0,s1,s2,s3⟩
      go_simp
      with_reducible rfl
     rotate_left;·simp only [Act.put,L_,M_,N_,i64_w,i32_w];rfl
     refine take_ (i:=6) (N:=some 118) (v:=?_) (a':=?_) #[T,T,T,T,T,T,T,F,F,F,F,F,F] rfl rfl (take_ofW HT_.1 HW_.1 (by kernel_rfl)) (fun _ _ _ h=>h) (Or.inl ⟨by rfl,?_⟩) hHeld ?_ ?_
     rotate_left
     ·rintro w' ⟨s0,s1,s2,s3⟩
      go_simp
      with_reducible rfl
     rotate_left;·simp only [Act.put,L_,M_,N_,i64_w,i32_w];rfl
     refine one_ (i:=7) (N:=some 119) #[T,T,T,T,T,T,T,T,F,F,F,F,F] rfl rfl (one_of HT_.1 (by kernel_rfl)) (by decide) (fun K hK=>?_)
     refine goes_ Tryd.func38 (by kernel_rfl) rfl #[.agg #[.int .i64 Aj,.slice Ao14 Ag.length co14],.int .i64 (rd Ab 0),.int .i64 (rd Ab 1)] (by rfl) rfl rfl au_ ?_
     with_reducible refine (Abw.calls kj32 Aj _ _ Ag (rd Ab 0) (rd Ab 1) Bm Bn _ ?side1 ?side2 A53.1).mono ?_
     (case side1=>exact cl_ (Kd.R_reads' Aa.1).2.2)
     (case side2=>exact (Kd.R_reads' Aa.1).2.1)
     rintro e w59 ⟨rfl,hb⟩
     have HS2_:=(hb.cell (World.block_lt_of_cell? _ _ (hHeld.2.2.1))).trans (hHeld.2.2.1);have HS3_:=(hb.cell (World.block_lt_of_cell? _ _ (hHeld.2.2.2))).trans (hHeld.2.2.2);refine ⟨_,rfl,?_⟩
     have n0_:=rb_ HO_14 hb;have n1_:=rb_ Aa hb;have n2_:=bz Ac hb;have n3_:=A_ (below_step bb_ hb);clear HO_14;clear Aa;clear Ac;clear HB;have HO_14:=n0_;have Aa:=n1_;have Ac:=n2_;have HB:=n3_;clear n0_ n1_ n2_ n3_;(try clear hb);(try clear hb2);(try clear hk);(try clear hi);refine hK.out _ _ ⟨blk_cell Ac.1 0,blk_cell Ac.1 1,HS2_,HS3_⟩ (fun hHeld=>?_)
     clear hK K;refine norm_ (a':=?_) ?_ ?_
     rotate_left
     ·show Act.put _ (some 119) _ = _
      simp only [Act.put,L_,M_,N_,i64_w,i32_w]
      rfl
     refine pu_ (i:=8) (N:=111) #[T,T,T,T,T,T,T,T,T,F,F,F,F] HT_.1 rfl rfl (fun _ _ _ h=>h) rfl (h:=?_)
     refine pu_ (i:=9) (N:=120) #[T,T,T,T,T,T,T,T,T,T,F,F,F] HT_.1 rfl rfl (fun _ _ _ h=>h) rfl (h:=?_)
     refine pu_ (i:=10) (N:=121) #[T,T,T,T,T,T,T,T,T,T,T,F,F] HT_.1 rfl rfl (fun _ _ _ h=>h) rfl (h:=?_)
     refine pu_ (i:=11) (N:=18) #[T,T,T,T,T,T,T,T,T,T,T,T,F] HT_.1 rfl rfl (fun _ _ _ h=>h) rfl (h:=?_)
     refine pu_ (i:=12) (N:=19) #[T,T,T,T,T,T,T,T,T,T,T,T,T] HT_.1 rfl rfl (fun _ _ _ h=>h) rfl (h:=?_)
     refine done_ (done_of HT_.1 (by kernel_rfl)) ?_
     try go_wp2
     have n0_:=A_ (Kd.R_drew HO_14.1);have n1_:=A_ (Kd.R_drew Aa.1);have n2_:=A_ (blk_drew Ac.1);have n3_:=A_ (below_drew1 HB.1);clear HO_14;clear Aa;clear Ac;clear HB;have HO_14:=n0_;have Aa:=n1_;have Ac:=n2_;have HB:=n3_;clear n0_ n1_ n2_ n3_;have Bc : 0 ≤ (1 : Int):=(by omega);have Bd : 1 < (Ab.length : Int):=of_decide_eq_true (by first|(with_reducible assumption)|assumption);obtain ⟨Bu,B4,Ao⟩:=Kd.at_int (Kd.R_reads' HO_14.1).2.2 1 Bc Bd;obtain rfl : Ae = Bu:=(by injection B4);(try simp only [show (1 : Int).toNat = 1 from rfl,Nat.reduceMul,Nat.reduceEqDiff,Go.Addr.add,↓reduceIte] at Ao);have Ci : (1 < Ab.length) = True:=eq_true (by omega);(try rw [show ((1 : Int)).toNat = 1 from rfl] at Ao);replace Bc:=eq_true Bc;replace Bd:=eq_true Bd;have Be : 0 ≤ (2 : Int):=(by omega);have Bf : 2 < (Ab.length : Int):=of_decide_eq_true (by first|(with_reducible assumption)|assumption);obtain ⟨Bv,B6,Ap⟩:=Kd.at_int (Kd.R_reads' HO_14.1).2.2 2 Be Bf;obtain rfl : Ae = Bv:=(by injection B6);(try simp only [show (2 : Int).toNat = 2 from rfl,Nat.reduceMul,Nat.reduceEqDiff,Go.Addr.add,↓reduceIte] at Ap);have Cj : (2 < Ab.length) = True:=eq_true (by omega);(try rw [show ((2 : Int)).toNat = 2 from rfl] at Ap);replace Be:=eq_true Be;replace Bf:=eq_true Bf;refine start_ (n:=13) (S:=fun w'=>w'.cell? ⟨Ar,0,none⟩ = some (.int .i64 Aj) ∧ w'.cell? ⟨Ar,1,none⟩ = some (.slice Ao14 Ag.length co14) ∧ w'.cell? ⟨Ae.block,Ae.off + 1,none⟩ = some (.int .i64 (rd Ab 1)) ∧ w'.cell? ⟨Ae.block,Ae.off + 2,none⟩ = some (.int .i64 (rd Ab 2))) (ds:=[]) #[F,F,F,F,F,F,F,F,F,F,F,F,F] (by kernel_rfl) rfl rfl ⟨blk_cell Ac.1 0,blk_cell Ac.1 1,Ao,Ap⟩ (fun hHeld=>?_);refine with_tabW Aac.tab16 Aac.bits16 (fun HT_ HW_=>?_)
     generalize w59.drew = w60 at HO_14 Aa Ac HB Ao Ap hHeld ⊢
     refine pu_ (i:=1) (N:=124) #[F,T,F,F,F,F,F,F,F,F,F,F,F] HT_.1 rfl rfl (fun _ _ _ h=>h) rfl (h:=?_)
     refine pu_ (i:=2) (N:=125) #[F,T,T,F,F,F,F,F,F,F,F,F,F] HT_.1 rfl rfl (fun _ _ _ h=>h) rfl (h:=?_)
     refine pu_ (i:=4) (N:=127) #[F,T,T,F,T,F,F,F,F,F,F,F,F] HT_.1 rfl rfl (fun _ _ _ h=>h) rfl (h:=?_)
     refine pu_ (i:=5) (N:=128) #[F,T,T,F,T,T,F,F,F,F,F,F,F] HT_.1 rfl rfl (fun _ _ _ h=>h) rfl (h:=?_)
     refine take_ (i:=0) (N:=some 123) (v:=?_) (a':=?_) #[T,T,T,F,T,T,F,F,F,F,F,F,F] rfl rfl (take_ofW HT_.1 HW_.1 (by kernel_rfl)) (fun _ _ _ h=>h) (Or.inl ⟨by rfl,?_⟩) hHeld ?_ ?_
     rotate_left
     ·rintro w' ⟨s0,s1,s2,s3⟩
      go_simp
      with_reducible rfl
     rotate_left;·simp only [Act.put,L_,M_,N_,i64_w,i32_w];rfl
     refine take_ (i:=3) (N:=some 126) (v:=?_) (a':=?_) #[T,T,T,T,T,T,F,F,F,F,F,F,F] rfl rfl (take_ofW HT_.1 HW_.1 (by kernel_rfl)) (fun _ _ _ h=>h) (Or.inl ⟨by rfl,?_⟩) hHeld ?_ ?_
     rotate_left
     ·rintro w' ⟨s0,s1,s2,s3⟩
      go_simp
      with_reducible rfl
     rotate_left;·simp only [Act.put,L_,M_,N_,i64_w,i32_w];rfl
     refine take_ (i:=6) (N:=some 129) (v:=?_) (a':=?_) #[T,T,T,T,T,T,T,F,F,F,F,F,F] rfl rfl (take_ofW HT_.1 HW_.1 (by kernel_rfl)) (fun _ _ _ h=>h) (Or.inl ⟨by rfl,?_⟩) hHeld ?_ ?_
     rotate_left
     ·rintro w' ⟨s0,s1,s2,s3⟩
      go_simp
      with_reducible rfl
     rotate_left;·simp only [Act.put,L_,M_,N_,i64_w,i32_w];rfl
     refine one_ (i:=7) (N:=some 130) #[T,T,T,T,T,T,T,T,F,F,F,F,F] rfl rfl (one_of HT_.1 (by kernel_rfl)) (by decide) (fun K hK=>?_)
     refine goes_ Tryd.func38 (by kernel_rfl) rfl #[.agg #[.int .i64 Aj,.slice Ao14 Ag.length co14],.int .i64 (rd Ab 1),.int .i64 (rd Ab 2)] (by rfl) rfl rfl au_ ?_
     with_reducible refine (Abw.calls kj32 Aj _ _ Ag (rd Ab 1) (rd Ab 2) Bo Bp _ ?side1 ?side2 A55.1).mono ?_
     (case side1=>exact cl_ (Kd.R_reads' Aa.1).2.2)
     (case side2=>exact (Kd.R_reads' Aa.1).2.1)
     rintro e w61 ⟨rfl,hb⟩
     have HS2_:=(hb.cell (World.block_lt_of_cell? _ _ (hHeld.2.2.1))).trans (hHeld.2.2.1);have HS3_:=(hb.cell (World.block_lt_of_cell? _ _ (hHeld.2.2.2))).trans (hHeld.2.2.2);refine ⟨_,rfl,?_⟩
     have n0_:=rb_ HO_14 hb;have n1_:=rb_ Aa hb;have n2_:=bz Ac hb;have n3_:=A_ (below_step bb_ hb);clear HO_14;clear Aa;clear Ac;clear HB;have HO_14:=n0_;have Aa:=n1_;have Ac:=n2_;have HB:=n3_;clear n0_ n1_ n2_ n3_;(try clear hb);(try clear hb2);(try clear hk);(try clear hi);refine hK.out _ _ ⟨blk_cell Ac.1 0,blk_cell Ac.1 1,HS2_,HS3_⟩ (fun hHeld=>?_)
     clear hK K;refine norm_ (a':=?_) ?_ ?_
     rotate_left
     ·show Act.put _ (some 130) _ = _
      simp only [Act.put,L_,M_,N_,i64_w,i32_w]
      rfl
     refine pu_ (i:=8) (N:=122) #[T,T,T,T,T,T,T,T,T,F,F,F,F] HT_.1 rfl rfl (fun _ _ _ h=>h) rfl (h:=?_)
     refine pu_ (i:=9) (N:=131) #[T,T,T,T,T,T,T,T,T,T,F,F,F] HT_.1 rfl rfl (fun _ _ _ h=>h) rfl (h:=?_)
     refine pu_ (i:=10) (N:=132) #[T,T,T,T,T,T,T,T,T,T,T,F,F] HT_.1 rfl rfl (fun _ _ _ h=>h) rfl (h:=?_)
     refine pu_ (i:=11) (N:=20) #[T,T,T,T,T,T,T,T,T,T,T,T,F] HT_.1 rfl rfl (fun _ _ _ h=>h) rfl (h:=?_)
     refine pu_ (i:=12) (N:=21) #[T,T,T,T,T,T,T,T,T,T,T,T,T] HT_.1 rfl rfl (fun _ _ _ h=>h) rfl (h:=?_)
     refine done_ (done_of HT_.1 (by kernel_rfl)) ?_
     go_upto_region 17 with (fail)
     go_cut [146] (fun B8 wc=>∃ (kq : Nat) (Aw : Bool),B8 = .bool Aw ∧ Aside0 (Aac.j2 kq Bh Bi Ab Aw Aj Ag = some r) ∧ Aside0 (kq ≤ kj32) ∧ Aside0 (Kd.R (Kd.int .i64) 3 wc w.heap.size (fun k_=>some k_ ≠ ((.slice Ao14 Ag.length co14) : Value).ownBlock) (.slice (some Ae) Ab.length co58) Ab) ∧ Aside0 (Kd.R (Kd.int .i64) 3 wc w.heap.size (fun k_=>some k_ ≠ ((.slice (some Ae) Ab.length co58) : Value).ownBlock) (.slice Ao14 Ag.length co14) Ag) ∧ Aside0 (wc.heap[Ar]? = some (.cells #[.int .i64 Aj,(.slice Ao14 Ag.length co14)] 26 (0,0))) ∧ Aside0 (Below w.heap.size w wc))
     case first =>
      have H:=HC56.1;clear HC56;by_cases c62 : Bn = true
      ·subst c62;rw [if_pos rfl] at H;by_cases c63 : Bp = true
       ·subst c63;rw [if_pos rfl] at H;by_cases c64 : Bm = true
        ·subst c64;rw [if_pos rfl] at H;have H':=A_ H;clear H;go_wp2
         go_meet
         case rel=>exact ⟨_,(!Bo),(by first|rfl|(simp;done)|(simp [*];done)),H',⟨by have:=HJ9.1;have:=HJ32.1;first|omega|exact Nat.le_refl _⟩,⟨rl_ HO_14⟩,⟨rl_ Aa⟩,⟨bl_ Ac⟩,⟨bb_⟩⟩
        ·replace c64:=Bool.eq_false_iff.mpr c64;subst c64;rw [if_neg nf_] at H;have H':=A_ H;clear H;go_wp2
         go_meet
         case rel=>exact ⟨_,(true),(by first|rfl|(simp;done)|(simp [*];done)),H',⟨by have:=HJ9.1;have:=HJ32.1;first|omega|exact Nat.le_refl _⟩,⟨rl_ HO_14⟩,⟨rl_ Aa⟩,⟨bl_ Ac⟩,⟨bb_⟩⟩
       ·replace c63:=Bool.eq_false_iff.mpr c63;subst c63;rw [if_neg nf_] at H;have H':=A_ H;clear H;go_wp2
        go_meet
        case rel=>exact ⟨_,(true),(by first|rfl|(simp;done)|(simp [*];done)),H',⟨by have:=HJ9.1;have:=HJ32.1;first|omega|exact Nat.le_refl _⟩,⟨rl_ HO_14⟩,⟨rl_ Aa⟩,⟨bl_ Ac⟩,⟨bb_⟩⟩
      ·replace c62:=Bool.eq_false_iff.mpr c62;subst c62;rw [if_neg nf_] at H;have H':=A_ H;clear H;go_wp2
       go_meet
       case rel=>exact ⟨_,(true),(by first|rfl|(simp;done)|(simp [*];done)),H',⟨by have:=HJ9.1;have:=HJ32.1;first|omega|exact Nat.le_refl _⟩,⟨rl_ HO_14⟩,⟨rl_ Aa⟩,⟨bl_ Ac⟩,⟨bb_⟩⟩
     case rest =>
      clear HC56;try clear c1
      try clear p1
      try clear q1
      try clear hx1
      try clear qi1
      try clear c2
      try clear p2
      try clear c3
      try clear c4
      try clear c5
      try clear c6
      try clear c9
      try clear p10
      try clear q10
      try clear hx10
      try clear qi10
      try clear c22
      try clear c22b0
      try clear c22b1
      try clear c22b2
      try clear c23
      try clear c23b0
      try clear c23b1
      try clear c24
      try clear c24b0
      try clear c24b1
      try clear c24b2
      try clear c25
      try clear c25b0
      try clear c25b1
      try clear c25b2
      try clear c26
      try clear c26b0
      try clear c26b1
      try clear c26b2
      try clear c30
      try clear c31
      try clear c32
      try clear c33
      try clear c34
      try clear c35
      try clear c36
      try clear c38
      try clear c38b0
      try clear c38b1
      try clear c38b2
      try clear c40
      try clear c41
      try clear c48
      try clear c50
      try clear c51
      try clear c51b0
      try clear c51b1
      try clear c52
      try clear c52b0
      try clear c52b1
      try clear c54
      try clear c54b0
      try clear c54b1
      try clear c62
      try clear c63
      try clear c64
      try clear hcz13_0
      try clear hcz13_1
      try clear hcz16_0
      try clear hcz16_1
      try clear hcz18_0
      try clear hcz18_1
      try clear hcz20_0
      try clear hcz20_1
      try clear hcz28_0
      try clear hcz28_1
      try clear hcz34_0
      try clear hcz34_1
      try clear hcz36_0
      try clear hcz36_1
      try clear hfz13_0
      try clear hfz13_1
      try clear hfz16_0
      try clear hfz16_1
      try clear hfz18_0
      try clear hfz18_1
      try clear hfz20_0
      try clear hfz20_1
      try clear hfz28_0
      try clear hfz28_1
      try clear hfz34_0
      try clear hfz34_1
      try clear hfz36_0
      try clear hfz36_1
      try clear Am
      try clear An
      try clear Ao
      try clear Ap
      try clear Ay
      try clear Ba
      try clear Bc
      try clear Be
      try clear p2
      try clear Az
      try clear Bb
      try clear Bd
      try clear Bf
      obtain ⟨kq,Aw,rfl,HA,HJ55,HO_14,Aa,Ac,HB⟩:=hcut;cases kq with
      | zero=>exact absurd HA.1 (by simp [Aac.j2])
      | succ kj55 =>
       have H:=HA.1;clear HA;simp only [Aac.j2] at H
       by_cases c65 : Aw = true
       ·subst c65;rw [if_pos rfl] at H;obtain rfl:=Option.some.inj H;go_wp2
        go_ret
        exact ⟨by first|rfl|(simp [errW_none,errW_some] <;> rfl)|(simp [*,errW_none,errW_some] <;> rfl),bb_⟩
       ·replace c65:=Bool.eq_false_iff.mpr c65;subst c65;rw [if_neg nf_] at H;by_cases c66 : 3 ≤ (Ab.length : Int)
        ·rw [if_pos c66] at H;have c66b0:=eq_true c66;have c66b1 : decide (3 ≤ (Ab.length : Int)) = true:=decide_eq_true c66;clear c66;obtain ⟨Ah,Au⟩ : ∃ y_ : List Int,y_ = (Ab.take 3):=⟨_,rfl⟩;replace H : (Aac.l0 kj55 Bh Bi Ab Ah (Ah.length : Int) 0 Aj Ag) = some r:=by first|(rw [Au];with_reducible exact H)|(have H2_:=(Option.bind_some _ _).symm.trans H;rw [Au];with_reducible exact H2_)|(have H2_:=(Option.bind_some _ _).symm.trans H;with_reducible exact H2_)|with_reducible exact H|(rw [Au];exact H)|exact H
         have Bl:=A_ Au;clear Au;have H':=A_ H;clear H;have q67 : (3 : Int) ≤ ((Ab.length : Int) : Int):=of_decide_eq_true (by first|(with_reducible assumption)|assumption);obtain ⟨Ft,Bq,_,hsz67,_⟩:=info_parts info3;have hroom67 : Ab.length ≤ co58:=(Kd.R_reads' HO_14.1).2.1;have hC67 : Kd.C (Kd.int .i64) _ (some Ae) Ab.length Ab:=(Kd.R_reads' HO_14.1).2.2;have hcut67:=cut_to (P:=Tryd.prog) 24 3 .i64 Tryd.underlying24 Bq (some Ae) Ab.length co58 3 (by omega) q67 hroom67;have hr67:=Kd.C_take (m:=3) hC67 (by omega);have hy67 : Ah.length = (3 : Int).toNat:=(by rw [Bl.1,U_];omega);rw [← Bl.1] at hr67;rw [← hy67] at hcut67;have Af:=A_ hr67;have Ck:=A_ (show Ah.length ≤ co58 from by omega);clear hr67 hC67 hroom67 Bq hsz67;have KY67:=A_ hy67;clear hy67;have KL67:=A_ (show 3 ≤ Ab.length from by omega);replace q67:=eq_true q67;go_wp2
         go_loopg [150] kj55 (fun kq Ca w'=>∃ (Ad : Int),Ca = .int .i64 Ad ∧ Aside0 (Aac.l0 kq Bh Bi Ab Ah (Ah.length : Int) Ad Aj Ag = some r) ∧ Aside0 (kq ≤ kj55) ∧ Aside0 (Kd.R (Kd.int .i64) 3 w' w.heap.size (fun k_=>some k_ ≠ ((.slice Ao14 Ag.length co14) : Value).ownBlock) (.slice (some Ae) Ab.length co58) Ab) ∧ Aside0 (Kd.R (Kd.int .i64) 3 w' w.heap.size (fun k_=>some k_ ≠ ((.slice (some Ae) Ab.length co58) : Value).ownBlock) (.slice Ao14 Ag.length co14) Ag) ∧ Aside0 (w'.heap[Ar]? = some (.cells #[.int .i64 Aj,(.slice Ao14 Ag.length co14)] 26 (0,0))) ∧ Aside0 (Kd.C (Kd.int .i64) w' (some Ae) Ah.length Ah) ∧ Aside0 (Below w.heap.size w w'))
         case atStart=>exact ⟨(0),(by first|rfl|(simp;done)|(simp [*];done)),H',⟨Nat.le_refl _⟩,⟨rl_ HO_14⟩,⟨rl_ Aa⟩,⟨bl_ Ac⟩,⟨by repeat (first|(with_reducible exact Af.1)|(with_reducible refine Kd.C_alloc ?_ _)|(with_reducible refine Kd.C_drewN ?_ _)|(with_reducible refine Kd.C_drew ?_)|exact Af.1)⟩,⟨bb_⟩⟩
         case round =>
          clear H';try clear c1
          try clear p1
          try clear q1
          try clear hx1
          try clear qi1
          try clear c2
          try clear p2
          try clear c3
          try clear c4
          try clear c5
          try clear c6
          try clear q6
          try clear c9
          try clear p10
          try clear q10
          try clear hx10
          try clear qi10
          try clear c22
          try clear c22b0
          try clear c22b1
          try clear c22b2
          try clear c23
          try clear c23b0
          try clear c23b1
          try clear c24
          try clear c24b0
          try clear c24b1
          try clear c24b2
          try clear c25
          try clear c25b0
          try clear c25b1
          try clear c25b2
          try clear c26
          try clear c26b0
          try clear c26b1
          try clear c26b2
          try clear c30
          try clear c31
          try clear c32
          try clear c33
          try clear c34
          try clear c35
          try clear c36
          try clear c38
          try clear c38b0
          try clear c38b1
          try clear c38b2
          try clear c40
          try clear c41
          try clear c48
          try clear c50
          try clear c51
          try clear c51b0
          try clear c51b1
          try clear c52
          try clear c52b0
          try clear c52b1
          try clear c54
          try clear c54b0
          try clear c54b1
          try clear c62
          try clear c63
          try clear c64
          try clear c65
          try clear c66
          try clear c66b0
          try clear c66b1
          try clear q67
          try clear hcz13_0
          try clear hcz13_1
          try clear hcz16_0
          try clear hcz16_1
          try clear hcz18_0
          try clear hcz18_1
          try clear hcz20_0
          try clear hcz20_1
          try clear hcz28_0
          try clear hcz28_1
          try clear hcz34_0
          try clear hcz34_1
          try clear hcz36_0
          try clear hcz36_1
          try clear hfz13_0
          try clear hfz13_1
          try clear hfz16_0
          try clear hfz16_1
          try clear hfz18_0
          try clear hfz18_1
          try clear hfz20_0
          try clear hfz20_1
          try clear hfz28_0
          try clear hfz28_1
          try clear hfz34_0
          try clear hfz34_1
          try clear hfz36_0
          try clear hfz36_1
          try clear Am
          try clear An
          try clear Ao
          try clear Ap
          try clear p1
          try clear p10
          try clear Ay
          try clear Ba
          try clear Bc
          try clear Be
          try clear p2
          try clear q1
          try clear q10
          try clear Az
          try clear Bb
          try clear Bd
          try clear Bf
          try clear q67
          obtain ⟨Ad,rfl,HA,HK4,HO_14,Aa,Ac,Af,HB⟩:=hrel;cases gk with
          | zero=>exact absurd HA.1 (by simp [Aac.l0])
          | succ k4 =>
           have H:=HA.1;clear HA;simp only [Aac.l0] at H
           by_cases c68 : Ad < (Ah.length : Int)
           ·rw [if_pos c68] at H;have c68b0 : decide (Ad < (Ah.length : Int)) = true:=decide_eq_true c68;clear c68;by_cases c69 : 0 ≤ Ad
            ·rw [if_pos c69] at H;have c69b0 : decide (0 ≤ Ad) = true:=decide_eq_true c69;clear c69;by_cases c70 : Ad < (Ah.length : Int)
             ·rw [if_pos c70] at H;have c70b0 : decide (Ad < (Ah.length : Int)) = true:=decide_eq_true c70;clear c70;replace H:=Option.bind_eq_some_iff.mp H;obtain ⟨⟨Ax,B7⟩,Bw,H⟩:=H;(try dsimp only at H);have A71:=A_ Bw;clear Bw;by_cases c72 : B7 = true
              ·subst c72;rw [if_pos rfl] at H;by_cases c73 : 3 < (Ab.length : Int)
               ·rw [if_pos c73] at H;have c73b0 : decide (3 < (Ab.length : Int)) = true:=decide_eq_true c73;have c73b1 : decide (3 < Ab.length) = true:=decide_eq_true (by omega);clear c73;by_cases c74 : 0 ≤ (rd Ab 3)
                ·rw [if_pos c74] at H;have c74b0:=eq_true c74;have c74b1 : decide (0 ≤ (rd Ab 3)) = true:=decide_eq_true c74;clear c74;obtain ⟨ji75,hji75⟩ : ∃ j_ : Int,(shr .i64 Ax (rd Ab 3)) = j_:=⟨_,rfl⟩;replace H : (if (Int.tmod (ji75) 2) = 1 then (Aac.l0 k4 Bh Bi Ab Ah (Ah.length : Int) (wrap64 (Ad + 1)) Aj Ag) else (some false)) = some r:=by first|(rw [hji75] at H;exact H)|(simp only [hji75] at H ⊢;exact H)
                 (try rw [hji75] at A71);have hji75_ : (Ax / 2 ^ min (rd Ab 3).toNat 64) = ji75:=hji75;have hji75z : (rd Ab 3) ≤ 64 → (Ax / 2 ^ (rd Ab 3).toNat) = ji75:=shr_small hji75;by_cases c76 : (Int.tmod (ji75) 2) = 1
                 ·rw [if_pos c76] at H;have c76b0 : ((Int.tmod (ji75) 2) == 1) = true:=beq_iff_eq.mpr c76;have c76b1 : ((Int.tmod (ji75) 2) != 1) = false:=bne_eq_false_iff_eq.mpr c76;clear c76;have H':=A_ H;clear H;have Ak : 0 ≤ (Ad : Int):=of_decide_eq_true (by first|(with_reducible assumption)|assumption);have Al : Ad < (Ah.length : Int):=of_decide_eq_true (by first|(with_reducible assumption)|assumption);obtain ⟨Av,Bg,Ai⟩:=Kd.at_int Af.1 Ad Ak Al;obtain rfl : Ae = Av:=(by injection Bg);(try replace Ai:=(HB.1.cell (World.block_lt_of_cell? w _ Ai)).trans Ai);replace Ak:=eq_true Ak;replace Al:=eq_true Al;obtain ⟨Z,Z,Z,Z⟩:=o2_ Ac.1;go_wp2_with (first|((with_reducible refine gate_callee (f:=39) rfl ?_);refine goesL_ (some 157) rfl rfl Tryd.func39 (by kernel_rfl) rfl #[.agg #[.int .i64 Aj,.slice Ao14 Ag.length co14],.int .i64 (rd Ah Ad)] rfl au_ ?_;(with_reducible refine (Abn.calls k4 Aj _ _ Ag (rd Ah Ad) Ax true _ ?side1 ?side2 A71.1).mono ?_);(case side1=>exact cl_ (Kd.R_reads' Aa.1).2.2);(case side2=>exact (Kd.R_reads' Aa.1).2.1);rintro e w78 ⟨rfl,hb⟩;refine ⟨_,rfl,?_⟩;have n0_:=rb_ HO_14 hb;have n1_:=rb_ Aa hb;have n2_:=bz Ac hb;have n3_:=A_ (Kd.C_below (by repeat (first|(with_reducible exact Af.1)|(with_reducible refine Kd.C_alloc ?_ _)|(with_reducible refine Kd.C_drewN ?_ _)|(with_reducible refine Kd.C_drew ?_)|exact Af.1)) hb);have n4_:=A_ (below_step bb_ hb);clear HO_14;clear Aa;clear Ac;clear Af;clear HB;have HO_14:=n0_;have Aa:=n1_;have Ac:=n2_;have Af:=n3_;have HB:=n4_;clear n0_ n1_ n2_ n3_ n4_;(try clear hb);(try clear hb2);(try clear hk);(try clear hi);have As : 0 ≤ (3 : Int):=(by omega);have At : 3 < (Ab.length : Int):=of_decide_eq_true (by first|(with_reducible assumption)|assumption);obtain ⟨Bj,Bk,Aq⟩:=Kd.at_int (Kd.R_reads' HO_14.1).2.2 3 As At;obtain rfl : Ae = Bj:=(by injection Bk);(try simp only [show (3 : Int).toNat = 3 from rfl,Nat.reduceMul,Nat.reduceEqDiff,Go.Addr.add,↓reduceIte] at Aq);have Bx : (3 < Ab.length) = True:=eq_true (by omega);(try rw [show ((3 : Int)).toNat = 3 from rfl] at Aq);replace As:=eq_true As;replace At:=eq_true At))
                  go_roundg k4
                  case measure=>have:=HJ9.1;have:=HJ32.1;have:=HJ55.1;have:=HK4.1;omega
                  case rel=>exact ⟨(wrap64 (Ad + 1)),(by first|rfl|(simp;done)|(simp [*];done)),H',⟨by have:=HJ9.1;have:=HJ32.1;have:=HJ55.1;have:=HK4.1;omega⟩,⟨rl_ HO_14⟩,⟨rl_ Aa⟩,⟨bl_ Ac⟩,⟨by repeat (first|(with_reducible exact Af.1)|(with_reducible refine Kd.C_alloc ?_ _)|(with_reducible refine Kd.C_drewN ?_ _)|(with_reducible refine Kd.C_drew ?_)|exact Af.1)⟩,⟨bb_⟩⟩
                 ·rw [if_neg c76] at H;have c76b0 : ((Int.tmod (ji75) 2) == 1) = false:=beq_eq_false_iff_ne.mpr c76;have c76b1 : ((Int.tmod (ji75) 2) != 1) = true:=bne_iff_ne.mpr c76;obtain rfl:=Option.some.inj H;have Ak : 0 ≤ (Ad : Int):=of_decide_eq_true (by first|(with_reducible assumption)|assumption);have Al : Ad < (Ah.length : Int):=of_decide_eq_true (by first|(with_reducible assumption)|assumption);obtain ⟨Av,Bg,Ai⟩:=Kd.at_int Af.1 Ad Ak Al;obtain rfl : Ae = Av:=(by injection Bg);(try replace Ai:=(HB.1.cell (World.block_lt_of_cell? w _ Ai)).trans Ai);replace Ak:=eq_true Ak;replace Al:=eq_true Al;obtain ⟨Z,Z,Z,Z⟩:=o2_ Ac.1;go_wp2_with (first|((with_reducible refine gate_callee (f:=39) rfl ?_);refine goesL_ (some 157) rfl rfl Tryd.func39 (by kernel_rfl) rfl #[.agg #[.int .i64 Aj,.slice Ao14 Ag.length co14],.int .i64 (rd Ah Ad)] rfl au_ ?_;(with_reducible refine (Abn.calls k4 Aj _ _ Ag (rd Ah Ad) Ax true _ ?side1 ?side2 A71.1).mono ?_);(case side1=>exact cl_ (Kd.R_reads' Aa.1).2.2);(case side2=>exact (Kd.R_reads' Aa.1).2.1);rintro e w80 ⟨rfl,hb⟩;refine ⟨_,rfl,?_⟩;have n0_:=rb_ HO_14 hb;have n1_:=rb_ Aa hb;have n2_:=bz Ac hb;have n3_:=A_ (Kd.C_below (by repeat (first|(with_reducible exact Af.1)|(with_reducible refine Kd.C_alloc ?_ _)|(with_reducible refine Kd.C_drewN ?_ _)|(with_reducible refine Kd.C_drew ?_)|exact Af.1)) hb);have n4_:=A_ (below_step bb_ hb);clear HO_14;clear Aa;clear Ac;clear Af;clear HB;have HO_14:=n0_;have Aa:=n1_;have Ac:=n2_;have Af:=n3_;have HB:=n4_;clear n0_ n1_ n2_ n3_ n4_;(try clear hb);(try clear hb2);(try clear hk);(try clear hi);have As : 0 ≤ (3 : Int):=(by omega);have At : 3 < (Ab.length : Int):=of_decide_eq_true (by first|(with_reducible assumption)|assumption);obtain ⟨Bj,Bk,Aq⟩:=Kd.at_int (Kd.R_reads' HO_14.1).2.2 3 As At;obtain rfl : Ae = Bj:=(by injection Bk);(try simp only [show (3 : Int).toNat = 3 from rfl,Nat.reduceMul,Nat.reduceEqDiff,Go.Addr.add,↓reduceIte] at Aq);have Bx : (3 < Ab.length) = True:=eq_true (by omega);(try rw [show ((3 : Int)).toNat = 3 from rfl] at Aq);replace As:=eq_true As;replace At:=eq_true At))
                  go_ret
                  exact ⟨by first|rfl|(simp [errW_none,errW_some] <;> rfl)|(simp only [← hji75];first|rfl|(simp [errW_none,errW_some] <;> rfl))|(simp [*,errW_none,errW_some] <;> rfl),bb_⟩
                ·rw [if_neg c74] at H;exact absurd H (by simp)
               ·rw [if_neg c73] at H;exact absurd H (by simp)
              ·replace c72:=Bool.eq_false_iff.mpr c72;subst c72;rw [if_neg nf_] at H;obtain rfl:=Option.some.inj H;have Ak : 0 ≤ (Ad : Int):=of_decide_eq_true (by first|(with_reducible assumption)|assumption);have Al : Ad < (Ah.length : Int):=of_decide_eq_true (by first|(with_reducible assumption)|assumption);obtain ⟨Av,Bg,Ai⟩:=Kd.at_int Af.1 Ad Ak Al;obtain rfl : Ae = Av:=(by injection Bg);(try replace Ai:=(HB.1.cell (World.block_lt_of_cell? w _ Ai)).trans Ai);replace Ak:=eq_true Ak;replace Al:=eq_true Al;obtain ⟨Z,Z,Z,Z⟩:=o2_ Ac.1;go_wp2_with (first|((with_reducible refine gate_callee (f:=39) rfl ?_);refine goesL_ (some 157) rfl rfl Tryd.func39 (by kernel_rfl) rfl #[.agg #[.int .i64 Aj,.slice Ao14 Ag.length co14],.int .i64 (rd Ah Ad)] rfl au_ ?_;(with_reducible refine (Abn.calls k4 Aj _ _ Ag (rd Ah Ad) Ax false _ ?side1 ?side2 A71.1).mono ?_);(case side1=>exact cl_ (Kd.R_reads' Aa.1).2.2);(case side2=>exact (Kd.R_reads' Aa.1).2.1);rintro e w82 ⟨rfl,hb⟩;refine ⟨_,rfl,?_⟩;have n0_:=rb_ HO_14 hb;have n1_:=rb_ Aa hb;have n2_:=bz Ac hb;have n3_:=A_ (Kd.C_below (by repeat (first|(with_reducible exact Af.1)|(with_reducible refine Kd.C_alloc ?_ _)|(with_reducible refine Kd.C_drewN ?_ _)|(with_reducible refine Kd.C_drew ?_)|exact Af.1)) hb);have n4_:=A_ (below_step bb_ hb);clear HO_14;clear Aa;clear Ac;clear Af;clear HB;have HO_14:=n0_;have Aa:=n1_;have Ac:=n2_;have Af:=n3_;have HB:=n4_;clear n0_ n1_ n2_ n3_ n4_;(try clear hb);(try clear hb2);(try clear hk);(try clear hi)))
               go_ret
               exact ⟨by first|rfl|(simp [errW_none,errW_some] <;> rfl)|(simp [*,errW_none,errW_some] <;> rfl),bb_⟩
             ·rw [if_neg c70] at H;exact absurd H (by simp)
            ·rw [if_neg c69] at H;exact absurd H (by simp)
           ·rw [if_neg c68] at H;have c68b0 : decide (Ad < (Ah.length : Int)) = false:=decide_eq_false c68;clear c68;have H':=A_ H;clear H;go_wp2
            go_meet
            case rel=>exact ⟨_,H',⟨by have:=HJ9.1;have:=HJ32.1;have:=HJ55.1;have:=HK4.1;first|omega|exact Nat.le_refl _⟩,⟨rq_ (Kd.R_mono Aa.1 (fun _ hk=>trivial))⟩,⟨bl_ Ac⟩,⟨bb_⟩⟩
        ·rw [if_neg c66] at H;exact absurd H (by simp)
    ·rw [if_neg c54] at H;exact absurd H (by simp)
   ·rw [if_neg c52] at H;exact absurd H (by simp)
  ·rw [if_neg c51] at H;exact absurd H (by simp)
 ·replace c50:=Bool.eq_false_iff.mpr c50;subst c50;rw [if_neg nf_] at H;have H':=A_ H;clear H;go_wp2
  go_meet
  case rel=>exact ⟨_,H',⟨by have:=HJ9.1;have:=HJ32.1;first|omega|exact Nat.le_refl _⟩,⟨rq_ (Kd.R_mono Aa.1 (fun _ hk=>trivial))⟩,⟨bl_ Ac⟩,⟨bb_⟩⟩
set_option maxHeartbeats 8000000 in
set_option maxRecDepth 100000 in
theorem Aac.calls.rest2 : Aac.calls.part.2.1:=by
 intro k A0 c0 l0 A1 c1 l1 r w hu26 HT HR0 HC0 HR1 HC1 A3 Ae Ad A5 Ah At A6 Bs Bt A7 Bu Bv A8 Bw Bx A9 i0_ nd w11 Aq w12 Bn Bo Ao14 co14 w15 w17 w19 w21 Bp kj9 HJ9 Bz B0 A31 B2 B4 A32 w35 B6 w37 B7 Bq Br B8 HO_14 Aa Ab HB kj32 HJ32 HC49 Ca Cb wc u4 u18 u19 u20 u21 u23 u24 u25 u31 u32 u33 u34 u35 u36 u37 u38 u39 u40 u41 u42 u43 u44 u45 u46 u47 u48 u49 u50 u51 u52 u53 u54 u55 u56 u57 u58 u59 u60 u61 u62 u63 u64 u65 u66 u67 u68 u69 u70 u71 u72 u73 u74 u75 u76 u77 u78 u79 u80 u81 u82 u83 u84 u85 u86 u87 u88 u89 u90 u91 u92 u93 u94 u95 u96 u97 u98 u99 Cc Cd Ce Cf Cg Ch Ci Cj Ck Cl Cm Cn Co Cp Cq Cr Cs Ct Cu Cv Cw Cx Cy Cz C0 C1 C2 C3 C4 C5 C6 C7 C8 C9 Da Db Dc Dd De Df Dg Dh Di Dj Dk Dl Dm Dn Do Dp Dq Dr Ds Dt Du Dv Dw Dx Dy Dz D0 D1 D2 D3 D4 D5 D6 D7 D8 D9 Ea Eb Ec Ed Ee Ef Eg Eh Ei Ej Ek El Em En Eo Ep Er Es Et Eu Ew Ex Ey Ez E0 E1 E2 E3 E4 E5 E6 E7 E8 hcut
 clear HC49;try clear c1
 try clear p1
 try clear q1
 try clear hx1
 try clear qi1
 try clear c2
 try clear p2
 try clear c3
 try clear c4
 try clear c5
 try clear c6
 try clear p6
 try clear q6
 try clear c7
 try clear c9
 try clear p10
 try clear q10
 try clear hx10
 try clear qi10
 try clear c22
 try clear c22b0
 try clear c22b1
 try clear c22b2
 try clear c23
 try clear c23b0
 try clear c23b1
 try clear c24
 try clear c24b0
 try clear c24b1
 try clear c24b2
 try clear c25
 try clear c25b0
 try clear c25b1
 try clear c25b2
 try clear c26
 try clear c26b0
 try clear c26b1
 try clear c26b2
 try clear c30
 try clear c31
 try clear c32
 try clear c33
 try clear c34
 try clear c35
 try clear c36
 try clear c38
 try clear c38b0
 try clear c38b1
 try clear c38b2
 try clear c39
 try clear c40
 try clear c41
 try clear c48
 try clear c50
 try clear c51
 try clear c51b0
 try clear c51b1
 try clear c52
 try clear c52b0
 try clear c52b1
 try clear c54
 try clear c54b0
 try clear c54b1
 try clear c62
 try clear c63
 try clear c64
 try clear p64
 try clear c65
 try clear c66
 try clear c66b0
 try clear c66b1
 try clear q67
 try clear c68
 try clear c68b0
 try clear c69
 try clear c69b0
 try clear c70
 try clear c70b0
 try clear c72
 try clear c73
 try clear c73b0
 try clear c73b1
 try clear c74
 try clear c74b0
 try clear c74b1
 try clear c76
 try clear c76b0
 try clear c76b1
 try clear hcz13_0
 try clear hcz13_1
 try clear hcz16_0
 try clear hcz16_1
 try clear hcz18_0
 try clear hcz18_1
 try clear hcz20_0
 try clear hcz20_1
 try clear hcz28_0
 try clear hcz28_1
 try clear hcz34_0
 try clear hcz34_1
 try clear hcz36_0
 try clear hcz36_1
 try clear hcz77_0
 try clear hcz77_1
 try clear hcz79_0
 try clear hcz79_1
 try clear hcz81_0
 try clear hcz81_1
 try clear hfz13_0
 try clear hfz13_1
 try clear hfz16_0
 try clear hfz16_1
 try clear hfz18_0
 try clear hfz18_1
 try clear hfz20_0
 try clear hfz20_1
 try clear hfz28_0
 try clear hfz28_1
 try clear hfz34_0
 try clear hfz34_1
 try clear hfz36_0
 try clear hfz36_1
 try clear hfz77_0
 try clear hfz77_1
 try clear hfz79_0
 try clear hfz79_1
 try clear hfz81_0
 try clear hfz81_1
 try clear Aj
 try clear Ak
 try clear Al
 try clear Am
 try clear An
 try clear Ao
 try clear p1
 try clear p10
 try clear Au
 try clear Av
 try clear Aw
 try clear Ax
 try clear Ay
 try clear Az
 try clear p2
 try clear q1
 try clear q10
 try clear Ba
 try clear Bb
 try clear Bc
 try clear Bd
 try clear Be
 try clear Bf
 try clear q6
 try clear q67
 obtain ⟨kq,HA,HJ48,Aa,Ab,HB⟩:=hcut;cases kq with
 | zero=>exact absurd HA.1 (by simp [Aac.j4])
 | succ kj48 =>
  have H:=HA.1;clear HA;simp only [Aac.j4] at H
  by_cases c83 : At = true
  ·subst c83;rw [if_pos rfl] at H;have H':=A_ H;clear H;go_wp2
   go_loopg [26] kj48 (fun kq v26 w'=>∃ (x26_4 : Int),v26 = .int .i64 x26_4 ∧ Aside0 (Aac.l1 kq Ah x26_4 Ae Ad = some r) ∧ Aside0 (kq ≤ kj48) ∧ Aside0 (Kd.R (Kd.int .i64) 3 w' w.heap.size (fun _=>True) (.slice Ao14 Ad.length co14) Ad) ∧ Aside0 (w'.heap[Aq]? = some (.cells #[.int .i64 Ae,(.slice Ao14 Ad.length co14)] 26 (0,0))) ∧ Aside0 (Below w.heap.size w w'))
   case atStart=>exact ⟨(1),(by first|rfl|(simp;done)|(simp [*];done)),H',⟨Nat.le_refl _⟩,⟨rl_ Aa⟩,⟨bl_ Ab⟩,⟨bb_⟩⟩
   case round =>
    clear H';try clear c1
    try clear p1
    try clear q1
    try clear hx1
    try clear qi1
    try clear c2
    try clear p2
    try clear c3
    try clear c4
    try clear c5
    try clear c6
    try clear p6
    try clear q6
    try clear c7
    try clear c8
    try clear c9
    try clear p10
    try clear q10
    try clear hx10
    try clear qi10
    try clear c22
    try clear c22b0
    try clear c22b1
    try clear c22b2
    try clear c23
    try clear c23b0
    try clear c23b1
    try clear c24
    try clear c24b0
    try clear c24b1
    try clear c24b2
    try clear c25
    try clear c25b0
    try clear c25b1
    try clear c25b2
    try clear c26
    try clear c26b0
    try clear c26b1
    try clear c26b2
    try clear c30
    try clear c31
    try clear c32
    try clear c33
    try clear c34
    try clear c35
    try clear c36
    try clear c38
    try clear c38b0
    try clear c38b1
    try clear c38b2
    try clear c39
    try clear c40
    try clear c41
    try clear c48
    try clear c50
    try clear c51
    try clear c51b0
    try clear c51b1
    try clear c52
    try clear c52b0
    try clear c52b1
    try clear c54
    try clear c54b0
    try clear c54b1
    try clear c62
    try clear c63
    try clear c64
    try clear p64
    try clear c65
    try clear c66
    try clear c66b0
    try clear c66b1
    try clear q67
    try clear c68
    try clear c68b0
    try clear c69
    try clear c69b0
    try clear c70
    try clear c70b0
    try clear c72
    try clear c73
    try clear c73b0
    try clear c73b1
    try clear c74
    try clear c74b0
    try clear c74b1
    try clear c76
    try clear c76b0
    try clear c76b1
    try clear c83
    try clear hcz13_0
    try clear hcz13_1
    try clear hcz16_0
    try clear hcz16_1
    try clear hcz18_0
    try clear hcz18_1
    try clear hcz20_0
    try clear hcz20_1
    try clear hcz28_0
    try clear hcz28_1
    try clear hcz34_0
    try clear hcz34_1
    try clear hcz36_0
    try clear hcz36_1
    try clear hcz77_0
    try clear hcz77_1
    try clear hcz79_0
    try clear hcz79_1
    try clear hcz81_0
    try clear hcz81_1
    try clear hfz13_0
    try clear hfz13_1
    try clear hfz16_0
    try clear hfz16_1
    try clear hfz18_0
    try clear hfz18_1
    try clear hfz20_0
    try clear hfz20_1
    try clear hfz28_0
    try clear hfz28_1
    try clear hfz34_0
    try clear hfz34_1
    try clear hfz36_0
    try clear hfz36_1
    try clear hfz77_0
    try clear hfz77_1
    try clear hfz79_0
    try clear hfz79_1
    try clear hfz81_0
    try clear hfz81_1
    try clear Aj
    try clear Ak
    try clear Al
    try clear Am
    try clear An
    try clear Ao
    try clear p1
    try clear p10
    try clear Au
    try clear Av
    try clear Aw
    try clear Ax
    try clear Ay
    try clear Az
    try clear p2
    try clear p6
    try clear p64
    try clear q1
    try clear q10
    try clear Ba
    try clear Bb
    try clear Bc
    try clear Bd
    try clear Be
    try clear Bf
    try clear q6
    try clear q67
    obtain ⟨x26_4,rfl,HA,HK4,Aa,Ab,HB⟩:=hrel;cases gk with
    | zero=>exact absurd HA.1 (by simp [Aac.l1])
    | succ k4 =>
     have H:=HA.1;clear HA;simp only [Aac.l1] at H
     by_cases c84 : x26_4 ≤ 10
     ·rw [if_pos c84] at H;have c84b0 : decide (x26_4 ≤ 10) = true:=decide_eq_true c84;clear c84;replace H:=Option.bind_eq_some_iff.mp H;obtain ⟨⟨Af,Ag⟩,Ar,H⟩:=H;(try dsimp only at H);have A85:=A_ Ar;clear Ar;by_cases c86 : (Ag != (decide (x26_4 ≥ Ah))) = true
      ·rw [if_pos c86] at H;have c86b0 : (Ag != (decide (x26_4 ≥ Ah))) = true:=c86;(try (have c86b1 : decide (Ag = (decide (x26_4 ≥ Ah))) = false:=by simpa using c86));(try (have c86b2 : (Ag == (decide (x26_4 ≥ Ah))) = false:=by simpa using c86));(try (have c86b3 : ¬ (Ag = (decide (x26_4 ≥ Ah))):=by simpa using c86));clear c86;obtain rfl:=Option.some.inj H;obtain ⟨Z,Z,Z,Z⟩:=o2_ Ab.1;go_wp2_with (first|((with_reducible refine gate_callee (f:=40) rfl ?_);refine goesL_ (some 181) rfl rfl Tryd.func40 (by kernel_rfl) rfl #[.agg #[.int .i64 Ae,.slice Ao14 Ad.length co14],.int .i64 x26_4] rfl au_ ?_;(with_reducible refine (Aba.calls k4 Ae _ _ Ad x26_4 Af Ag _ ?side1 ?side2 ?side3 A85.1).mono ?_);(case side1=>exact cl_ (Kd.R_reads' Aa.1).2.2);(case side2=>exact (Kd.R_reads' Aa.1).2.1);(case side3=>first|exact HT.1|exact HT.1.below bb_|(repeat (first|exact HT.1|apply TabOK.drewN|apply TabOK.drew|apply TabOK.alloc)));rintro e w88 ⟨Ai,rfl,ho0,hb⟩;refine ⟨_,rfl,?_⟩;have n0_:=A_ (Kd.R_elder' (rl_ Aa) (Kd.R_base ho0) hb);have n1_:=A_ (Kd.R_lower (Kd.R_new' ho0 (Kd.R_lt (rl_ Aa))) (below_size bb_));have n2_:=bz Ab hb;have n3_:=A_ (below_step bb_ hb);clear Aa;clear Ab;clear HB;have Aa:=n0_;have Ac:=n1_;have Ab:=n2_;have HB:=n3_;clear n0_ n1_ n2_ n3_;(try clear hb);(try clear hb2);(try clear hk);(try clear hi);(try clear ho0)))
       go_ret
       exact ⟨by first|rfl|(simp [errW_none,errW_some] <;> rfl)|(simp [*,errW_none,errW_some] <;> rfl),bb_⟩
      ·rw [if_neg c86] at H;have c86b0 : (Ag != (decide (x26_4 ≥ Ah))) = false:=by simpa using c86
       (try (have c86b1 : decide (Ag = (decide (x26_4 ≥ Ah))) = true:=by simpa using c86));(try (have c86b2 : (Ag == (decide (x26_4 ≥ Ah))) = true:=by simpa using c86));clear c86;by_cases c89 : Ag = true
       ·subst c89;rw [if_pos rfl] at H;replace H:=Option.bind_eq_some_iff.mp H;obtain ⟨⟨Ap,Bg⟩,As,H⟩:=H;(try dsimp only at H);have A90:=A_ As;clear As;by_cases c91 : Bg = true
        ·subst c91;rw [if_pos rfl] at H;by_cases c92 : Ap = true
         ·subst c92;rw [if_pos rfl] at H;have H':=A_ H;clear H;obtain ⟨Z,Z,Z,Z⟩:=o2_ Ab.1;go_wp2_with (first|((with_reducible refine gate_callee (f:=40) rfl ?_);refine goesL_ (some 181) rfl rfl Tryd.func40 (by kernel_rfl) rfl #[.agg #[.int .i64 Ae,.slice Ao14 Ad.length co14],.int .i64 x26_4] rfl au_ ?_;(with_reducible refine (Aba.calls k4 Ae _ _ Ad x26_4 Af true _ ?side1 ?side2 ?side3 A85.1).mono ?_);(case side1=>exact cl_ (Kd.R_reads' Aa.1).2.2);(case side2=>exact (Kd.R_reads' Aa.1).2.1);(case side3=>first|exact HT.1|exact HT.1.below bb_|(repeat (first|exact HT.1|apply TabOK.drewN|apply TabOK.drew|apply TabOK.alloc)));rintro e w94 ⟨Ai,rfl,ho0,hb⟩;refine ⟨_,rfl,?_⟩;have n0_:=A_ (Kd.R_elder' (rl_ Aa) (Kd.R_base ho0) hb);have n1_:=A_ (Kd.R_lower (Kd.R_new' ho0 (Kd.R_lt (rl_ Aa))) (below_size bb_));have n2_:=bz Ab hb;have n3_:=A_ (below_step bb_ hb);clear Aa;clear Ab;clear HB;have Aa:=n0_;have Ac:=n1_;have Ab:=n2_;have HB:=n3_;clear n0_ n1_ n2_ n3_;(try clear hb);(try clear hb2);(try clear hk);(try clear hi);(try clear ho0);obtain ⟨Z,Z,Z,Z⟩:=o2_ Ab.1;obtain ⟨Ao96,co96,eo96⟩:=Kd.R_slice Ac.1;subst eo96)|((with_reducible refine gate_callee (f:=41) rfl ?_);refine goesL_ (some 194) rfl rfl Tryd.func41 (by kernel_rfl) rfl #[.agg #[.int .i64 Ae,.slice Ao14 Ad.length co14],.int .i64 x26_4,.slice Ao96 Af.length co96] rfl au_ ?_;(with_reducible refine (Aby.calls k4 Ae _ _ Ad x26_4 _ _ Af true true _ ?side1 ?side2 ?side3 ?side4 ?side5 A90.1).mono ?_);(case side1=>exact cl_ (Kd.R_reads' Aa.1).2.2);(case side2=>exact (Kd.R_reads' Aa.1).2.1);(case side3=>exact cl_ (Kd.R_reads' Ac.1).2.2);(case side4=>exact (Kd.R_reads' Ac.1).2.1);(case side5=>first|exact HT.1|exact HT.1.below bb_|(repeat (first|exact HT.1|apply TabOK.drewN|apply TabOK.drew|apply TabOK.alloc)));rintro e w97 ⟨rfl,hb⟩;refine ⟨_,rfl,?_⟩;have n0_:=rb_ Aa hb;have n1_:=rb_ Ac hb;have n2_:=bz Ab hb;have n3_:=A_ (below_step bb_ hb);clear Aa;clear Ac;clear Ab;clear HB;have Aa:=n0_;have Ac:=n1_;have Ab:=n2_;have HB:=n3_;clear n0_ n1_ n2_ n3_;(try clear hb);(try clear hb2);(try clear hk);(try clear hi)))
          go_roundg k4
          case measure=>have:=HJ9.1;have:=HJ32.1;have:=HJ48.1;have:=HK4.1;omega
          case rel=>exact ⟨(wrap64 (x26_4 + 1)),(by first|rfl|(simp;done)|(simp [*];done)),H',⟨by have:=HJ9.1;have:=HJ32.1;have:=HJ48.1;have:=HK4.1;omega⟩,⟨rq_ (Kd.R_mono Aa.1 (fun _ hk=>trivial))⟩,⟨bl_ Ab⟩,⟨bb_⟩⟩
         ·replace c92:=Bool.eq_false_iff.mpr c92;subst c92;rw [if_neg nf_] at H;obtain rfl:=Option.some.inj H;obtain ⟨Z,Z,Z,Z⟩:=o2_ Ab.1;go_wp2_with (first|((with_reducible refine gate_callee (f:=40) rfl ?_);refine goesL_ (some 181) rfl rfl Tryd.func40 (by kernel_rfl) rfl #[.agg #[.int .i64 Ae,.slice Ao14 Ad.length co14],.int .i64 x26_4] rfl au_ ?_;(with_reducible refine (Aba.calls k4 Ae _ _ Ad x26_4 Af true _ ?side1 ?side2 ?side3 A85.1).mono ?_);(case side1=>exact cl_ (Kd.R_reads' Aa.1).2.2);(case side2=>exact (Kd.R_reads' Aa.1).2.1);(case side3=>first|exact HT.1|exact HT.1.below bb_|(repeat (first|exact HT.1|apply TabOK.drewN|apply TabOK.drew|apply TabOK.alloc)));rintro e w99 ⟨Ai,rfl,ho0,hb⟩;refine ⟨_,rfl,?_⟩;have n0_:=A_ (Kd.R_elder' (rl_ Aa) (Kd.R_base ho0) hb);have n1_:=A_ (Kd.R_lower (Kd.R_new' ho0 (Kd.R_lt (rl_ Aa))) (below_size bb_));have n2_:=bz Ab hb;have n3_:=A_ (below_step bb_ hb);clear Aa;clear Ab;clear HB;have Aa:=n0_;have Ac:=n1_;have Ab:=n2_;have HB:=n3_;clear n0_ n1_ n2_ n3_;(try clear hb);(try clear hb2);(try clear hk);(try clear hi);(try clear ho0);obtain ⟨Z,Z,Z,Z⟩:=o2_ Ab.1;obtain ⟨Bh,Bi,Bj⟩:=Kd.R_slice Ac.1;subst Bj)|((with_reducible refine gate_callee (f:=41) rfl ?_);refine goesL_ (some 194) rfl rfl Tryd.func41 (by kernel_rfl) rfl #[.agg #[.int .i64 Ae,.slice Ao14 Ad.length co14],.int .i64 x26_4,.slice Bh Af.length Bi] rfl au_ ?_;(with_reducible refine (Aby.calls k4 Ae _ _ Ad x26_4 _ _ Af false true _ ?side1 ?side2 ?side3 ?side4 ?side5 A90.1).mono ?_);(case side1=>exact cl_ (Kd.R_reads' Aa.1).2.2);(case side2=>exact (Kd.R_reads' Aa.1).2.1);(case side3=>exact cl_ (Kd.R_reads' Ac.1).2.2);(case side4=>exact (Kd.R_reads' Ac.1).2.1);(case side5=>first|exact HT.1|exact HT.1.below bb_|(repeat (first|exact HT.1|apply TabOK.drewN|apply TabOK.drew|apply TabOK.alloc)));rintro e E9 ⟨rfl,hb⟩;refine ⟨_,rfl,?_⟩;have n0_:=rb_ Aa hb;have n1_:=rb_ Ac hb;have n2_:=bz Ab hb;have n3_:=A_ (below_step bb_ hb);clear Aa;clear Ac;clear Ab;clear HB;have Aa:=n0_;have Ac:=n1_;have Ab:=n2_;have HB:=n3_;clear n0_ n1_ n2_ n3_;(try clear hb);(try clear hb2);(try clear hk);(try clear hi)))
          go_ret
          exact ⟨by first|rfl|(simp [errW_none,errW_some] <;> rfl)|(simp [*,errW_none,errW_some] <;> rfl),bb_⟩
        ·replace c91:=Bool.eq_false_iff.mpr c91;subst c91;rw [if_neg nf_] at H;obtain rfl:=Option.some.inj H;obtain ⟨Z,Z,Z,Z⟩:=o2_ Ab.1;go_wp2_with (first|((with_reducible refine gate_callee (f:=40) rfl ?_);refine goesL_ (some 181) rfl rfl Tryd.func40 (by kernel_rfl) rfl #[.agg #[.int .i64 Ae,.slice Ao14 Ad.length co14],.int .i64 x26_4] rfl au_ ?_;(with_reducible refine (Aba.calls k4 Ae _ _ Ad x26_4 Af true _ ?side1 ?side2 ?side3 A85.1).mono ?_);(case side1=>exact cl_ (Kd.R_reads' Aa.1).2.2);(case side2=>exact (Kd.R_reads' Aa.1).2.1);(case side3=>first|exact HT.1|exact HT.1.below bb_|(repeat (first|exact HT.1|apply TabOK.drewN|apply TabOK.drew|apply TabOK.alloc)));rintro e Fa ⟨Ai,rfl,ho0,hb⟩;refine ⟨_,rfl,?_⟩;have n0_:=A_ (Kd.R_elder' (rl_ Aa) (Kd.R_base ho0) hb);have n1_:=A_ (Kd.R_lower (Kd.R_new' ho0 (Kd.R_lt (rl_ Aa))) (below_size bb_));have n2_:=bz Ab hb;have n3_:=A_ (below_step bb_ hb);clear Aa;clear Ab;clear HB;have Aa:=n0_;have Ac:=n1_;have Ab:=n2_;have HB:=n3_;clear n0_ n1_ n2_ n3_;(try clear hb);(try clear hb2);(try clear hk);(try clear hi);(try clear ho0);obtain ⟨Z,Z,Z,Z⟩:=o2_ Ab.1;obtain ⟨Bk,Bl,Bm⟩:=Kd.R_slice Ac.1;subst Bm)|((with_reducible refine gate_callee (f:=41) rfl ?_);refine goesL_ (some 194) rfl rfl Tryd.func41 (by kernel_rfl) rfl #[.agg #[.int .i64 Ae,.slice Ao14 Ad.length co14],.int .i64 x26_4,.slice Bk Af.length Bl] rfl au_ ?_;(with_reducible refine (Aby.calls k4 Ae _ _ Ad x26_4 _ _ Af Ap false _ ?side1 ?side2 ?side3 ?side4 ?side5 A90.1).mono ?_);(case side1=>exact cl_ (Kd.R_reads' Aa.1).2.2);(case side2=>exact (Kd.R_reads' Aa.1).2.1);(case side3=>exact cl_ (Kd.R_reads' Ac.1).2.2);(case side4=>exact (Kd.R_reads' Ac.1).2.1);(case side5=>first|exact HT.1|exact HT.1.below bb_|(repeat (first|exact HT.1|apply TabOK.drewN|apply TabOK.drew|apply TabOK.alloc)));rintro e Fb ⟨rfl,hb⟩;refine ⟨_,rfl,?_⟩;have n0_:=rb_ Aa hb;have n1_:=rb_ Ac hb;have n2_:=bz Ab hb;have n3_:=A_ (below_step bb_ hb);clear Aa;clear Ac;clear Ab;clear HB;have Aa:=n0_;have Ac:=n1_;have Ab:=n2_;have HB:=n3_;clear n0_ n1_ n2_ n3_;(try clear hb);(try clear hb2);(try clear hk);(try clear hi)))
         go_ret
         exact ⟨by first|rfl|(simp [errW_none,errW_some] <;> rfl)|(simp [*,errW_none,errW_some] <;> rfl),bb_⟩
       ·replace c89:=Bool.eq_false_iff.mpr c89;subst c89;rw [if_neg nf_] at H;have H':=A_ H;clear H;obtain ⟨Z,Z,Z,Z⟩:=o2_ Ab.1;go_wp2_with (first|((with_reducible refine gate_callee (f:=40) rfl ?_);refine goesL_ (some 181) rfl rfl Tryd.func40 (by kernel_rfl) rfl #[.agg #[.int .i64 Ae,.slice Ao14 Ad.length co14],.int .i64 x26_4] rfl au_ ?_;(with_reducible refine (Aba.calls k4 Ae _ _ Ad x26_4 Af false _ ?side1 ?side2 ?side3 A85.1).mono ?_);(case side1=>exact cl_ (Kd.R_reads' Aa.1).2.2);(case side2=>exact (Kd.R_reads' Aa.1).2.1);(case side3=>first|exact HT.1|exact HT.1.below bb_|(repeat (first|exact HT.1|apply TabOK.drewN|apply TabOK.drew|apply TabOK.alloc)));rintro e Fc ⟨Ai,rfl,ho0,hb⟩;refine ⟨_,rfl,?_⟩;have n0_:=A_ (Kd.R_elder' (rl_ Aa) (Kd.R_base ho0) hb);have n1_:=A_ (Kd.R_lower (Kd.R_new' ho0 (Kd.R_lt (rl_ Aa))) (below_size bb_));have n2_:=bz Ab hb;have n3_:=A_ (below_step bb_ hb);clear Aa;clear Ab;clear HB;have Aa:=n0_;have Ac:=n1_;have Ab:=n2_;have HB:=n3_;clear n0_ n1_ n2_ n3_;(try clear hb);(try clear hb2);(try clear hk);(try clear hi);(try clear ho0)))
        go_roundg k4
        case measure=>have:=HJ9.1;have:=HJ32.1;have:=HJ48.1;have:=HK4.1;omega
        case rel=>exact ⟨(wrap64 (x26_4 + 1)),(by first|rfl|(simp;done)|(simp [*];done)),H',⟨by have:=HJ9.1;have:=HJ32.1;have:=HJ48.1;have:=HK4.1;omega⟩,⟨rq_ (Kd.R_mono Aa.1 (fun _ hk=>trivial))⟩,⟨bl_ Ab⟩,⟨bb_⟩⟩
     ·rw [if_neg c84] at H;have c84b0 : decide (x26_4 ≤ 10) = false:=decide_eq_false c84;clear c84;obtain rfl:=Option.some.inj H;go_wp2
      go_ret
      exact ⟨by first|rfl|(simp [errW_none,errW_some] <;> rfl)|(simp [*,errW_none,errW_some] <;> rfl),bb_⟩
  ·replace c83:=Bool.eq_false_iff.mpr c83;subst c83;rw [if_neg nf_] at H;obtain rfl:=Option.some.inj H;go_wp2
   go_ret
   exact ⟨by first|rfl|(simp [errW_none,errW_some] <;> rfl)|(simp [*,errW_none,errW_some] <;> rfl),bb_⟩
end Go.Proofs.YtfjpilcmjabikaaDoor.P
namespace Go.Proofs.YtfjpilcmjabikaaDoor.P
open Go.RowKit Go.Proofs.YtfjpilcmjabikaaDoorW.PrintWords Go.Proofs.YtfjpilcmjabikaaDoorW.PrintLast Go.Proofs.YtfjpilcmjabikaaDoorW.PrintMore
open Bool renaming true → T, false → F
open List renaming setIfInBounds_toArray → L_, set_cons_zero → M_, set_cons_succ → N_, map_toArray → P_, map_cons → Q_, map_nil → R_, length_drop → S_, length_take → U_
open Aside0 renaming mk → A_
attribute [local go_sem] max2_int min2_int max_two min_two max_three min_three max_four min_four
set_option linter.unusedVariables false
set_option linter.unusedSimpArgs false
attribute [local go_sem] fldOrder_0 fldOrder_1
theorem Aac.calls (k : Nat) (A0 : Option Addr) (c0 : Nat) (l0 : List Int) (A1 : Option Addr) (c1 : Nat) (l1 : List Int) (r : Bool) (w : World) (hr0 : Kd.C (Kd.int .u8) w A0 l0.length l0) (hc0 : l0.length ≤ c0) (hr1 : Kd.C (Kd.int .u8) w A1 l1.length l1) (hc1 : l1.length ≤ c1) (hT : TabOK w) (h : Aac.f k l0 l1 = some r) :
 Calls Tryd.prog 6 #[.slice A0 l0.length c0,.slice A1 l1.length c1] w fun e w'=>e = .returned (.bool r) ∧ Below w.heap.size w w' :=
 Aac.calls.part.2.2 (fun _=>Aac.calls.rest1) (fun _=>Aac.calls.rest2) k A0 c0 l0 A1 c1 l1 r w hr0 hc0 hr1 hc1 hT h
def Aac.Pure : Prop := ∀ (l0 : List Int) (l1 : List Int), l0.length ≤ maxLen → l0.length * 1 ≤ 140737488351232 → (∀ x ∈ l0, (Lit.int .u8 x).wf = true) → l1.length ≤ maxLen → l1.length * 1 ≤ 140737488351232 → (∀ x ∈ l1, (Lit.int .u8 x).wf = true) → ∃ k, Aac.f k l0 l1 = some true
theorem Aac.walk (P : Aac.Pure) (a0 : Option Addr) (len0 cap0 : Nat) (z0 : List Int) (a1 : Option Addr) (len1 cap1 : Nat) (z1 : List Int) (w : World) (w0 : (a0 = none ∧ len0 = 0 ∧ cap0 = 0 ∧ z0 = []) ∨ ∃ x,a0 = some x ∧ len0 ≤ cap0 ∧ cap0 ≤ maxLen ∧ z0.length = cap0 ∧ (∀ i,i < z0.length → w.cell? (x.add i) = some (.int .u8 (z0.getD i 0))) ∧ ∀ n ∈ z0,(Lit.int .u8 n).wf = true) (y0 : len0 * 1 ≤ 140737488351232) (w1 : (a1 = none ∧ len1 = 0 ∧ cap1 = 0 ∧ z1 = []) ∨ ∃ x,a1 = some x ∧ len1 ≤ cap1 ∧ cap1 ≤ maxLen ∧ z1.length = cap1 ∧ (∀ i,i < z1.length → w.cell? (x.add i) = some (.int .u8 (z1.getD i 0))) ∧ ∀ n ∈ z1,(Lit.int .u8 n).wf = true) (y1 : len1 * 1 ≤ 140737488351232) (hT : TabOK w) :
 Calls Tryd.prog 6 #[.slice a0 len0 cap0,.slice a1 len1 cap1] w fun e w'=>e = .returned (.bool true) ∧ Below w.heap.size w w':=by
 obtain ⟨l0,rfl,hr0,hm0,hw0,hc0⟩:=ReadsInt.ofRowC w0;obtain ⟨l1,rfl,hr1,hm1,hw1,hc1⟩:=ReadsInt.ofRowC w1;obtain ⟨k,h⟩:=P l0 l1 hm0 y0 hw0 hm1 y1 hw1;refine (Aac.calls k _ _ l0 _ _ l1 true w (Kd.C_of_reads (d:=(0 : Int)) (h1:=fun _=>rfl) hr0) hc0 (Kd.C_of_reads (d:=(0 : Int)) (h1:=fun _=>rfl) hr1) hc1 hT h).mono ?_
 rintro e w' ⟨rfl,hd⟩
 exact ⟨rfl,hd⟩
end Go.Proofs.YtfjpilcmjabikaaDoor.P
namespace Go.Proofs.YtfjpilcmjabikaaDoor.M
open Go.RowKit Go.Proofs.YtfjpilcmjabikaaDoorW.PrintMore Go.Proofs.YtfjpilcmjabikaaDoorW.PrintLast Go.Proofs.YtfjpilcmjabikaaDoorW.PrintWords
theorem i64_small (n : Nat) (h : n < 9223372036854775808) : IntKind.i64.wrap (n : Int) = (n : Int) := by
  simp [IntKind.wrap, IntKind.signed, IntKind.bits]
  omega
theorem wrap64_id (x : Int) (h0 : -9223372036854775808 ≤ x) (h1 : x ≤ 9223372036854775807) : wrap64 x = x := by
  unfold wrap64
  omega
theorem ofInt64 (a : Nat) (ha : a < 18446744073709551616) : (BitVec.ofInt 64 (a : Int)).toNat = a := by
  rw [BitVec.ofInt_natCast, BitVec.toNat_ofNat]; exact Nat.mod_eq_of_lt (by omega)
theorem and_i64 (a b : Nat) (ha : a < 9223372036854775808) (hb : b < 9223372036854775808) : Go.bits .and .i64 (a : Int) (b : Int) = ((a &&& b : Nat) : Int) := by
  have hx : a &&& b < 2 ^ 63 := Nat.and_lt_two_pow _ (by omega)
  show IntKind.i64.wrap ((BitVec.ofInt 64 (a : Int) &&& BitVec.ofInt 64 (b : Int)).toNat : Int) = _
  rw [BitVec.toNat_and, ofInt64 a (by omega), ofInt64 b (by omega), i64_small _ (by omega)]
theorem or_i64 (a b : Nat) (ha : a < 9223372036854775808) (hb : b < 9223372036854775808) : Go.bits .or .i64 (a : Int) (b : Int) = ((a ||| b : Nat) : Int) := by
  have hx : a ||| b < 2 ^ 63 := Nat.or_lt_two_pow (by omega) (by omega)
  show IntKind.i64.wrap ((BitVec.ofInt 64 (a : Int) ||| BitVec.ofInt 64 (b : Int)).toNat : Int) = _
  rw [BitVec.toNat_or, ofInt64 a (by omega), ofInt64 b (by omega), i64_small _ (by omega)]
def diff (a b : Nat) : Nat := a &&& (a ^^^ b)
theorem testBit_diff (a b i : Nat) : (diff a b).testBit i = (a.testBit i && !b.testBit i) := by
  unfold diff
  rw [Nat.testBit_and, Nat.testBit_xor]
  cases a.testBit i <;> cases b.testBit i <;> rfl
theorem andNot_i64 (a b : Nat) (ha : a < 9223372036854775808) (hb : b < 9223372036854775808) : Go.bits .andNot .i64 (a : Int) (b : Int) = ((diff a b : Nat) : Int) := by
  have hx : diff a b < 2 ^ 63 := Nat.lt_of_le_of_lt Nat.and_le_left (by omega)
  show IntKind.i64.wrap ((BitVec.ofInt 64 (a : Int) &&& ~~~ BitVec.ofInt 64 (b : Int)).toNat : Int) = _
  have e : (BitVec.ofInt 64 (a : Int) &&& ~~~ BitVec.ofInt 64 (b : Int)).toNat = diff a b := by
    apply Nat.eq_of_testBit_eq
    intro i
    rw [BitVec.toNat_and, Nat.testBit_and, testBit_diff, ofInt64 a (by omega)]
    by_cases hi : i < 64
    · rw [show (~~~ BitVec.ofInt 64 (b : Int)).toNat.testBit i = !(BitVec.ofInt 64 (b : Int)).toNat.testBit i from by
        rw [BitVec.testBit_toNat, BitVec.testBit_toNat, BitVec.getLsbD_not]; simp [hi], ofInt64 b (by omega)]
    · rw [Nat.testBit_lt_two_pow (x := a) (i := i) (Nat.lt_of_lt_of_le (by omega : a < 2 ^ 64) (Nat.pow_le_pow_right (by decide) (by omega)))]
      rfl
  rw [e, i64_small _ (by omega)]
theorem shl1 (j : Nat) (h : j ≤ 62) : shl .i64 1 (j : Int) = ((2 ^ j : Nat) : Int) := by
  unfold shl
  have h2 : (2 : Nat) ^ j < 9223372036854775808 := Nat.lt_of_le_of_lt (Nat.pow_le_pow_right (by decide) h) (by decide)
  rw [Int.toNat_natCast, Nat.min_eq_left (by show j ≤ 64; omega), Int.one_mul]
  have := i64_small (2 ^ j) h2
  rwa [Int.natCast_pow] at this ⊢
theorem shr_nat (a j : Nat) (h : j ≤ 64) : shr .i64 (a : Int) (j : Int) = ((a / 2 ^ j : Nat) : Int) := by
  unfold shr
  rw [Int.toNat_natCast, Nat.min_eq_left (by exact h)]
  simp
def bit (s : Int) (j : Nat) : Bool := s.toNat.testBit j
theorem bit_cast (a j : Nat) : bit (a : Int) j = a.testBit j := by simp [bit]
theorem and_one (a : Nat) (j : Nat) : ((a / 2 ^ j) &&& 1 : Nat) = if a.testBit j then 1 else 0 := by
  rw [Nat.and_one_is_mod, Nat.testBit_eq_decide_div_mod_eq]
  rcases Nat.mod_two_eq_zero_or_one (a / 2 ^ j) with h | h <;> simp [h]
theorem has_and (s : Int) (j : Nat) (h0 : 0 ≤ s) (h1 : s < 9223372036854775808) (hj : j ≤ 64) : (Go.bits .and .i64 (shr .i64 s (j : Int)) 1 == 1) = bit s j := by
  obtain ⟨a, rfl⟩ := Int.eq_ofNat_of_zero_le h0
  have hl : a / 2 ^ j < 9223372036854775808 := Nat.lt_of_le_of_lt (Nat.div_le_self _ _) (by omega)
  rw [shr_nat a j hj, show (1 : Int) = ((1 : Nat) : Int) from rfl, and_i64 _ 1 hl (by decide), and_one, bit_cast]
  cases a.testBit j <;> rfl
theorem has_mod (s : Int) (j : Nat) (h0 : 0 ≤ s) (hj : j ≤ 64) : (Int.tmod (shr .i64 s (j : Int)) 2 == 1) = bit s j := by
  obtain ⟨a, rfl⟩ := Int.eq_ofNat_of_zero_le h0
  rw [shr_nat a j hj, bit_cast, Nat.testBit_eq_decide_div_mod_eq, Int.tmod_eq_emod_of_nonneg (Int.natCast_nonneg _)]
  rcases Nat.mod_two_eq_zero_or_one (a / 2 ^ j) with h | h
  · rw [show ((a / 2 ^ j : Nat) : Int) % 2 = 0 from by omega]; simp [h]
  · rw [show ((a / 2 ^ j : Nat) : Int) % 2 = 1 from by omega]; simp [h]
def setOf : Nat → (Nat → Bool) → Nat
  | 0, _ => 0
  | n + 1, q => setOf n q ||| (if q n then 2 ^ n else 0)
theorem testBit_setOf (n : Nat) (q : Nat → Bool) (j : Nat) : (setOf n q).testBit j = (decide (j < n) && q j) := by
  induction n with
  | zero => simp [setOf]
  | succ n ih =>
    unfold setOf
    rw [Nat.testBit_or, ih]
    by_cases hq : q n
    · rw [if_pos hq, Nat.testBit_two_pow]
      by_cases h : n = j
      · subst h; simp [hq]
      · have : (j < n + 1) ↔ j < n := by omega
        simp [h, this]
    · rw [if_neg hq]
      by_cases h : n = j
      · subst h; simp [hq]
      · have : (j < n + 1) ↔ j < n := by omega
        simp [this]
theorem setOf_lt (n : Nat) (q : Nat → Bool) : setOf n q < 2 ^ n := by
  induction n with
  | zero => simp [setOf]
  | succ n ih =>
    unfold setOf
    have h1 : setOf n q < 2 ^ (n + 1) := Nat.lt_of_lt_of_le ih (Nat.pow_le_pow_right (by decide) (by omega))
    refine Nat.or_lt_two_pow h1 ?_
    split
    · exact Nat.pow_lt_pow_right (by decide) (by omega)
    · exact Nat.two_pow_pos _
theorem setOf_congr {n : Nat} {q q' : Nat → Bool} (h : ∀ j, j < n → q j = q' j) : setOf n q = setOf n q' := by
  apply Nat.eq_of_testBit_eq
  intro j
  rw [testBit_setOf, testBit_setOf]
  by_cases hj : j < n
  · rw [h j hj]
  · simp [hj]
theorem lt62 {n s : Nat} (h : s < 2 ^ n) (hn : n ≤ 62) : s < 9223372036854775808 := Nat.lt_of_lt_of_le h (Nat.le_trans (Nat.pow_le_pow_right (by decide) hn) (by decide))
theorem setOf_62 (n : Nat) (q : Nat → Bool) (hn : n ≤ 62) : setOf n q < 9223372036854775808 := lt62 (setOf_lt n q) hn
end Go.Proofs.YtfjpilcmjabikaaDoor.M
namespace Go.Proofs.YtfjpilcmjabikaaDoor.M
open Go.RowKit Go.Proofs.YtfjpilcmjabikaaDoorW.PrintMore Go.Proofs.YtfjpilcmjabikaaDoorW.PrintLast Go.Proofs.YtfjpilcmjabikaaDoorW.PrintWords
theorem Ev.up {α : Type} {r : α} (G : Nat → Nat → Option α) (n : Nat) (step : ∀ i, i < n → Ev (G (i + 1)) r → Ev (G i) r) (stop : Ev (G n) r) : Ev (G 0) r := by
  have key : ∀ m, m ≤ n → Ev (G (n - m)) r := by
    intro m
    induction m with
    | zero => intro _; exact stop
    | succ m ih =>
      intro hm
      have h := step (n - (m + 1)) (by omega)
      rw [show n - (m + 1) + 1 = n - m from by omega] at h
      exact h (ih (by omega))
  have := key n (Nat.le_refl _)
  rwa [Nat.sub_self] at this
theorem Ev.from {α : Type} {r : α} (G : Nat → Nat → Option α) (n i : Nat) (hi : i ≤ n) (step : ∀ i, i < n → Ev (G (i + 1)) r → Ev (G i) r) (stop : Ev (G n) r) : Ev (G i) r := by
  have h := Ev.up (fun j => G (i + j)) (n - i) (fun j hj h => step (i + j) (by omega) h) (by rw [show i + (n - i) = n from by omega]; exact stop)
  exact h
def allB (n : Nat) (p : Nat → Bool) : Bool := (List.range n).all p
theorem allB_iff {n : Nat} {p : Nat → Bool} : allB n p = true ↔ ∀ j, j < n → p j = true := by simp [allB]
theorem allB_false {n : Nat} {p : Nat → Bool} : allB n p = false ↔ ∃ j, j < n ∧ p j = false := by simp [allB]
theorem least_false {n : Nat} {p : Nat → Bool} (h : ∃ j, j < n ∧ p j = false) : ∃ j, j < n ∧ p j = false ∧ ∀ i, i < j → p i = true := by
  obtain ⟨j, hj, hp⟩ := h
  induction j using Nat.strongRecOn with
  | _ j ih =>
    by_cases hl : ∃ i, i < j ∧ p i = false
    · obtain ⟨i, hi, hpi⟩ := hl
      exact ih i hi (by omega) hpi
    · refine ⟨j, hj, hp, fun i hi => ?_⟩
      cases hc : p i with
      | true => rfl
      | false => exact absurd ⟨i, hi, hc⟩ hl
theorem Ev.all (G : Nat → Nat → Option Bool) (n : Nat) (p : Nat → Bool) (yes : ∀ i r, i < n → p i = true → Ev (G (i + 1)) r → Ev (G i) r) (no : ∀ i, i < n → p i = false → Ev (G i) false) (stop : Ev (G n) true) :
    Ev (G 0) (allB n p) := by
  cases h : allB n p with
  | true =>
    have h := allB_iff.1 h
    exact Ev.up G n (fun i hi => yes i true hi (h i hi)) stop
  | false =>
    obtain ⟨j, hj, hp, hl⟩ := least_false (allB_false.1 h)
    exact Ev.up G j (fun i hi => yes i false (by omega) (hl i hi)) (no j hj hp)
theorem Ev.const {α : Type} {x : Option α} {r : α} (h : x = some r) : Ev (fun _ => x) r := ⟨0, fun _ _ => h⟩
theorem Ev.to {α : Type} {g : Nat → Option α} {r r' : α} (h : Ev g r) (e : r = r') : Ev g r' := e ▸ h
theorem rd_nat (l : List Int) (i : Nat) : rd l (i : Int) = l.getD i 0 := by simp [rd]
theorem rd_get (l : List Int) (i : Nat) (h : i < l.length) : rd l (i : Int) = l[i] := by simp [rd, h]
theorem next64 (i n : Nat) (h : i < n) (hn : n ≤ 140737488355328) : wrap64 ((i : Int) + 1) = ((i + 1 : Nat) : Int) := by unfold wrap64; omega
theorem list_ext_getD {l l' : List Int} (hl : l.length = l'.length) (h : ∀ i, i < l.length → l.getD i 0 = l'.getD i 0) : l = l' := by
  apply List.ext_getElem hl
  intro i h1 h2
  have := h i h1
  simpa [h1, h2] using this
def EvP {α : Type} (g : Nat → Option α) (φ : α → Prop) (S : Prop) : Prop := ∃ r, Ev g r ∧ (φ r ↔ S)
theorem EvP.now {α : Type} {φ : α → Prop} {S : Prop} {r : α} (h : φ r ↔ S) : EvP (fun _ => some r) φ S := ⟨r, Ev.now r, h⟩
theorem EvP.step {α : Type} {g f : Nat → Option α} {φ : α → Prop} {S : Prop} (h : ∀ k, g (k + 1) = f k) (k : EvP f φ S) : EvP g φ S := by
  obtain ⟨r, hr, e⟩ := k
  exact ⟨r, Ev.step h hr, e⟩
theorem EvP.bind {α β : Type} {g : Nat → Option α} {f : Nat → α → Option β} {a : α} {φ : β → Prop} {S : Prop} (h : Ev g a) (k : EvP (fun n => f n a) φ S) : EvP (fun n => (g n).bind (f n)) φ S := by
  obtain ⟨r, hr, e⟩ := k
  exact ⟨r, Ev.bind h hr, e⟩
theorem EvP.iff {α : Type} {g : Nat → Option α} {φ : α → Prop} {S S' : Prop} (h : EvP g φ S) (e : S ↔ S') : EvP g φ S' := by
  obtain ⟨r, hr, h⟩ := h
  exact ⟨r, hr, h.trans e⟩
theorem EvP.loop {α : Type} {φ : α → Prop} (G : Nat → Nat → Option α) (n : Nat) (S : Nat → Prop) (Rest : Prop) (step : ∀ i T, i < n → EvP (G (i + 1)) φ T → EvP (G i) φ (S i ∧ T)) (stop : EvP (G n) φ Rest) : EvP (G 0) φ ((∀ i, i < n → S i) ∧ Rest) := by
  have key : ∀ m, m ≤ n → EvP (G (n - m)) φ ((∀ i, n - m ≤ i → i < n → S i) ∧ Rest) := by
    intro m
    induction m with
    | zero => intro _; exact EvP.iff stop ⟨fun h => ⟨fun i h1 h2 => by omega, h⟩, fun h => h.2⟩
    | succ m ih =>
      intro hm
      have h := ih (by omega)
      rw [show n - m = n - (m + 1) + 1 by omega] at h
      refine EvP.iff (step (n - (m + 1)) _ (by omega) h) ?_
      constructor
      · rintro ⟨h1, h2, h3⟩
        refine ⟨fun i hi hn => ?_, h3⟩
        by_cases e : i = n - (m + 1)
        · rw [e]; exact h1
        · exact h2 i (by omega) hn
      · rintro ⟨h1, h2⟩
        exact ⟨h1 _ (Nat.le_refl _) (by omega), fun i hi hn => h1 i (by omega) hn, h2⟩
  have := key n (Nat.le_refl _)
  rw [Nat.sub_self] at this
  exact EvP.iff this ⟨fun ⟨h, r⟩ => ⟨fun i hi => h i (Nat.zero_le _) hi, r⟩, fun ⟨h, r⟩ => ⟨fun i _ hi => h i hi, r⟩⟩
end Go.Proofs.YtfjpilcmjabikaaDoor.M
namespace Go.Proofs.YtfjpilcmjabikaaDoor.M
open Go.RowKit Go.Proofs.YtfjpilcmjabikaaDoorW.PrintMore Go.Proofs.YtfjpilcmjabikaaDoorW.PrintLast Go.Proofs.YtfjpilcmjabikaaDoorW.PrintWords Go.Proofs.YtfjpilcmjabikaaDoor.P
def elems (n s : Nat) : List Nat := (List.range n).filter fun j => s.testBit j
theorem mem_elems {n s j : Nat} : j ∈ elems n s ↔ j < n ∧ s.testBit j = true := by simp [elems]
theorem elems_zero (n : Nat) : elems n 0 = [] := by simp [elems]
def ints (l : List Nat) : List Int := l.map fun (j : Nat) => (j : Int)
theorem ints_length (l : List Nat) : (ints l).length = l.length := by simp [ints]
theorem elems_length_le (n s : Nat) : (elems n s).length ≤ n := by
  unfold elems
  exact Nat.le_trans (List.length_filter_le _ _) (by simp)
theorem filter_range_split (n c : Nat) (h : c < n) (p : Nat → Bool) : (List.range n).filter p = (List.range c).filter p ++ ((if p c then [c] else []) ++ (List.range' (c + 1) (n - (c + 1))).filter p) := by
  have e : List.range n = List.range c ++ ([c] ++ List.range' (c + 1) (n - (c + 1))) := by
    rw [List.range_eq_range', List.range_eq_range']
    have h1 : n = c + (1 + (n - (c + 1))) := by omega
    have e1 : List.range' 0 n = List.range' 0 c ++ List.range' c (1 + (n - (c + 1))) := by
      have := List.range'_append_1 (s := 0) (m := c) (n := 1 + (n - (c + 1)))
      rw [Nat.zero_add] at this
      rw [this, ← h1]
    rw [e1, Nat.add_comm 1, List.range'_succ]
    rfl
  rw [e, List.filter_append, List.filter_append]
  congr 1
  cases hp : p c <;> simp [hp]
theorem elems_least (n s c m : Nat) (hs : s = 2 ^ c * (2 * m + 1)) (hn : s < 2 ^ n) : elems n s = c :: elems n (s &&& (s - 1)) := by
  have hp : 0 < 2 ^ c := Nat.two_pow_pos c
  have e1 : s - 1 = 2 ^ (c + 1) * m + (2 ^ c - 1) := by
    have a1 : 2 ^ c * (2 * m + 1) = 2 ^ (c + 1) * m + 2 ^ c := by rw [Nat.pow_succ, Nat.mul_add, Nat.mul_assoc]; simp
    omega
  have hb : ∀ j, s.testBit j = if j < c then false else if j = c then true else m.testBit (j - (c + 1)) := by
    intro j
    rw [hs, Nat.mul_comm, Nat.testBit_mul_two_pow]
    by_cases h1 : j < c
    · rw [if_pos h1]; simp; omega
    · rw [if_neg h1]
      by_cases h2 : j = c
      · subst h2; simp
      · rw [if_neg h2]
        obtain ⟨d, rfl⟩ : ∃ d, j = c + (d + 1) := ⟨j - c - 1, by omega⟩
        rw [show c + (d + 1) - c = d + 1 from by omega, show c + (d + 1) - (c + 1) = d from by omega, Nat.testBit_succ, show (2 * m + 1) / 2 = m from by omega]
        simp
  have hb1 : ∀ j, (s - 1).testBit j = if j < c then true else if j = c then false else m.testBit (j - (c + 1)) := by
    intro j
    rw [e1, Nat.testBit_two_pow_mul_add m (by have : 2 ^ c < 2 ^ (c + 1) := Nat.pow_lt_pow_right (by decide) (by omega); omega)]
    by_cases h1 : j < c
    · rw [if_pos (by omega), if_pos h1, Nat.testBit_two_pow_sub_one]; simp [h1]
    · rw [if_neg h1]
      by_cases h2 : j = c
      · subst h2; rw [if_pos (by omega), if_pos rfl, Nat.testBit_two_pow_sub_one]; simp
      · rw [if_neg (by omega), if_neg h2]
  have hb2 : ∀ j, (s &&& (s - 1)).testBit j = if j ≤ c then false else s.testBit j := by
    intro j
    rw [Nat.testBit_and, hb, hb1]
    by_cases h1 : j < c
    · simp [h1, Nat.le_of_lt h1]
    · by_cases h2 : j = c
      · simp [h2]
      · rw [if_neg h1, if_neg h1, if_neg h2, if_neg h2, if_neg (by omega)]; simp
  have hc : c < n := by
    apply Nat.lt_of_not_le
    intro hle
    have h1 : 2 ^ n ≤ 2 ^ c := Nat.pow_le_pow_right (by decide) hle
    have h2 : 2 ^ c ≤ s := by rw [hs]; exact Nat.le_mul_of_pos_right _ (by omega)
    omega
  unfold elems
  rw [filter_range_split n c hc, filter_range_split n c hc (fun j => (s &&& (s - 1)).testBit j)]
  have z1 : (List.range c).filter (fun j => s.testBit j) = [] := by
    rw [List.filter_eq_nil_iff]; intro j hj; simp at hj; rw [hb, if_pos hj]; simp
  have z2 : (List.range c).filter (fun j => (s &&& (s - 1)).testBit j) = [] := by
    rw [List.filter_eq_nil_iff]; intro j hj; simp at hj; rw [hb2, if_pos (by omega)]; simp
  have z3 : (List.range' (c + 1) (n - (c + 1))).filter (fun j => s.testBit j) = (List.range' (c + 1) (n - (c + 1))).filter (fun j => (s &&& (s - 1)).testBit j) := by
    apply List.filter_congr
    intro j hj
    rw [List.mem_range'] at hj
    obtain ⟨i, hi, rfl⟩ := hj
    rw [hb2, if_neg (by omega)]
  have y1 : s.testBit c = true := by rw [hb, if_neg (by omega), if_pos rfl]
  have y2 : (s &&& (s - 1)).testBit c = false := by rw [hb2, if_pos (Nat.le_refl _)]
  rw [z1, z2, z3, if_pos y1, y2]
  rfl
theorem and_pred_lt (s : Nat) (h : s ≠ 0) : s &&& (s - 1) < s := Nat.lt_of_le_of_lt Nat.and_le_right (by omega)
theorem u64_small (n : Nat) (h : n < 18446744073709551616) : IntKind.u64.wrap (n : Int) = (n : Int) := by
  simp [IntKind.wrap, IntKind.signed, IntKind.bits]
  omega
theorem members_ev (n : Nat) (hn : n ≤ 62) (s : Nat) (hs : s < 2 ^ n) : Ev (fun k => Aa0.f k (s : Int)) (ints (elems n s)) := by
  have key : ∀ d s, s ≤ d → s < 2 ^ n → ∀ acc : List Int, acc.length + (elems n s).length ≤ 64 → Ev (fun k => Aa0.l0 k (s : Int) acc) (acc ++ ints (elems n s)) := by
    intro d
    induction d with
    | zero =>
      intro s h0 _ acc _
      obtain rfl : s = 0 := by omega
      refine Ev.step (fun _ => rfl) ?_
      simp only [Aa0.l0, Int.natCast_zero, if_true]
      rw [elems_zero]
      simpa [ints] using Ev.now acc
    | succ d ih =>
      intro s h0 hs acc ha
      by_cases hz : s = 0
      · exact ih s (by omega) hs acc ha
      · have hs2 := lt62 hs hn
        obtain ⟨m, hm, hk⟩ := Lib.ctzFrom_spec 64 s (by omega) (by omega)
        have he := elems_least n s _ m hm hs
        have hl : (elems n s).length = (elems n (s &&& (s - 1))).length + 1 := by rw [he]; rfl
        refine Ev.step (fun _ => rfl) ?_
        have hc : Lib.ctz 64 s = Lib.ctzFrom 64 s := by unfold Lib.ctz; rw [if_neg hz]
        have e1 : Abv.f (IntKind.u64.wrap (s : Int)) = some ((Lib.ctzFrom 64 s : Nat) : Int) := by
          rw [u64_small s (by omega)]
          unfold Abv.f Abo.f
          rw [if_pos ⟨by omega, by omega⟩, Int.toNat_natCast, hc]
          rfl
        have e2 : Go.bits .and .i64 (s : Int) (wrap64 ((s : Int) - 1)) = ((s &&& (s - 1) : Nat) : Int) := by
          rw [show wrap64 ((s : Int) - 1) = ((s - 1 : Nat) : Int) from by unfold wrap64; omega]
          exact and_i64 _ _ (by omega) (by omega)
        simp only [Aa0.l0, if_neg (show ¬ (s : Int) = 0 by omega), e1, Option.bind_some, if_pos (show acc.length < 17592186044416 by omega), e2]
        have := ih (s &&& (s - 1)) (by have := and_pred_lt s hz; omega) (Nat.lt_of_le_of_lt Nat.and_le_left hs) (acc ++ [((Lib.ctzFrom 64 s : Nat) : Int)]) (by simp; omega)
        refine Ev.to this ?_
        rw [he]
        simp [ints]
  have h := key s s (Nat.le_refl _) hs [] (by have := elems_length_le n s; simp; omega)
  exact h
theorem orHas_eq (s : Nat) (j : Nat) (hj : j ≤ 64) : Aa8.f (s : Int) (j : Int) = some (s.testBit j) := by
  unfold Aa8.f
  rw [if_pos (by omega), has_mod _ _ (by omega) hj, bit_cast]
theorem orList_ev (n : Nat) (hn : n ≤ 62) (s : Nat) (hs : s < 2 ^ n) : Ev (fun k => Aay.f k (s : Int)) (ints (elems n s)) := by
  -- up to the place behind the last element
  obtain ⟨t, ht, hlt, hgt⟩ : ∃ t, t ≤ n ∧ s / 2 ^ t = 0 ∧ ∀ i, i < t → 0 < s / 2 ^ i := by
    refine ⟨(if s = 0 then 0 else Nat.log2 s + 1), ?_, ?_, ?_⟩
    · split
      · omega
      · rename_i h
        have := (Nat.log2_lt h (k := n)).2 hs
        omega
    · split
      · rename_i h; simp [h]
      · exact Nat.div_eq_of_lt (Nat.lt_log2_self)
    · intro i hi
      split at hi
      · omega
      · rename_i h
        apply Nat.div_pos _ (Nat.two_pow_pos _)
        exact Nat.le_trans (Nat.pow_le_pow_right (by decide) (by omega : i ≤ Nat.log2 s)) (Nat.log2_self_le h)
  have hs2 := lt62 hs hn
  have hsplit : elems n s = elems t s := by
    unfold elems
    have e : List.range n = List.range t ++ List.range' t (n - t) := by
      rw [List.range_eq_range', List.range_eq_range']
      have := List.range'_append_1 (s := 0) (m := t) (n := n - t)
      rw [Nat.zero_add] at this
      rw [this]
      congr 1
      omega
    rw [e, List.filter_append]
    have z : (List.range' t (n - t)).filter (fun j => s.testBit j) = [] := by
      rw [List.filter_eq_nil_iff]
      intro j hj
      rw [List.mem_range'] at hj
      obtain ⟨i, hi, rfl⟩ := hj
      have h1 : s < 2 ^ t := by
        rcases Nat.div_eq_zero_iff.1 hlt with h | h
        · exact absurd h (Nat.ne_of_gt (Nat.two_pow_pos _))
        · exact h
      rw [Nat.testBit_lt_two_pow (Nat.lt_of_lt_of_le h1 (Nat.pow_le_pow_right (by decide) (by omega)))]
      simp
    rw [z, List.append_nil]
  rw [hsplit]
  unfold Aay.f
  refine Ev.up (fun i k => Aay.l0 k (s : Int) (ints (elems i s)) (i : Int)) t ?_ ?_
  · intro i hi h
    refine Ev.step (fun _ => rfl) ?_
    have e1 : shr .i64 (s : Int) (i : Int) > 0 := by rw [shr_nat s i (by omega)]; have := hgt i hi; omega
    have hlen := elems_length_le i s
    have e2 : elems (i + 1) s = elems i s ++ (if s.testBit i then [i] else []) := by
      unfold elems
      rw [List.range_succ, List.filter_append]
      congr 1
      cases hb2 : s.testBit i <;> simp [hb2]
    simp only [Aay.l0, if_pos (show (0 : Int) ≤ (i : Int) by omega), if_pos e1, orHas_eq s i (by omega), Option.bind_some, next64 i t hi (by omega)]
    rw [e2] at h
    cases hb : s.testBit i with
    | true =>
      simp only [if_true, ints_length, if_pos (show (elems i s).length < 17592186044416 by omega)]
      rw [hb] at h
      simpa [ints] using h
    | false =>
      rw [hb] at h
      simpa [ints] using h
  · refine Ev.step (fun _ => rfl) ?_
    have e1 : ¬ shr .i64 (s : Int) (t : Int) > 0 := by rw [shr_nat s t (by omega)]; omega
    simp only [Aay.l0, if_pos (show (0 : Int) ≤ (t : Int) by omega), if_neg e1]
    exact Ev.now _
end Go.Proofs.YtfjpilcmjabikaaDoor.M
namespace Go.Proofs.YtfjpilcmjabikaaDoor.M
open Go.RowKit Go.Proofs.YtfjpilcmjabikaaDoorW.PrintMore Go.Proofs.YtfjpilcmjabikaaDoorW.PrintLast Go.Proofs.YtfjpilcmjabikaaDoorW.PrintWords Go.Proofs.YtfjpilcmjabikaaDoor.P
def isRel (n : Int) (l : List Int) : Bool := decide (0 ≤ n ∧ n ≤ 10 ∧ (l.length : Int) = n ∧ ∀ x ∈ l, 0 ≤ x ∧ x ≤ ((2 ^ n.toNat : Nat) : Int) - 1)
def row (l : List Int) (i : Nat) : Nat := (l.getD i 0).toNat
def B (l : List Int) (i j : Nat) : Bool := (row l i).testBit j
structure Rel (n : Nat) (l : List Int) : Prop where
  le : n ≤ 10
  len : l.length = n
  mem : ∀ x ∈ l, 0 ≤ x ∧ x ≤ ((2 ^ n : Nat) : Int) - 1
theorem isRel_iff {n : Int} {l : List Int} : isRel n l = true ↔ ∃ m : Nat, n = m ∧ Rel m l := by
  unfold isRel
  rw [decide_eq_true_iff]
  constructor
  · rintro ⟨h0, h1, h2, h3⟩
    obtain ⟨m, rfl⟩ := Int.eq_ofNat_of_zero_le h0
    exact ⟨m, rfl, by omega, by omega, by simpa using h3⟩
  · rintro ⟨m, rfl, h⟩
    refine ⟨by omega, by have := h.le; omega, by have := h.len; omega, by simpa using h.mem⟩
section
variable {n : Nat} {l : List Int}
theorem Rel.getD (h : Rel n l) (i : Nat) : l.getD i 0 = ((row l i : Nat) : Int) := by
  unfold row
  by_cases hi : i < l.length
  · have := (h.mem l[i] (List.getElem_mem hi)).1
    rw [show l.getD i 0 = l[i] by simp [hi]]
    omega
  · rw [show l.getD i 0 = 0 by simp [Nat.not_lt.1 hi]]
    rfl
theorem Rel.row_lt (h : Rel n l) (i : Nat) : row l i < 2 ^ n := by
  have hp : 0 < 2 ^ n := Nat.two_pow_pos n
  by_cases hi : i < l.length
  · have h1 := h.mem l[i] (List.getElem_mem hi)
    have h2 := h.getD i
    rw [show l.getD i 0 = l[i] by simp [hi]] at h2
    omega
  · unfold row
    rw [show l.getD i 0 = 0 by simp [Nat.not_lt.1 hi]]
    simpa using hp
theorem Rel.row_62 (h : Rel n l) (i : Nat) : row l i < 9223372036854775808 := lt62 (h.row_lt i) (by have := h.le; omega)
theorem Rel.B_lt (h : Rel n l) {i j : Nat} (hb : B l i j = true) : j < n := by
  apply Nat.lt_of_not_le
  intro hle
  unfold B at hb
  rw [Nat.testBit_lt_two_pow (Nat.lt_of_lt_of_le (h.row_lt i) (Nat.pow_le_pow_right (by decide) hle))] at hb
  cases hb
theorem Rel.B_lt' (h : Rel n l) {i j : Nat} (hb : B l i j = true) : i < n := by
  apply Nat.lt_of_not_le
  intro hle
  unfold B row at hb
  rw [show l.getD i 0 = 0 by simp [h.len, hle]] at hb
  simp at hb
theorem Rel.rd (h : Rel n l) (i : Nat) : rd l (i : Int) = ((row l i : Nat) : Int) := by rw [rd_nat, h.getD]
theorem Rel.bit (h : Rel n l) (i j : Nat) : M.bit (Go.Proofs.YtfjpilcmjabikaaDoorW.PrintWords.rd l (i : Int)) j = B l i j := by rw [h.rd, bit_cast]; rfl
theorem Rel.ext {l' : List Int} (h : Rel n l) (h' : Rel n l') (hb : ∀ i j, i < n → j < n → B l i j = B l' i j) : l = l' := by
  apply list_ext_getD (by rw [h.len, h'.len])
  intro i hi
  rw [h.getD, h'.getD]
  congr 1
  apply Nat.eq_of_testBit_eq
  intro j
  by_cases hj : j < n
  · exact hb i j (by rw [← h.len]; exact hi) hj
  · have e1 : B l i j = false := by
      cases hc : B l i j with
      | false => rfl
      | true => exact absurd (h.B_lt hc) hj
    have e2 : B l' i j = false := by
      cases hc : B l' i j with
      | false => rfl
      | true => exact absurd (h'.B_lt hc) hj
    exact e1.trans e2.symm
end
def relL (n : Nat) (p : Nat → Nat → Bool) : List Int := (List.range n).map fun i => ((setOf n (p i) : Nat) : Int)
theorem relL_length (n : Nat) (p : Nat → Nat → Bool) : (relL n p).length = n := by simp [relL]
theorem relL_row (n : Nat) (p : Nat → Nat → Bool) (i : Nat) (h : i < n) : row (relL n p) i = setOf n (p i) := by
  simp [row, relL, h]
theorem relL_B (n : Nat) (p : Nat → Nat → Bool) (i j : Nat) : B (relL n p) i j = (decide (i < n) && (decide (j < n) && p i j)) := by
  unfold B
  by_cases h : i < n
  · rw [relL_row n p i h, testBit_setOf]; simp [h]
  · have : row (relL n p) i = 0 := by simp [row, relL, h]
    rw [this]; simp [h]
theorem relL_rel (n : Nat) (hn : n ≤ 10) (p : Nat → Nat → Bool) : Rel n (relL n p) where
  le := hn
  len := relL_length n p
  mem := by
    intro x hx
    simp only [relL, List.mem_map, List.mem_range] at hx
    obtain ⟨i, _, rfl⟩ := hx
    have := setOf_lt n (p i)
    omega
theorem relL_congr {n : Nat} {p q : Nat → Nat → Bool} (h : ∀ i j, i < n → j < n → p i j = q i j) : relL n p = relL n q := by
  unfold relL
  apply List.map_congr_left
  intro i hi
  rw [List.mem_range] at hi
  rw [setOf_congr (fun j hj => h i j hi hj)]
theorem Rel.eq_relL {n : Nat} {l : List Int} (h : Rel n l) : l = relL n (B l) := by
  apply Rel.ext h (relL_rel n h.le _)
  intro i j hi hj
  rw [relL_B]; simp [hi, hj]
theorem within_eq (a b c : Int) : Abe.f a b c = some (decide (b ≤ a ∧ a ≤ c)) := by
  unfold Abe.f
  by_cases h : a ≥ b
  · rw [if_pos h]; simp [h]
  · rw [if_neg h]; simp; omega
theorem l1In_eq (a b c : Int) : Abh.f a b c = some (decide (b ≤ a ∧ a ≤ c)) := by
  unfold Abh.f
  by_cases h : a ≥ b
  · rw [if_pos h]; simp [h]
  · rw [if_neg h]; simp; omega
def allIn (l : List Int) (a b : Int) : Bool := decide (∀ x ∈ l, a ≤ x ∧ x ≤ b)
theorem allIn_eq (l : List Int) (a b : Int) : allIn l a b = allB l.length fun i => decide (a ≤ l.getD i 0 ∧ l.getD i 0 ≤ b) := by
  rw [Bool.eq_iff_iff, allB_iff]
  simp only [allIn, decide_eq_true_iff]
  constructor
  · intro h i hi
    have := h l[i] (List.getElem_mem hi)
    simpa [hi] using this
  · intro h x hx
    obtain ⟨i, hi, rfl⟩ := List.getElem_of_mem hx
    have := h i hi
    simpa [hi] using this
theorem allWithin_ev (l : List Int) (a b : Int) (hl : l.length ≤ 140737488355328) : Ev (fun k => Aat.f k l a b) (allIn l a b) := by
  rw [allIn_eq]
  unfold Aat.f
  refine Ev.all (fun i k => Aat.l0 k a b l (l.length : Int) (i : Int)) l.length _ ?_ ?_ ?_
  · intro i r hi hp h
    refine Ev.step (fun _ => rfl) ?_
    rw [decide_eq_true_iff] at hp
    simp only [Aat.l0, if_pos (show (i : Int) < (l.length : Int) by omega), if_pos (show (0 : Int) ≤ (i : Int) by omega), within_eq, rd_nat, Option.bind_some, decide_eq_true hp, if_true, next64 i l.length hi hl]
    exact h
  · intro i hi hp
    refine Ev.step (fun _ => rfl) ?_
    rw [decide_eq_false_iff_not] at hp
    simp only [Aat.l0, if_pos (show (i : Int) < (l.length : Int) by omega), if_pos (show (0 : Int) ≤ (i : Int) by omega), within_eq, rd_nat, Option.bind_some, decide_eq_false hp, Bool.false_eq_true, if_false]
    exact Ev.now _
  · refine Ev.step (fun _ => rfl) ?_
    simp only [Aat.l0, if_neg (show ¬ (l.length : Int) < (l.length : Int) by omega)]
    exact Ev.now _
theorem l1All_ev (l : List Int) (a b : Int) (hl : l.length ≤ 140737488355328) : Ev (fun k => Abb.f k l a b) (allIn l a b) := by
  rw [allIn_eq]
  unfold Abb.f
  refine Ev.all (fun i k => Abb.l0 k a b l (l.length : Int) (i : Int)) l.length _ ?_ ?_ ?_
  · intro i r hi hp h
    refine Ev.step (fun _ => rfl) ?_
    rw [decide_eq_true_iff] at hp
    simp only [Abb.l0, if_pos (show (i : Int) < (l.length : Int) by omega), if_pos (show (0 : Int) ≤ (i : Int) by omega), l1In_eq, rd_nat, Option.bind_some, decide_eq_true hp, if_true, next64 i l.length hi hl]
    exact h
  · intro i hi hp
    refine Ev.step (fun _ => rfl) ?_
    rw [decide_eq_false_iff_not] at hp
    simp only [Abb.l0, if_pos (show (i : Int) < (l.length : Int) by omega), if_pos (show (0 : Int) ≤ (i : Int) by omega), l1In_eq, rd_nat, Option.bind_some, decide_eq_false hp, Bool.false_eq_true, if_false]
    exact Ev.now _
  · refine Ev.step (fun _ => rfl) ?_
    simp only [Abb.l0, if_neg (show ¬ (l.length : Int) < (l.length : Int) by omega)]
    exact Ev.now _
theorem pow_of (n : Int) (h0 : 0 ≤ n) (h1 : n ≤ 10) : wrap64 (shl .i64 1 n - 1) = ((2 ^ n.toNat : Nat) : Int) - 1 := by
  obtain ⟨m, rfl⟩ := Int.eq_ofNat_of_zero_le h0
  rw [shl1 m (by omega), Int.toNat_natCast]
  have h2 : (2 : Nat) ^ m ≤ 2 ^ 10 := Nat.pow_le_pow_right (by decide) (by omega)
  have h3 : 0 < (2 : Nat) ^ m := Nat.two_pow_pos m
  exact wrap64_id _ (by omega) (by omega)
theorem isRel_parts (n : Int) (l : List Int) : isRel n l = (decide (0 ≤ n ∧ n ≤ 10) && (decide ((l.length : Int) = n) && allIn l 0 (((2 ^ n.toNat : Nat) : Int) - 1))) := by
  rw [Bool.eq_iff_iff]
  simp only [isRel, allIn, Bool.and_eq_true, decide_eq_true_iff]
  exact ⟨fun ⟨a, b, c, d⟩ => ⟨⟨a, b⟩, c, d⟩, fun ⟨⟨a, b⟩, c, d⟩ => ⟨a, b, c, d⟩⟩
theorem IsRelation_ev (n : Int) (l : List Int) (hl : l.length ≤ 140737488355328) : Ev (fun k => Aa5.f k n l) (isRel n l) := by
  unfold Aa5.f
  simp only [within_eq, Option.bind_some]
  rw [isRel_parts]
  by_cases h1 : 0 ≤ n ∧ n ≤ 10
  · by_cases h2 : (l.length : Int) = n
    · simp only [decide_eq_true h1, if_true, if_pos h2, if_pos h1.1, pow_of n h1.1 h1.2, decide_eq_true h2, Bool.true_and]
      exact Ev.bind (allWithin_ev l _ _ hl) (Ev.now _)
    · simp only [decide_eq_true h1, if_true, if_neg h2, decide_eq_false h2, Bool.false_and, Bool.and_false]
      exact Ev.now _
  · simp only [decide_eq_false h1, Bool.false_eq_true, if_false, Bool.false_and]
    exact Ev.now _
theorem orRelation_ev (n : Int) (l : List Int) (hl : l.length ≤ 140737488355328) : Ev (fun k => Abj.f k n l) (isRel n l) := by
  unfold Abj.f
  simp only [l1In_eq, Option.bind_some]
  rw [isRel_parts]
  by_cases h1 : 0 ≤ n ∧ n ≤ 10
  · by_cases h2 : (l.length : Int) = n
    · simp only [decide_eq_true h1, if_true, if_pos h2, if_pos h1.1, pow_of n h1.1 h1.2, decide_eq_true h2, Bool.true_and]
      exact Ev.bind (l1All_ev l _ _ hl) (Ev.now _)
    · simp only [decide_eq_true h1, if_true, if_neg h2, decide_eq_false h2, Bool.false_and, Bool.and_false]
      exact Ev.now _
  · simp only [decide_eq_false h1, Bool.false_eq_true, if_false, Bool.false_and]
    exact Ev.now _
def closedAt (n : Nat) (l : List Int) (i : Nat) : Bool := allB (elems n (row l i)).length fun q => diff (row l ((elems n (row l i)).getD q 0)) (row l i) == 0
def isOrd (n : Int) (l : List Int) : Bool := isRel n l && allB l.length fun i => !B l i i && closedAt l.length l i
theorem better_eq {n : Nat} {l : List Int} (h : Rel n l) (m : Int) (i j : Nat) (hi : i < n) (hj : j ≤ 62) : Aaj.f m l (i : Int) (j : Int) = some (B l i j) := by
  unfold Aaj.f
  rw [if_pos (by omega), if_pos (by rw [h.len]; omega), if_pos (by omega), has_and _ _ (by rw [h.rd]; omega) (by rw [h.rd]; have := h.row_62 i; omega) (by omega), h.bit]
theorem diff_zero (a b : Nat) : (diff a b = 0) ↔ ∀ j, a.testBit j = true → b.testBit j = true := by
  constructor
  · intro h j hj
    have := testBit_diff a b j
    rw [h, hj] at this
    simpa using this.symm
  · intro h
    apply Nat.eq_of_testBit_eq
    intro j
    rw [testBit_diff]
    cases hj : a.testBit j with
    | false => simp
    | true => simp [h j hj]
theorem ints_getD (l : List Nat) (q : Nat) (h : q < l.length) : (ints l).getD q 0 = ((l.getD q 0 : Nat) : Int) := by simp [ints, h]
theorem closed_iff {n : Nat} {l : List Int} (h : Rel n l) (i : Nat) : closedAt n l i = true ↔ ∀ j k, B l i j = true → B l j k = true → B l i k = true := by
  unfold closedAt
  rw [allB_iff]
  constructor
  · intro H j k hij hjk
    have hm : j ∈ elems n (row l i) := mem_elems.2 ⟨h.B_lt hij, hij⟩
    obtain ⟨q, hq, e⟩ := List.getElem_of_mem hm
    have := H q hq
    rw [show (elems n (row l i)).getD q 0 = j by simp [hq, e], beq_iff_eq, diff_zero] at this
    exact this k hjk
  · intro H q hq
    rw [beq_iff_eq, diff_zero]
    intro k hk
    have hm : (elems n (row l i)).getD q 0 ∈ elems n (row l i) := by simp [hq]
    exact H _ k (mem_elems.1 hm).2 hk
structure Ord (n : Nat) (l : List Int) : Prop extends Rel n l where
  irr : ∀ i, B l i i = false
  trans : ∀ i j k, B l i j = true → B l j k = true → B l i k = true
theorem isOrd_iff {n : Int} {l : List Int} : isOrd n l = true ↔ ∃ m : Nat, n = m ∧ Ord m l := by
  unfold isOrd
  rw [Bool.and_eq_true, isRel_iff, allB_iff]
  constructor
  · rintro ⟨⟨m, rfl, h⟩, H⟩
    rw [h.len] at H
    refine ⟨m, rfl, h, fun i => ?_, fun i j k hij hjk => ?_⟩
    · cases hc : B l i i with
      | false => rfl
      | true =>
        have := H i (h.B_lt hc)
        rw [hc] at this
        simp at this
    · have := H i (h.B_lt' hij)
      rw [Bool.and_eq_true] at this
      exact (closed_iff h i).1 this.2 j k hij hjk
  · rintro ⟨m, rfl, h⟩
    refine ⟨⟨m, rfl, h.toRel⟩, fun i _ => ?_⟩
    rw [h.irr i, h.len, (closed_iff h.toRel i).2 (h.trans i)]
    rfl
theorem IsOrder_ev (n : Int) (l : List Int) (hl : l.length ≤ 140737488355328) : Ev (fun k => Aap.f k n l) (isOrd n l) := by
  unfold Aap.f isOrd
  refine Ev.bind (IsRelation_ev n l hl) ?_
  cases hr : isRel n l with
  | false => simp only [Bool.false_eq_true, if_false, Bool.false_and]; exact Ev.now _
  | true =>
    obtain ⟨m, rfl, h⟩ := isRel_iff.1 hr
    have hlen := h.len
    have h10 := h.le
    simp only [if_true, Bool.true_and]
    refine Ev.all (fun i k => Aap.l0 k l (l.length : Int) (i : Int) (m : Int) l) l.length _ ?_ ?_ ?_
    · intro i r hi hp hrest
      rw [Bool.and_eq_true] at hp
      have hB : B l i i = false := by simpa using hp.1
      refine Ev.step (fun _ => rfl) ?_
      simp only [Aap.l0, if_pos (show (i : Int) < (l.length : Int) by omega), if_pos (show (0 : Int) ≤ (i : Int) by omega), better_eq h _ i i (by omega) (by omega), Option.bind_some, hB, Bool.false_eq_true, if_false, h.rd]
      refine Ev.bind (members_ev m (by omega) (row l i) (h.row_lt i)) ?_
      have hE := elems_length_le m (row l i)
      rw [ints_length]
      refine Ev.up (fun q k => Aap.l1 k ((row l i : Nat) : Int) l (l.length : Int) (i : Int) (ints (elems m (row l i))) ((elems m (row l i)).length : Int) (q : Int) (m : Int) l) (elems m (row l i)).length ?_ ?_
      · intro q hq hn
        refine Ev.step (fun _ => rfl) ?_
        have hmem : (elems m (row l i)).getD q 0 ∈ elems m (row l i) := by simp [hq]
        have hlt := (mem_elems.1 hmem).1
        have e0 : rd (ints (elems m (row l i))) (q : Int) = (((elems m (row l i)).getD q 0 : Nat) : Int) := by rw [rd_nat, ints_getD _ _ hq]
        have hd : diff (row l ((elems m (row l i)).getD q 0)) (row l i) = 0 := by
          have hc := hp.2
          unfold closedAt at hc
          rw [allB_iff, hlen] at hc
          exact beq_iff_eq.1 (hc q hq)
        simp only [Aap.l1, if_pos (show (q : Int) < ((elems m (row l i)).length : Int) by omega), if_pos (show (0 : Int) ≤ (q : Int) by omega), ints_length, e0, if_pos (show (0 : Int) ≤ (((elems m (row l i)).getD q 0 : Nat) : Int) by omega), if_pos (show (((elems m (row l i)).getD q 0 : Nat) : Int) < (l.length : Int) by omega), h.rd, andNot_i64 _ _ (h.row_62 _) (h.row_62 _), hd, Int.natCast_zero, if_true, next64 q _ hq (by omega)]
        exact hn
      · refine Ev.step (fun _ => rfl) ?_
        simp only [Aap.l1, if_neg (show ¬ ((elems m (row l i)).length : Int) < ((elems m (row l i)).length : Int) by omega), next64 i l.length hi (by omega)]
        exact hrest
    · intro i hi hp
      refine Ev.step (fun _ => rfl) ?_
      simp only [Aap.l0, if_pos (show (i : Int) < (l.length : Int) by omega), if_pos (show (0 : Int) ≤ (i : Int) by omega), better_eq h _ i i (by omega) (by omega), Option.bind_some]
      cases hB : B l i i with
      | true => simp only [if_true]; exact Ev.now _
      | false =>
        rw [hB] at hp
        have hc : closedAt l.length l i = false := by simpa using hp
        unfold closedAt at hc
        rw [hlen] at hc
        obtain ⟨j, hj, hbad, hless⟩ := least_false (allB_false.1 hc)
        simp only [Bool.false_eq_true, if_false, h.rd]
        refine Ev.bind (members_ev m (by omega) (row l i) (h.row_lt i)) ?_
        have hE := elems_length_le m (row l i)
        rw [ints_length]
        refine Ev.up (fun q k => Aap.l1 k ((row l i : Nat) : Int) l (l.length : Int) (i : Int) (ints (elems m (row l i))) ((elems m (row l i)).length : Int) (q : Int) (m : Int) l) j ?_ ?_
        · intro q hq hn
          refine Ev.step (fun _ => rfl) ?_
          have hmem : (elems m (row l i)).getD q 0 ∈ elems m (row l i) := by simp [show q < (elems m (row l i)).length by omega]
          have hlt := (mem_elems.1 hmem).1
          have e0 : rd (ints (elems m (row l i))) (q : Int) = (((elems m (row l i)).getD q 0 : Nat) : Int) := by rw [rd_nat, ints_getD _ _ (by omega)]
          have hd : diff (row l ((elems m (row l i)).getD q 0)) (row l i) = 0 := beq_iff_eq.1 (hless q hq)
          simp only [Aap.l1, if_pos (show (q : Int) < ((elems m (row l i)).length : Int) by omega), if_pos (show (0 : Int) ≤ (q : Int) by omega), ints_length, e0, if_pos (show (0 : Int) ≤ (((elems m (row l i)).getD q 0 : Nat) : Int) by omega), if_pos (show (((elems m (row l i)).getD q 0 : Nat) : Int) < (l.length : Int) by omega), h.rd, andNot_i64 _ _ (h.row_62 _) (h.row_62 _), hd, Int.natCast_zero, if_true, next64 q _ (show q < (elems m (row l i)).length by omega) (by omega)]
          exact hn
        · refine Ev.step (fun _ => rfl) ?_
          have hmem : (elems m (row l i)).getD j 0 ∈ elems m (row l i) := by simp [hj]
          have hlt := (mem_elems.1 hmem).1
          have e0 : rd (ints (elems m (row l i))) (j : Int) = (((elems m (row l i)).getD j 0 : Nat) : Int) := by rw [rd_nat, ints_getD _ _ (by omega)]
          have hd : ¬ ((diff (row l ((elems m (row l i)).getD j 0)) (row l i) : Nat) : Int) = 0 := by
            have := beq_eq_false_iff_ne.1 hbad
            omega
          simp only [Aap.l1, if_pos (show (j : Int) < ((elems m (row l i)).length : Int) by omega), if_pos (show (0 : Int) ≤ (j : Int) by omega), ints_length, e0, if_pos (show (0 : Int) ≤ (((elems m (row l i)).getD j 0 : Nat) : Int) by omega), if_pos (show (((elems m (row l i)).getD j 0 : Nat) : Int) < (l.length : Int) by omega), h.rd, andNot_i64 _ _ (h.row_62 _) (h.row_62 _), if_neg hd]
          exact Ev.now _
    · refine Ev.step (fun _ => rfl) ?_
      simp only [Aap.l0, if_neg (show ¬ (l.length : Int) < (l.length : Int) by omega)]
      exact Ev.now _
end Go.Proofs.YtfjpilcmjabikaaDoor.M
namespace Go.Proofs.YtfjpilcmjabikaaDoor.M
open Go.RowKit Go.Proofs.YtfjpilcmjabikaaDoorW.PrintMore Go.Proofs.YtfjpilcmjabikaaDoorW.PrintLast Go.Proofs.YtfjpilcmjabikaaDoorW.PrintWords Go.Proofs.YtfjpilcmjabikaaDoor.P
def free (l : List Int) (i j : Nat) : Bool := !B l i j && (!B l j i && decide (j ≠ i))
def hit22 (l : List Int) (a b c d : Nat) : Bool := B l a b && (B l c d && (!B l c b && !B l a d))
def hit31 (l : List Int) (a b c d : Nat) : Bool := B l a b && (B l b c && (free l a d && (free l b d && free l c d)))
def no22 (n : Nat) (l : List Int) : Bool := allB n fun a => allB n fun b => allB n fun c => allB n fun d => !hit22 l a b c d
def no31 (n : Nat) (l : List Int) : Bool := allB n fun a => allB n fun b => allB n fun c => allB n fun d => !hit31 l a b c d
theorem no22_iff {n : Nat} {l : List Int} : no22 n l = true ↔ ∀ a, a < n → ∀ b, b < n → ∀ c, c < n → ∀ d, d < n → hit22 l a b c d = false := by
  unfold no22
  simp only [allB_iff, Bool.not_eq_true']
theorem no31_iff {n : Nat} {l : List Int} : no31 n l = true ↔ ∀ a, a < n → ∀ b, b < n → ∀ c, c < n → ∀ d, d < n → hit31 l a b c d = false := by
  unfold no31
  simp only [allB_iff, Bool.not_eq_true']
def hit22s (l : List Int) (a b c d : Nat) : Bool := B l a b && (B l c d && (free l a d && free l c b))
theorem hit22_same {n : Nat} {l : List Int} (o : Ord n l) (a b c d : Nat) : hit22 l a b c d = hit22s l a b c d := by
  unfold hit22 hit22s free
  cases h1 : B l a b with
  | false => rfl
  | true =>
    cases h2 : B l c d with
    | false => rfl
    | true =>
      cases h3 : B l c b with
      | true => simp
      | false =>
        cases h4 : B l a d with
        | true => simp
        | false =>
          have e1 : B l d a = false := by
            cases h : B l d a with
            | false => rfl
            | true => have := o.trans c a b (o.trans c d a h2 h) h1; rw [h3] at this; cases this
          have e2 : B l b c = false := by
            cases h : B l b c with
            | false => rfl
            | true => have := o.trans a c d (o.trans a b c h1 h) h2; rw [h4] at this; cases this
          have e3 : d ≠ a := by rintro rfl; have := o.trans c d b h2 h1; rw [h3] at this; cases this
          have e4 : b ≠ c := by rintro rfl; have := o.trans a b d h1 h2; rw [h4] at this; cases this
          simp [e1, e2, e3, e4]
def isSemi (n : Int) (l : List Int) : Bool := isOrd n l && (no22 n.toNat l && no31 n.toNat l)
def cnt (n : Nat) (p : Nat → Bool) : Nat := ((List.range n).filter p).length
theorem cnt_le_of {n : Nat} {p q : Nat → Bool} (h : ∀ k, p k = true → q k = true) : cnt n p ≤ cnt n q := by
  unfold cnt
  rw [← List.countP_eq_length_filter, ← List.countP_eq_length_filter]
  exact List.countP_mono_left fun x _ hx => h x hx
theorem cnt_lt_of {n : Nat} {p q : Nat → Bool} (h : ∀ k, p k = true → q k = true) (x : Nat) (hx : x < n) (h1 : p x = false) (h2 : q x = true) : cnt n p < cnt n q := by
  have key : ∀ (L : List Nat), (L.filter p).length ≤ (L.filter q).length := by
    intro L
    rw [← List.countP_eq_length_filter, ← List.countP_eq_length_filter]
    exact List.countP_mono_left fun x _ hx => h x hx
  have : ∀ (L : List Nat), x ∈ L → (L.filter p).length < (L.filter q).length := by
    intro L
    induction L with
    | nil => simp
    | cons a L ih =>
      intro hm
      have hk := key L
      rw [List.filter_cons, List.filter_cons]
      rcases List.mem_cons.1 hm with rfl | hm
      · simp [h1, h2]; omega
      · have := ih hm
        cases hp : p a with
        | false =>
          cases hq : q a with
          | false => simpa using this
          | true => simp; omega
        | true => simpa [h a hp] using this
  exact this _ (List.mem_range.2 hx)
theorem cnt_le (n : Nat) (p : Nat → Bool) : cnt n p ≤ n := by
  have := List.length_filter_le p (List.range n)
  rw [List.length_range] at this
  exact this
def num (n : Nat) (l : List Int) (i : Nat) : Int := (cnt n (fun k => B l k i) : Int) - (cnt n (fun k => B l i k) : Int)
section
variable {n : Nat} {l : List Int}
theorem semi_below (h22 : ∀ a b c d, hit22 l a b c d = false) {i j x : Nat} (h1 : B l x j = true) (h2 : B l x i = false) : ∀ k, B l k i = true → B l k j = true := by
  intro k hk
  cases hb : B l k j with
  | true => rfl
  | false =>
    have := h22 k i x j
    simp [hit22, h1, h2, hk, hb] at this
theorem semi_above (h22 : ∀ a b c d, hit22 l a b c d = false) {i j y : Nat} (h1 : B l i y = true) (h2 : B l j y = false) : ∀ k, B l j k = true → B l i k = true := by
  intro k hk
  cases hb : B l i k with
  | true => rfl
  | false =>
    have := h22 i y j k
    simp [hit22, h1, h2, hk, hb] at this
theorem semi_three (o : Ord n l) (h31 : ∀ a b c d, d < n → hit31 l a b c d = false) {i j x y : Nat} (hi : i < n) (h1 : B l x j = true) (h2 : B l x i = false) (h3 : B l j y = true) (h4 : B l i y = false) : False := by
  have no : ∀ {a b : Nat}, (B l a b = true → False) → B l a b = false := fun {a b} h => by
    cases hb : B l a b with
    | false => rfl
    | true => exact (h hb).elim
  have e1 : B l i x = false := no fun h => by have := o.trans i j y (o.trans i x j h h1) h3; rw [h4] at this; cases this
  have n1 : i ≠ x := by rintro rfl; have := o.trans i j y h1 h3; rw [h4] at this; cases this
  have e2 : B l i j = false := no fun h => by have := o.trans i j y h h3; rw [h4] at this; cases this
  have e3 : B l j i = false := no fun h => by have := o.trans x j i h1 h; rw [h2] at this; cases this
  have n2 : i ≠ j := by rintro rfl; rw [h2] at h1; cases h1
  have e4 : B l y i = false := no fun h => by have := o.trans x j i h1 (o.trans j y i h3 h); rw [h2] at this; cases this
  have n3 : i ≠ y := by rintro rfl; have := o.trans x j i h1 h3; rw [h2] at this; cases this
  have := h31 x j y i hi
  simp [hit31, free, h1, h2, h3, h4, e1, n1, e2, e3, n2, e4, n3] at this
theorem semi_trace (o : Ord n l) (h22 : ∀ a b c d, hit22 l a b c d = false) (h31 : ∀ a b c d, d < n → hit31 l a b c d = false) (i j : Nat) (hi : i < n) (hj : j < n) : ((∃ x, B l x j = true ∧ B l x i = false) ∨ (∃ y, B l i y = true ∧ B l j y = false)) ↔ num n l i < num n l j := by
  unfold num
  constructor
  · rintro (⟨x, h1, h2⟩ | ⟨y, h1, h2⟩)
    · have a1 : cnt n (fun k => B l k i) < cnt n (fun k => B l k j) := cnt_lt_of (semi_below h22 h1 h2) x (o.toRel.B_lt' h1) h2 h1
      have a2 : cnt n (fun k => B l j k) ≤ cnt n (fun k => B l i k) := cnt_le_of fun k hk => by
        cases hb : B l i k with
        | true => rfl
        | false => exact (semi_three o h31 hi h1 h2 hk hb).elim
      omega
    · have a1 : cnt n (fun k => B l j k) < cnt n (fun k => B l i k) := cnt_lt_of (semi_above h22 h1 h2) y (o.toRel.B_lt h1) h2 h1
      have a2 : cnt n (fun k => B l k i) ≤ cnt n (fun k => B l k j) := cnt_le_of fun k hk => by
        cases hb : B l k j with
        | true => rfl
        | false => exact (semi_three o h31 hj hk hb h1 h2).elim
      omega
  · intro h
    refine Classical.byContradiction fun hno => ?_
    have a1 : cnt n (fun k => B l k j) ≤ cnt n (fun k => B l k i) := cnt_le_of fun k hk => by
      cases hb : B l k i with
      | true => rfl
      | false => exact (hno (.inl ⟨k, hk, hb⟩)).elim
    have a2 : cnt n (fun k => B l i k) ≤ cnt n (fun k => B l j k) := cnt_le_of fun k hk => by
      cases hb : B l j k with
      | true => rfl
      | false => exact (hno (.inr ⟨k, hk, hb⟩)).elim
    omega
end
end Go.Proofs.YtfjpilcmjabikaaDoor.M
namespace Go.Proofs.YtfjpilcmjabikaaDoor.M
open Go.RowKit Go.Proofs.YtfjpilcmjabikaaDoorW.PrintMore Go.Proofs.YtfjpilcmjabikaaDoorW.PrintLast Go.Proofs.YtfjpilcmjabikaaDoorW.PrintWords Go.Proofs.YtfjpilcmjabikaaDoor.P
def lev (s : Nat → Nat) (h : ∀ p, s p ≤ p) (p : Nat) : Nat := if h0 : s p = 0 then 0 else lev s h (s p - 1) + 1
termination_by p
decreasing_by have := h p; omega
def off (s : Nat → Nat) (h : ∀ p, s p ≤ p) (p : Nat) : Nat := (if h0 : s p = 0 then 0 else off s h (s p - 1)) + (p + 1) * 11 ^ (10 - lev s h p)
termination_by p
decreasing_by have := h p; omega
section
variable {s : Nat → Nat} (h : ∀ p, s p ≤ p) (hm : ∀ p q, p ≤ q → s p ≤ s q)
theorem lev_zero {p : Nat} (h0 : s p = 0) : lev s h p = 0 := by rw [lev, dif_pos h0]
theorem lev_succ {p : Nat} (h0 : s p ≠ 0) : lev s h p = lev s h (s p - 1) + 1 := by rw [lev, dif_neg h0]
theorem off_zero {p : Nat} (h0 : s p = 0) : off s h p = (p + 1) * 11 ^ (10 - lev s h p) := by rw [off, dif_pos h0, Nat.zero_add]
theorem off_succ {p : Nat} (h0 : s p ≠ 0) : off s h p = off s h (s p - 1) + (p + 1) * 11 ^ (10 - lev s h p) := by rw [off, dif_neg h0]
theorem lev_le (p : Nat) : lev s h p ≤ p := by
  induction p using Nat.strongRecOn with
  | _ p ih =>
    by_cases h0 : s p = 0
    · rw [lev_zero h h0]; omega
    · have := h p
      rw [lev_succ h h0]
      have := ih (s p - 1) (by omega)
      omega
include hm in
theorem lev_mono (q : Nat) : ∀ p, p ≤ q → lev s h p ≤ lev s h q := by
  induction q using Nat.strongRecOn with
  | _ q ih =>
    intro p hp
    by_cases h0 : s p = 0
    · rw [lev_zero h h0]; omega
    · have h1 := hm p q hp
      have h2 := h q
      rw [lev_succ h h0, lev_succ h (show s q ≠ 0 by omega)]
      have := ih (s q - 1) (by omega) (s p - 1) (by omega)
      omega
include hm in
theorem off_same (q : Nat) : ∀ p, p < q → q < 10 → lev s h p = lev s h q → off s h p + 11 ^ (10 - lev s h q) ≤ off s h q := by
  induction q using Nat.strongRecOn with
  | _ q ih =>
    intro p hp hq hl
    have hW : 0 < 11 ^ (10 - lev s h q) := Nat.pow_pos (by decide)
    by_cases h0 : s p = 0
    · have hq0 : s q = 0 := by
        by_cases hq0 : s q = 0
        · exact hq0
        · rw [lev_zero h h0, lev_succ h hq0] at hl
          omega
      rw [off_zero h h0, off_zero h hq0, hl]
      have : (p + 1) * 11 ^ (10 - lev s h q) + 11 ^ (10 - lev s h q) = (p + 1 + 1) * 11 ^ (10 - lev s h q) := (Nat.succ_mul (p + 1) _).symm
      rw [this]
      exact Nat.mul_le_mul_right _ (by omega)
    · have h1 := hm p q (by omega)
      have h2 := h q
      have hq0 : s q ≠ 0 := by omega
      have hl' : lev s h (s p - 1) = lev s h (s q - 1) := by
        rw [lev_succ h h0, lev_succ h hq0] at hl
        omega
      rw [off_succ h h0, off_succ h hq0, hl]
      have e : (p + 1) * 11 ^ (10 - lev s h q) + 11 ^ (10 - lev s h q) = (p + 1 + 1) * 11 ^ (10 - lev s h q) := (Nat.succ_mul (p + 1) _).symm
      have e2 : (p + 1 + 1) * 11 ^ (10 - lev s h q) ≤ (q + 1) * 11 ^ (10 - lev s h q) := Nat.mul_le_mul_right _ (by omega)
      by_cases he : s p = s q
      · rw [he]; omega
      · have := ih (s q - 1) (by omega) (s p - 1) (by omega) (by omega) hl'
        have hle := lev_le h q
        have e3 : 11 ^ (10 - lev s h (s q - 1)) = 11 * 11 ^ (10 - lev s h q) := by
          rw [show 10 - lev s h (s q - 1) = (10 - lev s h q) + 1 from by have := lev_succ h hq0; omega, Nat.pow_succ, Nat.mul_comm]
        rw [e3] at this
        have e4 : (p + 1 + 1) * 11 ^ (10 - lev s h q) ≤ 11 * 11 ^ (10 - lev s h q) := Nat.mul_le_mul_right _ (by omega)
        omega
include hm in
theorem off_up {a b : Nat} (hb : b < 10) (hl : lev s h b = lev s h a + 1) (hab : a < s b) : off s h a < off s h b := by
  have h2 := h b
  have h0 : s b ≠ 0 := by omega
  have hc : lev s h (s b - 1) = lev s h a := by rw [lev_succ h h0] at hl; omega
  have hW : 0 < (b + 1) * 11 ^ (10 - lev s h b) := Nat.mul_pos (by omega) (Nat.pow_pos (by decide))
  rw [off_succ h h0]
  by_cases he : a = s b - 1
  · rw [he]; omega
  · have := Nat.le_trans (Nat.le_add_right _ _) (off_same h hm (s b - 1) a (by omega) (by omega) hc.symm)
    omega
include hm in
theorem off_down {a b : Nat} (ha : a < 10) (hb : b < 10) (hl : lev s h b = lev s h a + 1) (hab : s b ≤ a) : off s h b < off s h a := by
  have h2 := h b
  have h0 : s b ≠ 0 := by
    intro h0
    rw [lev_zero h h0] at hl
    omega
  have hc : lev s h (s b - 1) = lev s h a := by rw [lev_succ h h0] at hl; omega
  have := off_same h hm a (s b - 1) (by omega) ha hc
  have hle := lev_le h b
  have e3 : 11 ^ (10 - lev s h a) = 11 * 11 ^ (10 - lev s h b) := by
    rw [show 10 - lev s h a = (10 - lev s h b) + 1 from by omega, Nat.pow_succ, Nat.mul_comm]
  rw [e3] at this
  have hW : 0 < 11 ^ (10 - lev s h b) := Nat.pow_pos (by decide)
  have e4 : (b + 1) * 11 ^ (10 - lev s h b) ≤ 10 * 11 ^ (10 - lev s h b) := Nat.mul_le_mul_right _ (by omega)
  rw [off_succ h h0]
  omega
def plc (n : Nat) (p : Nat) : Nat := 10 * lev s h p + cnt n fun k => decide (off s h k < off s h p)
theorem rank_small {n p : Nat} (hp : p < n) (hn : n ≤ 10) : (cnt n fun k => decide (off s h k < off s h p)) ≤ 9 := by
  have := cnt_lt_of (n := n) (p := fun k => decide (off s h k < off s h p)) (q := fun _ => true) (fun _ _ => rfl) p hp (by simp) rfl
  have := cnt_le n fun _ => true
  omega
theorem rank_up {n a b : Nat} (ha : a < n) (hab : off s h a < off s h b) : (cnt n fun k => decide (off s h k < off s h a)) < cnt n fun k => decide (off s h k < off s h b) :=
  cnt_lt_of (fun k hk => by rw [decide_eq_true_iff] at *; omega) a ha (by simp) (by simpa using hab)
include hm in
theorem plc_far {n a b : Nat} (hn : n ≤ 10) (ha : a < n) (hb : b < n) (hab : a < s b) : plc h n a + 10 ≤ plc h n b := by
  have h0 : s b ≠ 0 := by omega
  have h1 := lev_mono h hm (s b - 1) a (by omega)
  have h2 := lev_succ h h0
  have ra := rank_small h ha hn
  unfold plc
  by_cases hl : lev s h b = lev s h a + 1
  · have := rank_up h (n := n) ha (off_up h hm (by omega) hl hab)
    omega
  · omega
include hm in
theorem plc_near {n a b : Nat} (hn : n ≤ 10) (ha : a < n) (hb : b < n) (hab : s b ≤ a) : plc h n b ≤ plc h n a + 9 := by
  have rb := rank_small h hb hn
  unfold plc
  by_cases h1 : lev s h b ≤ lev s h a
  · omega
  · have h0 : s b ≠ 0 := by
      intro h0
      rw [lev_zero h h0] at h1
      omega
    have h2 := lev_succ h h0
    have h3 := lev_mono h hm a (s b - 1) (by omega)
    have hl : lev s h b = lev s h a + 1 := by omega
    have := rank_up h (n := n) hb (off_down h hm (by omega) (by omega) hl hab)
    omega
end
def Fits (n : Nat) (l : List Int) (t : Nat) (q : Nat → Nat) : Prop := ∀ i j, i < n → j < n → (B l i j = true → q i + t ≤ q j) ∧ (free l i j = true → q i + 1 ≤ q j + t)
theorem cnt_on (n : Nat) (p : Nat → Bool) : cnt n p = cnt n fun k => decide (k < n) && p k := by
  unfold cnt
  congr 1
  apply List.filter_congr
  intro x hx
  simp [List.mem_range.1 hx]
theorem cnt_le_on {n : Nat} {p q : Nat → Bool} (h : ∀ k, k < n → p k = true → q k = true) : cnt n p ≤ cnt n q := by
  rw [cnt_on n p, cnt_on n q]
  apply cnt_le_of
  intro k hk
  rw [Bool.and_eq_true, decide_eq_true_iff] at *
  exact ⟨hk.1, h k hk.1 hk.2⟩
theorem cnt_lt_on {n : Nat} {p q : Nat → Bool} (h : ∀ k, k < n → p k = true → q k = true) (x : Nat) (hx : x < n) (h1 : p x = false) (h2 : q x = true) : cnt n p < cnt n q := by
  rw [cnt_on n p, cnt_on n q]
  refine cnt_lt_of (fun k hk => ?_) x hx (by rw [h1, Bool.and_false]) (by simp [hx, h2])
  rw [Bool.and_eq_true, decide_eq_true_iff] at *
  exact ⟨hk.1, h k hk.1 hk.2⟩
theorem semi_fits {n : Nat} {l : List Int} (o : Ord n l) (h22 : ∀ a b c d, hit22 l a b c d = false) (h31 : ∀ a b c d, d < n → hit31 l a b c d = false) : ∃ q : Nat → Nat, Fits n l 10 q := by
  have hn := o.le
  have tr := semi_trace o h22 h31
  let bl : Nat → Nat := fun j => cnt n fun k => B l k j
  let ps : Nat → Nat := fun i => cnt n fun k => decide (num n l k < num n l i)
  have down : ∀ x y j, x < n → y < n → B l x j = true → num n l y ≤ num n l x → B l y j = true := by
    intro x y j hx hy hb hle
    cases hc : B l y j with
    | true => rfl
    | false =>
      have := (tr x y hx hy).1 (.inr ⟨j, hb, hc⟩)
      omega
  have sub : ∀ i j x, i < n → j < n → B l x i = true → num n l i ≤ num n l j → B l x j = true := by
    intro i j x hi hj hb hle
    cases hc : B l x j with
    | true => rfl
    | false =>
      have := (tr j i hj hi).1 (.inl ⟨x, hb, hc⟩)
      omega
  have key1 : ∀ i j, i < n → j < n → B l i j = true → ps i < bl j := by
    intro i j hi hj hb
    refine cnt_lt_on (fun k hkn hk => ?_) i hi (by simp) hb
    rw [decide_eq_true_iff] at hk
    exact down i k j hi hkn hb (by omega)
  have key2 : ∀ i j, i < n → j < n → B l j i = false → bl i ≤ ps j := by
    intro i j hi hj hb
    refine cnt_le_on fun k hkn hk => ?_
    rw [decide_eq_true_iff]
    by_cases hle : num n l j ≤ num n l k
    · rw [down k j i hkn hj hk hle] at hb
      cases hb
    · omega
  have psn : ∀ i, i < n → ps i < n := by
    intro i hi
    have := cnt_lt_on (n := n) (p := fun k => decide (num n l k < num n l i)) (q := fun _ => true) (fun _ _ _ => rfl) i hi (by simp) rfl
    have := cnt_le n fun _ => true
    show (cnt n fun k => decide (num n l k < num n l i)) < n
    omega
  let s : Nat → Nat := fun p => min p (cnt n fun k => decide (∃ j, j < n ∧ ps j ≤ p ∧ B l k j = true))
  have hs : ∀ p, s p ≤ p := fun p => Nat.min_le_left _ _
  have hm : ∀ p q, p ≤ q → s p ≤ s q := by
    intro p q hpq
    have h1 : (cnt n fun k => decide (∃ j, j < n ∧ ps j ≤ p ∧ B l k j = true)) ≤ cnt n fun k => decide (∃ j, j < n ∧ ps j ≤ q ∧ B l k j = true) := by
      apply cnt_le_of
      intro k hk
      rw [decide_eq_true_iff] at *
      obtain ⟨j, hj, hle, hb⟩ := hk
      exact ⟨j, hj, by omega, hb⟩
    show min p _ ≤ min q _
    omega
  have at_ : ∀ j, j < n → s (ps j) = bl j := by
    intro j hj
    have h1 : (cnt n fun k => decide (∃ j', j' < n ∧ ps j' ≤ ps j ∧ B l k j' = true)) = bl j := by
      apply Nat.le_antisymm
      · refine cnt_le_on fun k hkn hk => ?_
        rw [decide_eq_true_iff] at hk
        obtain ⟨j', hj', hle, hb⟩ := hk
        refine sub j' j k hj' hj hb ?_
        by_cases hc : num n l j' ≤ num n l j
        · exact hc
        · exfalso
          have : ps j < ps j' := by
            refine cnt_lt_on (fun k _ hk => ?_) j hj (by simp) (by rw [decide_eq_true_iff]; omega)
            rw [decide_eq_true_iff] at *
            omega
          omega
      · refine cnt_le_on fun k hkn hk => ?_
        rw [decide_eq_true_iff]
        exact ⟨j, hj, Nat.le_refl _, hk⟩
    have h2 := key2 j j hj hj (o.irr j)
    show min (ps j) _ = bl j
    rw [h1]
    omega
  refine ⟨fun i => plc hs n (ps i), fun i j hi hj => ⟨fun hb => ?_, fun hf => ?_⟩⟩
  · have := plc_far hs hm hn (psn i hi) (psn j hj) (by rw [at_ j hj]; exact key1 i j hi hj hb)
    omega
  · have hb : B l j i = false := by
      unfold free at hf
      cases hc : B l j i with
      | false => rfl
      | true => rw [hc] at hf; simp at hf
    have := plc_near hs hm hn (psn j hj) (psn i hi) (by rw [at_ i hi]; exact key2 i j hi hj hb)
    show plc hs n (ps i) + 1 ≤ plc hs n (ps j) + 10
    omega
theorem fits_up {n : Nat} {l : List Int} {t : Nat} {q : Nat → Nat} (ht : 0 < t) (h : Fits n l t q) : Fits n l (t + 1) fun i => q i + q i / t := by
  intro i j hi hj
  obtain ⟨h1, h2⟩ := h i j hi hj
  refine ⟨fun hb => ?_, fun hf => ?_⟩
  · have h1 := h1 hb
    have h3 : (q i + t) / t ≤ q j / t := Nat.div_le_div_right h1
    rw [Nat.add_div_right _ ht] at h3
    show q i + q i / t + (t + 1) ≤ q j + q j / t
    omega
  · have h2 := h2 hf
    have h3 : q i / t ≤ (q j + t) / t := Nat.div_le_div_right (by omega)
    rw [Nat.add_div_right _ ht] at h3
    show q i + q i / t + 1 ≤ q j + q j / t + (t + 1)
    omega
theorem fits_22 {n : Nat} {l : List Int} {t : Nat} {q : Nat → Nat} (o : Ord n l) (ht : 0 < t) (h : Fits n l t q) (a b c d : Nat) : hit22 l a b c d = false := by
  cases hc : hit22 l a b c d with
  | false => rfl
  | true =>
    exfalso
    have hh : B l a b = true ∧ B l c d = true ∧ B l c b = false ∧ B l a d = false := by
      unfold hit22 at hc
      cases h1 : B l a b <;> cases h2 : B l c d <;> cases h3 : B l c b <;> cases h4 : B l a d <;> simp_all
    obtain ⟨hab, hcd, hcb, had⟩ := hh
    have ha := o.toRel.B_lt' hab
    have hb := o.toRel.B_lt hab
    have hc' := o.toRel.B_lt' hcd
    have hd := o.toRel.B_lt hcd
    have near : ∀ x y, x < n → y < n → B l y x = false → q x + 1 ≤ q y + t := by
      intro x y hx hy hyx
      by_cases e : x = y
      · rw [e]; omega
      · cases hxy : B l x y with
        | true => have := (h x y hx hy).1 hxy; omega
        | false => exact (h x y hx hy).2 (by unfold free; rw [hxy, hyx]; simp [Ne.symm e])
    have h1 := (h a b ha hb).1 hab
    have h2 := (h c d hc' hd).1 hcd
    have h3 := near b c hb hc' hcb
    have h4 := near d a hd ha had
    omega
theorem fits_31 {n : Nat} {l : List Int} {t : Nat} {q : Nat → Nat} (o : Ord n l) (h : Fits n l t q) (a b c d : Nat) (hd : d < n) : hit31 l a b c d = false := by
  cases hc : hit31 l a b c d with
  | false => rfl
  | true =>
    exfalso
    have hh : B l a b = true ∧ B l b c = true ∧ free l a d = true ∧ free l c d = true := by
      unfold hit31 at hc
      cases h1 : B l a b <;> cases h2 : B l b c <;> cases h3 : free l a d <;> cases h4 : free l b d <;> cases h5 : free l c d <;> simp_all
    obtain ⟨hab, hbc, had, hcd⟩ := hh
    have ha := o.toRel.B_lt' hab
    have hb := o.toRel.B_lt hab
    have hc' := o.toRel.B_lt hbc
    have h1 := (h a b ha hb).1 hab
    have h2 := (h b c hb hc').1 hbc
    have hda : free l d a = true := by
      unfold free at had ⊢
      cases e1 : B l a d <;> cases e2 : B l d a <;> simp_all
      intro e; exact had e.symm
    have h3 := (h d a hd ha).2 hda
    have h4 := (h c d hc' hd).2 hcd
    omega
end Go.Proofs.YtfjpilcmjabikaaDoor.M
namespace Go.Proofs.YtfjpilcmjabikaaDoor.M
open Go.RowKit Go.Proofs.YtfjpilcmjabikaaDoorW.PrintMore Go.Proofs.YtfjpilcmjabikaaDoorW.PrintLast Go.Proofs.YtfjpilcmjabikaaDoorW.PrintWords Go.Proofs.YtfjpilcmjabikaaDoor.P
def dem (l : List Int) (t : Nat) (i j : Nat) : Option Int := if B l i j then some (t : Int) else if free l i j then some (1 - (t : Int)) else none
def stp (l : List Int) (t j i : Nat) (p : List Int) : List Int := match dem l t i j with
  | some w => if p.getD j 0 < p.getD i 0 + w then p.set j (p.getD i 0 + w) else p
  | none => p
def rowR (l : List Int) (t j : Nat) : Nat → List Int → List Int
  | 0, p => p
  | m + 1, p => stp l t j m (rowR l t j m p)
def rnd (n : Nat) (l : List Int) (t : Nat) : Nat → List Int → List Int
  | 0, p => p
  | m + 1, p => rowR l t m n (rnd n l t m p)
def itr (n : Nat) (l : List Int) (t : Nat) : Nat → List Int
  | 0 => List.replicate n 0
  | r + 1 => rnd n l t n (itr n l t r)
theorem set_at (p : List Int) (j k : Nat) (x : Int) (hj : j < p.length) : (p.set j x).getD k 0 = if k = j then x else p.getD k 0 := by
  rw [List.getD_eq_getElem?_getD, List.getD_eq_getElem?_getD, List.getElem?_set]
  by_cases h : k = j
  · subst h; simp [hj]
  · rw [if_neg (Ne.symm h), if_neg h]
section
variable {n : Nat} {l : List Int} {t : Nat}
theorem stp_len (j i : Nat) (p : List Int) : (stp l t j i p).length = p.length := by
  unfold stp
  split
  · split
    · rw [List.length_set]
    · rfl
  · rfl
theorem rowR_len (j m : Nat) (p : List Int) : (rowR l t j m p).length = p.length := by
  induction m with
  | zero => rfl
  | succ m ih => unfold rowR; rw [stp_len, ih]
theorem rnd_len (m : Nat) (p : List Int) : (rnd n l t m p).length = p.length := by
  induction m with
  | zero => rfl
  | succ m ih => unfold rnd; rw [rowR_len, ih]
theorem itr_len (r : Nat) : (itr n l t r).length = n := by
  induction r with
  | zero => simp [itr]
  | succ r ih => unfold itr; rw [rnd_len, ih]
theorem stp_le (j i : Nat) (p : List Int) (hj : j < p.length) (k : Nat) : p.getD k 0 ≤ (stp l t j i p).getD k 0 := by
  unfold stp
  split
  · split
    · rw [set_at _ _ _ _ hj]
      split
      · rename_i h; rw [h]; omega
      · omega
    · omega
  · omega
theorem rowR_le (j m : Nat) (p : List Int) (hj : j < p.length) (k : Nat) : p.getD k 0 ≤ (rowR l t j m p).getD k 0 := by
  induction m with
  | zero => exact Int.le_refl _
  | succ m ih =>
    unfold rowR
    exact Int.le_trans ih (stp_le j m _ (by rw [rowR_len]; exact hj) k)
theorem rnd_le (m : Nat) (p : List Int) (hm : m ≤ p.length) (k : Nat) : p.getD k 0 ≤ (rnd n l t m p).getD k 0 := by
  induction m with
  | zero => exact Int.le_refl _
  | succ m ih =>
    unfold rnd
    exact Int.le_trans (ih (by omega)) (rowR_le m n _ (by rw [rnd_len]; omega) k)
theorem stp_at (j i : Nat) (p : List Int) (hj : j < p.length) (w : Int) (hw : dem l t i j = some w) : p.getD i 0 + w ≤ (stp l t j i p).getD j 0 := by
  unfold stp
  rw [hw]
  simp only
  split
  · rw [set_at _ _ _ _ hj, if_pos rfl]; omega
  · omega
theorem rowR_at (j m : Nat) (p : List Int) (hj : j < p.length) (i : Nat) (hi : i < m) (w : Int) (hw : dem l t i j = some w) : p.getD i 0 + w ≤ (rowR l t j m p).getD j 0 := by
  induction m with
  | zero => omega
  | succ m ih =>
    have hl : j < (rowR l t j m p).length := by rw [rowR_len]; exact hj
    unfold rowR
    by_cases h : i = m
    · subst h
      have h1 := stp_at j i (rowR l t j i p) hl w hw
      have h2 := rowR_le (l := l) (t := t) j i p hj i
      omega
    · exact Int.le_trans (ih (by omega)) (stp_le j m _ hl j)
theorem rnd_at (m : Nat) (p : List Int) (hm : m ≤ p.length) (i j : Nat) (hi : i < n) (hj : j < m) (w : Int) (hw : dem l t i j = some w) : p.getD i 0 + w ≤ (rnd n l t m p).getD j 0 := by
  induction m with
  | zero => omega
  | succ m ih =>
    have hl : m < (rnd n l t m p).length := by rw [rnd_len]; omega
    unfold rnd
    by_cases h : j = m
    · subst h
      have h1 := rowR_at j n (rnd n l t j p) hl i hi w hw
      have h2 := rnd_le (n := n) (l := l) (t := t) j p (by omega) i
      omega
    · exact Int.le_trans (ih (by omega) (by omega)) (rowR_le m n _ hl j)
theorem dem_fits {q : Nat → Nat} (h : Fits n l t q) {i j : Nat} (hi : i < n) (hj : j < n) {w : Int} (hw : dem l t i j = some w) : (q i : Int) + w ≤ q j := by
  obtain ⟨h1, h2⟩ := h i j hi hj
  unfold dem at hw
  split at hw
  · rename_i hb
    injection hw with hw
    have := h1 hb
    omega
  · split at hw
    · rename_i hf
      injection hw with hw
      have := h2 hf
      omega
    · cases hw
theorem stp_under {q : Nat → Nat} (h : Fits n l t q) (j i : Nat) (hi : i < n) (hj : j < n) (p : List Int) (hl : p.length = n) (hp : ∀ k, k < n → p.getD k 0 ≤ q k) : ∀ k, k < n → (stp l t j i p).getD k 0 ≤ q k := by
  intro k hk
  unfold stp
  cases hw : dem l t i j with
  | none => exact hp k hk
  | some w =>
    simp only
    split
    · rw [set_at _ _ _ _ (by omega)]
      split
      · rename_i e
        have h1 := dem_fits h hi hj hw
        have h2 := hp i hi
        rw [e]; omega
      · exact hp k hk
    · exact hp k hk
theorem rowR_under {q : Nat → Nat} (h : Fits n l t q) (j m : Nat) (hj : j < n) (hm : m ≤ n) (p : List Int) (hl : p.length = n) (hp : ∀ k, k < n → p.getD k 0 ≤ q k) : ∀ k, k < n → (rowR l t j m p).getD k 0 ≤ q k := by
  induction m with
  | zero => exact hp
  | succ m ih => exact stp_under h j m (by omega) hj _ (by rw [rowR_len, hl]) (ih (by omega))
theorem rnd_under {q : Nat → Nat} (h : Fits n l t q) (m : Nat) (hm : m ≤ n) (p : List Int) (hl : p.length = n) (hp : ∀ k, k < n → p.getD k 0 ≤ q k) : ∀ k, k < n → (rnd n l t m p).getD k 0 ≤ q k := by
  induction m with
  | zero => exact hp
  | succ m ih => exact rowR_under h m n (by omega) (Nat.le_refl _) _ (by rw [rnd_len, hl]) (ih (by omega))
theorem itr_under {q : Nat → Nat} (h : Fits n l t q) (r : Nat) : ∀ k, k < n → (itr n l t r).getD k 0 ≤ q k := by
  induction r with
  | zero => intro k hk; simp [itr, hk]
  | succ r ih => exact rnd_under h n (Nat.le_refl _) _ (itr_len r) ih
theorem itr_nonneg (r : Nat) : ∀ k, k < n → 0 ≤ (itr n l t r).getD k 0 := by
  induction r with
  | zero => intro k hk; simp [itr, hk]
  | succ r ih => intro k hk; exact Int.le_trans (ih k hk) (rnd_le n _ (by rw [itr_len]; omega) k)
theorem itr_le (r k : Nat) : (itr n l t r).getD k 0 ≤ (itr n l t (r + 1)).getD k 0 := rnd_le n _ (by rw [itr_len]; omega) k
theorem fix_fits {r : Nat} (h : itr n l t (r + 1) = itr n l t r) : Fits n l t fun i => ((itr n l t r).getD i 0).toNat := by
  intro i j hi hj
  have hp := itr_nonneg (n := n) (l := l) (t := t) r
  have h1 := hp i hi
  have h2 := hp j hj
  have key : ∀ w, dem l t i j = some w → (itr n l t r).getD i 0 + w ≤ (itr n l t r).getD j 0 := by
    intro w hw
    have := rnd_at (n := n) (l := l) (t := t) n (itr n l t r) (by rw [itr_len]; omega) i j hi hj w hw
    have e : rnd n l t n (itr n l t r) = itr n l t r := h
    rwa [e] at this
  refine ⟨fun hb => ?_, fun hf => ?_⟩
  · have := key t (by unfold dem; rw [if_pos hb])
    dsimp only
    omega
  · have hb : ¬ B l i j = true := by
      intro hb
      unfold free at hf
      rw [hb] at hf
      simp at hf
    have := key (1 - (t : Int)) (by unfold dem; rw [if_neg hb, if_pos hf])
    dsimp only
    omega
def total (n : Nat) (q : Nat → Nat) : Nat := ((List.range n).map q).sum
theorem total_succ (n : Nat) (q : Nat → Nat) : total (n + 1) q = total n q + q n := by simp [total, List.range_succ, List.sum_append]
theorem total_le {n : Nat} {q q' : Nat → Nat} (h : ∀ k, k < n → q k ≤ q' k) : total n q ≤ total n q' := by
  induction n with
  | zero => simp [total]
  | succ n ih =>
    rw [total_succ, total_succ]
    have := ih (fun k hk => h k (by omega))
    have := h n (by omega)
    omega
theorem total_lt {n : Nat} {q q' : Nat → Nat} (h : ∀ k, k < n → q k ≤ q' k) (x : Nat) (hx : x < n) (hl : q x < q' x) : total n q < total n q' := by
  induction n with
  | zero => omega
  | succ n ih =>
    rw [total_succ, total_succ]
    by_cases e : x = n
    · subst e
      have := total_le (n := x) (fun k hk => h k (by omega))
      omega
    · have := ih (fun k hk => h k (by omega)) (by omega)
      have := h n (by omega)
      omega
theorem least_fits (h : ∃ q, Fits n l t q) : ∃ q, Fits n l t q ∧ ∀ q', Fits n l t q' → total n q ≤ total n q' := by
  obtain ⟨q, hq⟩ := h
  have key : ∀ m q, Fits n l t q → total n q = m → ∃ q, Fits n l t q ∧ ∀ q', Fits n l t q' → total n q ≤ total n q' := by
    intro m
    induction m using Nat.strongRecOn with
    | _ m ih =>
      intro q hq hm
      by_cases hl : ∃ q', Fits n l t q' ∧ total n q' < total n q
      · obtain ⟨q', hq', hlt⟩ := hl
        exact ih (total n q') (by omega) q' hq' rfl
      · refine ⟨q, hq, fun q' hq' => ?_⟩
        by_cases hc : total n q ≤ total n q'
        · exact hc
        · exact absurd ⟨q', hq', by omega⟩ hl
  exact key _ q hq rfl
def done (n : Nat) (l : List Int) (t : Nat) (q : Nat → Nat) (r : Nat) : Nat := cnt n fun k => decide ((itr n l t r).getD k 0 = (q k : Int))
theorem done_grows {q : Nat → Nat} (h : Fits n l t q) (hmin : ∀ q', Fits n l t q' → total n q ≤ total n q') (r : Nat) (hx : ∃ k, k < n ∧ (itr n l t r).getD k 0 ≠ (q k : Int)) : done n l t q r < done n l t q (r + 1) := by
  have hu := itr_under h r
  have hu' := itr_under h (r + 1)
  obtain ⟨x, hx, hne⟩ := hx
  -- those that are not there yet cannot all be lowered
  let q' : Nat → Nat := fun k => if (itr n l t r).getD k 0 = (q k : Int) then q k else q k - 1
  have hpos : ∀ k, k < n → (itr n l t r).getD k 0 ≠ (q k : Int) → 0 < q k := by
    intro k hk hne
    have h1 := hu k hk
    have h2 := itr_nonneg (n := n) (l := l) (t := t) r k hk
    omega
  have hq' : ¬ Fits n l t q' := by
    intro hf
    have h1 := hmin q' hf
    have h2 : total n q' < total n q := by
      refine total_lt (fun k hk => ?_) x hx ?_
      · show (if _ then q k else q k - 1) ≤ q k
        split
        · exact Nat.le_refl _
        · exact Nat.sub_le _ _
      · show (if _ then q x else q x - 1) < q x
        rw [if_neg hne]
        have := hpos x hx hne
        omega
    omega
  have hex : ∃ i j w, i < n ∧ j < n ∧ dem l t i j = some w ∧ (q' j : Int) < (q' i : Int) + w := by
    apply Classical.byContradiction
    intro hno
    refine hq' fun i j hi hj => ⟨fun hb => ?_, fun hf => ?_⟩
    · apply Classical.byContradiction
      intro hc
      exact hno ⟨i, j, t, hi, hj, by unfold dem; rw [if_pos hb], by omega⟩
    · apply Classical.byContradiction
      intro hc
      have hb : ¬ B l i j = true := by
        intro hb
        unfold free at hf
        rw [hb] at hf
        simp at hf
      exact hno ⟨i, j, 1 - (t : Int), hi, hj, by unfold dem; rw [if_neg hb, if_pos hf], by omega⟩
  obtain ⟨i, j, w, hi, hj, hw, hlt⟩ := hex
  have hw' := dem_fits h hi hj hw
  have hji : (itr n l t r).getD j 0 ≠ (q j : Int) ∧ (itr n l t r).getD i 0 = (q i : Int) ∧ (q j : Int) = q i + w := by
    have ei : q' i = if (itr n l t r).getD i 0 = (q i : Int) then q i else q i - 1 := rfl
    have ej : q' j = if (itr n l t r).getD j 0 = (q j : Int) then q j else q j - 1 := rfl
    by_cases hcj : (itr n l t r).getD j 0 = (q j : Int)
    · rw [if_pos hcj] at ej
      have : q' i ≤ q i := by rw [ei]; split <;> omega
      exfalso; omega
    · have hp := hpos j hj hcj
      rw [if_neg hcj] at ej
      by_cases hci : (itr n l t r).getD i 0 = (q i : Int)
      · rw [if_pos hci] at ei
        exact ⟨hcj, hci, by omega⟩
      · have hp2 := hpos i hi hci
        rw [if_neg hci] at ei
        exfalso; omega
  obtain ⟨hjn, hie, hqj⟩ := hji
  have hjd : (itr n l t (r + 1)).getD j 0 = (q j : Int) := by
    have h1 := rnd_at (n := n) (l := l) (t := t) n (itr n l t r) (by rw [itr_len]; omega) i j hi hj w hw
    have h2 := hu' j hj
    have e : itr n l t (r + 1) = rnd n l t n (itr n l t r) := rfl
    rw [e] at h2 ⊢
    omega
  unfold done
  refine cnt_lt_on (fun k hk hd => ?_) j hj (by simpa using hjn) (by simpa using hjd)
  rw [decide_eq_true_iff] at *
  have h1 := itr_le (n := n) (l := l) (t := t) r k
  have h2 := hu' k hk
  omega
theorem rounds_end (h : ∃ q, Fits n l t q) : itr n l t (n + 1) = itr n l t n := by
  obtain ⟨q, hq, hmin⟩ := least_fits h
  have key : ∀ r, r ≤ n → (∀ k, k < n → (itr n l t r).getD k 0 = (q k : Int)) ∨ r ≤ done n l t q r := by
    intro r
    induction r with
    | zero => intro _; exact .inr (Nat.zero_le _)
    | succ r ih =>
      intro hr
      rcases ih (by omega) with ih | ih
      · refine .inl fun k hk => ?_
        have h1 := itr_le (n := n) (l := l) (t := t) r k
        have h2 := itr_under hq (r + 1) k hk
        have := ih k hk
        omega
      · by_cases hx : ∃ k, k < n ∧ (itr n l t r).getD k 0 ≠ (q k : Int)
        · have := done_grows hq hmin r hx
          exact .inr (by omega)
        · refine .inl fun k hk => ?_
          have h1 := itr_le (n := n) (l := l) (t := t) r k
          have h2 := itr_under hq (r + 1) k hk
          have h3 : (itr n l t r).getD k 0 = (q k : Int) := Classical.byContradiction fun hc => hx ⟨k, hk, hc⟩
          omega
  have all : ∀ k, k < n → (itr n l t n).getD k 0 = (q k : Int) := by
    rcases key n (Nat.le_refl _) with h | h
    · exact h
    · intro k hk
      apply Classical.byContradiction
      intro hc
      have h1 : done n l t q n < cnt n fun _ => true := cnt_lt_on (fun _ _ _ => rfl) k hk (by simpa using hc) rfl
      have := cnt_le n fun _ => true
      omega
  apply list_ext_getD
  · rw [itr_len, itr_len]
  · intro k hk
    rw [itr_len] at hk
    have h1 := itr_le (n := n) (l := l) (t := t) n k
    have h2 := itr_under hq (n + 1) k hk
    have := all k hk
    omega
theorem dem_le {i j : Nat} {w : Int} (ht : 0 < t) (h : dem l t i j = some w) : w ≤ t := by
  unfold dem at h
  split at h
  · injection h with h; omega
  · split at h
    · injection h with h; omega
    · cases h
theorem dem_self (o : Ord n l) (j : Nat) : dem l t j j = none := by
  unfold dem free
  rw [o.irr j]
  simp
theorem rowR_other (j m : Nat) (p : List Int) (k : Nat) (hk : k ≠ j) : (rowR l t j m p).getD k 0 = p.getD k 0 := by
  induction m with
  | zero => rfl
  | succ m ih =>
    unfold rowR stp
    split
    · split
      · rw [List.getD_eq_getElem?_getD, List.getElem?_set, if_neg (Ne.symm hk), ← List.getD_eq_getElem?_getD, ih]
      · exact ih
    · exact ih
theorem rowR_bound (o : Ord n l) (ht : 0 < t) (j m : Nat) (p : List Int) (hj : j < p.length) (M : Int) (hp : ∀ k, p.getD k 0 ≤ M) : ∀ k, (rowR l t j m p).getD k 0 ≤ M + t := by
  induction m with
  | zero => intro k; have := hp k; show p.getD k 0 ≤ M + t; omega
  | succ m ih =>
    intro k
    by_cases hk : k = j
    · subst hk
      have e : rowR l t k (m + 1) p = stp l t k m (rowR l t k m p) := rfl
      rw [e]
      unfold stp
      cases hw : dem l t m k with
      | none => exact ih k
      | some w =>
        simp only
        split
        · rw [set_at _ _ _ _ (by rw [rowR_len]; exact hj), if_pos rfl]
          by_cases hmk : m = k
          · subst hmk; rw [dem_self o] at hw; cases hw
          · rw [rowR_other k m p m hmk]
            have := hp m
            have := dem_le ht hw
            omega
        · exact ih k
    · rw [rowR_other j _ p k hk]
      have := hp k
      omega
theorem rnd_bound (o : Ord n l) (ht : 0 < t) (m : Nat) (p : List Int) (hm : m ≤ p.length) (M : Int) (hp : ∀ k, p.getD k 0 ≤ M) : ∀ k, (rnd n l t m p).getD k 0 ≤ M + m * t := by
  induction m with
  | zero =>
    intro k
    have := hp k
    have e : ((0 : Nat) : Int) * (t : Int) = 0 := by simp
    show p.getD k 0 ≤ M + ((0 : Nat) : Int) * t
    rw [e]
    omega
  | succ m ih =>
    intro k
    have := rowR_bound o ht m n (rnd n l t m p) (by rw [rnd_len]; omega) (M + m * t) (ih (by omega)) k
    have e : rnd n l t (m + 1) p = rowR l t m n (rnd n l t m p) := rfl
    rw [e]
    have e2 : ((m + 1 : Nat) : Int) * t = m * t + t := by rw [Int.natCast_add, Int.add_mul]; simp
    rw [e2]
    omega
theorem itr_bound (o : Ord n l) (ht : 0 < t) (r : Nat) : ∀ k, (itr n l t r).getD k 0 ≤ ((r * (n * t) : Nat) : Int) := by
  induction r with
  | zero =>
    intro k
    by_cases hk : k < n
    · simp [itr, hk]
    · simp [itr, hk]
  | succ r ih =>
    intro k
    have := rnd_bound o ht n (itr n l t r) (by rw [itr_len]; omega) _ ih k
    have e : itr n l t (r + 1) = rnd n l t n (itr n l t r) := rfl
    rw [e]
    have e2 : ((r + 1) * (n * t) : Nat) = r * (n * t) + n * t := by rw [Nat.succ_mul]
    rw [e2]
    push_cast at this ⊢
    omega
end
end Go.Proofs.YtfjpilcmjabikaaDoor.M
namespace Go.Proofs.YtfjpilcmjabikaaDoor.P
open Go.RowKit Go.Proofs.YtfjpilcmjabikaaDoorW.PrintWords Go.Proofs.YtfjpilcmjabikaaDoorW.PrintLast Go.Proofs.YtfjpilcmjabikaaDoorW.PrintMore
open Bool renaming true → T, false → F
open List renaming setIfInBounds_toArray → L_, set_cons_zero → M_, set_cons_succ → N_, map_toArray → P_, map_cons → Q_, map_nil → R_, length_drop → S_, length_take → U_
open Aside0 renaming mk → A_
attribute [local go_sem] max2_int min2_int max_two min_two max_three min_three max_four min_four
set_option linter.unusedVariables false
set_option linter.unusedSimpArgs false
attribute [local go_sem] fldOrder_0 fldOrder_1
def Ab5.l0 : Nat → List Int → List Int → Int → Int → Option (Bool)
 | 0,_,_,_,_=>none
 | k + 1,x0,x1,x12,x13=>if x13 < x12 then (if 0 ≤ x13 then (if x13 < (x0.length : Int) then (if x13 < (x1.length : Int) then (if (rd x0 x13) = (rd x1 x13) then (Ab5.l0 k x0 x1 x12 (wrap64 (x13 + 1))) else (some false)) else (none)) else (none)) else (none)) else (some true)
end Go.Proofs.YtfjpilcmjabikaaDoor.P
namespace Go.Proofs.YtfjpilcmjabikaaDoor.M
open Go.RowKit Go.Proofs.YtfjpilcmjabikaaDoorW.PrintMore Go.Proofs.YtfjpilcmjabikaaDoorW.PrintLast Go.Proofs.YtfjpilcmjabikaaDoorW.PrintWords Go.Proofs.YtfjpilcmjabikaaDoor.P
theorem orGood_ev (n : Int) (l : List Int) (hl : l.length ≤ 140737488355328) : Ev (fun k => Aas.f k n l) (isOrd n l) := by
  unfold Aas.f isOrd
  refine Ev.bind (orRelation_ev n l hl) ?_
  cases hr : isRel n l with
  | false => simp only [Bool.false_eq_true, if_false, Bool.false_and]; exact Ev.now _
  | true =>
    obtain ⟨m, rfl, h⟩ := isRel_iff.1 hr
    have hlen := h.len
    have h10 := h.le
    simp only [if_true, Bool.true_and]
    refine Ev.all (fun i k => Aas.l0 k l (l.length : Int) (i : Int) (m : Int) l) l.length _ ?_ ?_ ?_
    · intro i r hi hp hrest
      rw [Bool.and_eq_true] at hp
      have hB : B l i i = false := by simpa using hp.1
      refine Ev.step (fun _ => rfl) ?_
      simp only [Aas.l0, if_pos (show (i : Int) < (l.length : Int) by omega), if_pos (show (0 : Int) ≤ (i : Int) by omega), h.rd, orHas_eq (row l i) i (by omega), show (row l i).testBit i = B l i i from rfl, Option.bind_some, hB, Bool.false_eq_true, if_false]
      refine Ev.bind (orList_ev m (by omega) (row l i) (h.row_lt i)) ?_
      have hE := elems_length_le m (row l i)
      rw [ints_length]
      refine Ev.up (fun q k => Aas.l1 k ((row l i : Nat) : Int) l (l.length : Int) (i : Int) (ints (elems m (row l i))) ((elems m (row l i)).length : Int) (q : Int) (m : Int) l) (elems m (row l i)).length ?_ ?_
      · intro q hq hn
        refine Ev.step (fun _ => rfl) ?_
        have hmem : (elems m (row l i)).getD q 0 ∈ elems m (row l i) := by simp [hq]
        have hlt := (mem_elems.1 hmem).1
        have e0 : rd (ints (elems m (row l i))) (q : Int) = (((elems m (row l i)).getD q 0 : Nat) : Int) := by rw [rd_nat, ints_getD _ _ hq]
        have hd : diff (row l ((elems m (row l i)).getD q 0)) (row l i) = 0 := by
          have hc := hp.2
          unfold closedAt at hc
          rw [allB_iff, hlen] at hc
          exact beq_iff_eq.1 (hc q hq)
        simp only [Aas.l1, if_pos (show (q : Int) < ((elems m (row l i)).length : Int) by omega), if_pos (show (0 : Int) ≤ (q : Int) by omega), ints_length, e0, if_pos (show (0 : Int) ≤ (((elems m (row l i)).getD q 0 : Nat) : Int) by omega), if_pos (show (((elems m (row l i)).getD q 0 : Nat) : Int) < (l.length : Int) by omega), h.rd, andNot_i64 _ _ (h.row_62 _) (h.row_62 _), hd, Int.natCast_zero, if_true, next64 q _ hq (by omega)]
        exact hn
      · refine Ev.step (fun _ => rfl) ?_
        simp only [Aas.l1, if_neg (show ¬ ((elems m (row l i)).length : Int) < ((elems m (row l i)).length : Int) by omega), next64 i l.length hi (by omega)]
        exact hrest
    · intro i hi hp
      refine Ev.step (fun _ => rfl) ?_
      simp only [Aas.l0, if_pos (show (i : Int) < (l.length : Int) by omega), if_pos (show (0 : Int) ≤ (i : Int) by omega), h.rd, orHas_eq (row l i) i (by omega), show (row l i).testBit i = B l i i from rfl, Option.bind_some]
      cases hB : B l i i with
      | true => simp only [if_true]; exact Ev.now _
      | false =>
        rw [hB] at hp
        have hc : closedAt l.length l i = false := by simpa using hp
        unfold closedAt at hc
        rw [hlen] at hc
        obtain ⟨j, hj, hbad, hless⟩ := least_false (allB_false.1 hc)
        simp only [Bool.false_eq_true, if_false]
        refine Ev.bind (orList_ev m (by omega) (row l i) (h.row_lt i)) ?_
        have hE := elems_length_le m (row l i)
        rw [ints_length]
        refine Ev.up (fun q k => Aas.l1 k ((row l i : Nat) : Int) l (l.length : Int) (i : Int) (ints (elems m (row l i))) ((elems m (row l i)).length : Int) (q : Int) (m : Int) l) j ?_ ?_
        · intro q hq hn
          refine Ev.step (fun _ => rfl) ?_
          have hmem : (elems m (row l i)).getD q 0 ∈ elems m (row l i) := by simp [show q < (elems m (row l i)).length by omega]
          have hlt := (mem_elems.1 hmem).1
          have e0 : rd (ints (elems m (row l i))) (q : Int) = (((elems m (row l i)).getD q 0 : Nat) : Int) := by rw [rd_nat, ints_getD _ _ (by omega)]
          have hd : diff (row l ((elems m (row l i)).getD q 0)) (row l i) = 0 := beq_iff_eq.1 (hless q hq)
          simp only [Aas.l1, if_pos (show (q : Int) < ((elems m (row l i)).length : Int) by omega), if_pos (show (0 : Int) ≤ (q : Int) by omega), ints_length, e0, if_pos (show (0 : Int) ≤ (((elems m (row l i)).getD q 0 : Nat) : Int) by omega), if_pos (show (((elems m (row l i)).getD q 0 : Nat) : Int) < (l.length : Int) by omega), h.rd, andNot_i64 _ _ (h.row_62 _) (h.row_62 _), hd, Int.natCast_zero, if_true, next64 q _ (show q < (elems m (row l i)).length by omega) (by omega)]
          exact hn
        · refine Ev.step (fun _ => rfl) ?_
          have hmem : (elems m (row l i)).getD j 0 ∈ elems m (row l i) := by simp [hj]
          have hlt := (mem_elems.1 hmem).1
          have e0 : rd (ints (elems m (row l i))) (j : Int) = (((elems m (row l i)).getD j 0 : Nat) : Int) := by rw [rd_nat, ints_getD _ _ (by omega)]
          have hd : ¬ ((diff (row l ((elems m (row l i)).getD j 0)) (row l i) : Nat) : Int) = 0 := by
            have := beq_eq_false_iff_ne.1 hbad
            omega
          simp only [Aas.l1, if_pos (show (j : Int) < ((elems m (row l i)).length : Int) by omega), if_pos (show (0 : Int) ≤ (j : Int) by omega), ints_length, e0, if_pos (show (0 : Int) ≤ (((elems m (row l i)).getD j 0 : Nat) : Int) by omega), if_pos (show (((elems m (row l i)).getD j 0 : Nat) : Int) < (l.length : Int) by omega), h.rd, andNot_i64 _ _ (h.row_62 _) (h.row_62 _), if_neg hd]
          exact Ev.now _
    · refine Ev.step (fun _ => rfl) ?_
      simp only [Aas.l0, if_neg (show ¬ (l.length : Int) < (l.length : Int) by omega)]
      exact Ev.now _
theorem setOf_bit_or (q : Nat → Bool) (j : Nat) : setOf (j + 1) q = if q j then setOf j q ||| 2 ^ j else setOf j q := by
  show setOf j q ||| (if q j then 2 ^ j else 0) = _
  cases q j <;> simp
def part (n : Nat) (p : Nat → Nat → Bool) (i j : Nat) : List Int := (List.range n).map fun a => ((setOf (if a < i then n else if a = i then j else 0) (p a) : Nat) : Int)
theorem part_length (n : Nat) (p : Nat → Nat → Bool) (i j : Nat) : (part n p i j).length = n := by simp [part]
theorem part_getD (n : Nat) (p : Nat → Nat → Bool) (i j a : Nat) (h : a < n) : (part n p i j).getD a 0 = ((setOf (if a < i then n else if a = i then j else 0) (p a) : Nat) : Int) := by simp [part, h]
theorem part_next (n : Nat) (p : Nat → Nat → Bool) (i : Nat) : part n p i n = part n p (i + 1) 0 := by
  unfold part
  apply List.map_congr_left
  intro a _
  by_cases h1 : a < i
  · rw [if_pos h1, if_pos (by omega)]
  · rw [if_neg h1]
    by_cases h2 : a = i
    · rw [if_pos h2, if_pos (by omega)]
    · rw [if_neg h2, if_neg (by omega)]
      by_cases h3 : a = i + 1
      · rw [if_pos h3]
      · rw [if_neg h3]
theorem part_no (n : Nat) (p : Nat → Nat → Bool) (i j : Nat) (hi : i < n) (h : p i j = false) : part n p i j = part n p i (j + 1) := by
  unfold part
  apply List.map_congr_left
  intro a _
  by_cases h2 : a = i
  · subst h2
    rw [if_neg (Nat.lt_irrefl _), if_pos rfl, if_neg (Nat.lt_irrefl _), if_pos rfl, setOf_bit_or, h]
    rfl
  · rw [if_neg h2, if_neg h2]
theorem part_yes (n : Nat) (p : Nat → Nat → Bool) (i j : Nat) (hi : i < n) (h : p i j = true) : (part n p i j).set i ((setOf j (p i) ||| 2 ^ j : Nat) : Int) = part n p i (j + 1) := by
  apply list_ext_getD (by simp [part_length])
  intro a ha
  have ha : a < n := by simpa [part_length] using ha
  rw [part_getD n p i (j + 1) a ha]
  by_cases h2 : a = i
  · subst h2
    rw [if_neg (Nat.lt_irrefl _), if_pos rfl, setOf_bit_or, h]
    rw [List.getD_eq_getElem?_getD, List.getElem?_set_self (by rw [part_length]; exact hi)]
    rfl
  · have e : ((part n p i j).set i ((setOf j (p i) ||| 2 ^ j : Nat) : Int)).getD a 0 = (part n p i j).getD a 0 := by
      simp [List.getD, Ne.symm h2]
    rw [e, part_getD n p i j a ha, if_neg h2, if_neg h2]
theorem part_zero (n : Nat) (p : Nat → Nat → Bool) : part n p 0 0 = List.replicate n 0 := by
  apply list_ext_getD (by simp [part_length])
  intro a ha
  have ha : a < n := by simpa [part_length] using ha
  rw [part_getD n p 0 0 a ha, if_neg (Nat.not_lt_zero _)]
  have : (if a = 0 then 0 else 0) = 0 := by split <;> rfl
  rw [this]
  simp [setOf, ha]
theorem part_all (n : Nat) (p : Nat → Nat → Bool) : part n p n 0 = relL n p := by
  unfold part relL
  apply List.map_congr_left
  intro a ha
  rw [List.mem_range] at ha
  rw [if_pos ha]
theorem relation_ev (n : Nat) (hn : n ≤ 62) (g : Nat → Int → Int → Option Bool) (p : Nat → Nat → Bool) (hg : ∀ i j, i < n → j < n → Ev (fun k => g k (i : Int) (j : Int)) (p i j)) :
    Ev (fun k => Aak.f k (n : Int) (g k)) ((n : Int), relL n p) := by
  -- the tests all come to their answers from one number of rounds on
  obtain ⟨K, hK⟩ : ∃ K, ∀ k, K ≤ k → ∀ i j, i < n → j < n → g k (i : Int) (j : Int) = some (p i j) := by
    have one : ∀ m, ∃ K, ∀ k, K ≤ k → ∀ i j, i < n → j < n → i * n + j < m → g k (i : Int) (j : Int) = some (p i j) := by
      intro m
      induction m with
      | zero => exact ⟨0, fun k _ i j _ _ h => absurd h (Nat.not_lt_zero _)⟩
      | succ m ih =>
        obtain ⟨K, hK⟩ := ih
        by_cases hx : ∃ i j, i < n ∧ j < n ∧ i * n + j = m
        · obtain ⟨i, j, hi, hj, hm⟩ := hx
          obtain ⟨K', hK'⟩ := hg i j hi hj
          refine ⟨max K K', fun k hk i' j' hi' hj' h => ?_⟩
          by_cases he : i' * n + j' = m
          · have e1 : i' = i := by
              have a1 : (i' * n + j') / n = i' := by rw [Nat.mul_comm, Nat.mul_add_div (by omega), Nat.div_eq_of_lt hj', Nat.add_zero]
              have a2 : (i * n + j) / n = i := by rw [Nat.mul_comm, Nat.mul_add_div (by omega), Nat.div_eq_of_lt hj, Nat.add_zero]
              rw [← a1, ← a2, he, hm]
            subst e1
            have e2 : j' = j := by omega
            subst e2
            exact hK' k (by omega)
          · exact hK k (by omega) i' j' hi' hj' (by omega)
        · exact ⟨K, fun k hk i j hi hj h => hK k hk i j hi hj (by
            rcases Nat.lt_or_ge (i * n + j) m with h1 | h1
            · exact h1
            · exact absurd ⟨i, j, hi, hj, by omega⟩ hx)⟩
    obtain ⟨K, h⟩ := one (n * n + n)
    refine ⟨K, fun k hk i j hi hj => h k hk i j hi hj ?_⟩
    have : i * n ≤ n * n := Nat.mul_le_mul_right n (by omega)
    omega
  -- with the tests as' at one number
  have main : ∀ is : Int → Int → Option Bool, (∀ i j, i < n → j < n → is (i : Int) (j : Int) = some (p i j)) → Ev (fun k => Aak.f k (n : Int) is) ((n : Int), relL n p) := by
    intro is his
    unfold Aak.f
    simp only [if_pos (show (0 : Int) ≤ (n : Int) by omega), Int.toNat_natCast, if_pos (show n ≤ 35184372088832 by omega)]
    rw [← part_zero n p]
    refine Ev.up (fun i k => Aak.l0 is k (n : Int) (n : Int) (i : Int) (n : Int) (part n p i 0)) n ?_ ?_
    · intro i hi h
      refine Ev.step (fun _ => rfl) ?_
      simp only [Aak.l0, if_pos (show (i : Int) < (n : Int) by omega)]
      refine Ev.up (fun j k => Aak.l1 is k (n : Int) (i : Int) (n : Int) (i : Int) (n : Int) (j : Int) (n : Int) (part n p i j)) n ?_ ?_
      · intro j hj h
        refine Ev.step (fun _ => rfl) ?_
        simp only [Aak.l1, if_pos (show (j : Int) < (n : Int) by omega), his i j hi hj, Option.bind_some, next64 j n hj (by omega)]
        cases hp : p i j with
        | false =>
          simp only [Bool.false_eq_true, if_false]
          rw [part_no n p i j hi hp]
          exact h
        | true =>
          have hs : setOf j (p i) < 9223372036854775808 := setOf_62 _ _ (by omega)
          have h2 : (2 : Nat) ^ j < 9223372036854775808 := Nat.lt_of_le_of_lt (Nat.pow_le_pow_right (by decide) (by omega : j ≤ 62)) (by decide)
          have e1 : rd (part n p i j) (i : Int) = ((setOf j (p i) : Nat) : Int) := by
            rw [rd_nat, part_getD n p i j i hi, if_neg (Nat.lt_irrefl _), if_pos rfl]
          simp only [if_true, if_pos (show (0 : Int) ≤ (i : Int) by omega), part_length, if_pos (show (i : Int) < (n : Int) by omega), if_pos (show (0 : Int) ≤ (j : Int) by omega), e1, shl1 j (by omega), or_i64 _ _ hs h2, Int.toNat_natCast]
          rw [part_yes n p i j hi hp]
          exact h
      · refine Ev.step (fun _ => rfl) ?_
        simp only [Aak.l1, if_neg (show ¬ (n : Int) < (n : Int) by omega), next64 i n hi (by omega)]
        rw [part_next]
        exact h
    · refine Ev.step (fun _ => rfl) ?_
      simp only [Aak.l0, if_neg (show ¬ (n : Int) < (n : Int) by omega)]
      rw [part_all]
      exact Ev.now _
  -- the least test that answers so
  have h0 := main (fun x y => if 0 ≤ x ∧ x < n ∧ 0 ≤ y ∧ y < n then some (p x.toNat y.toNat) else none) (fun i j hi hj => by
    show (if _ then _ else _) = _
    rw [if_pos ⟨by omega, by omega, by omega, by omega⟩, Int.toNat_natCast, Int.toNat_natCast])
  obtain ⟨K', hK'⟩ := h0
  refine ⟨max K K' + 1, fun k hk => ?_⟩
  obtain ⟨d, rfl⟩ : ∃ d, k = d + 1 := ⟨k - 1, by omega⟩
  refine Aak.mono2 (is := fun x y => if 0 ≤ x ∧ x < n ∧ 0 ≤ y ∧ y < n then some (p x.toNat y.toNat) else none) (is' := g (d + 1)) (fun x y r hr => ?_) (n : Int) d _ (hK' d (by omega))
  by_cases hxy : 0 ≤ x ∧ x < n ∧ 0 ≤ y ∧ y < n
  · rw [if_pos hxy] at hr
    obtain ⟨i, rfl⟩ := Int.eq_ofNat_of_zero_le hxy.1
    obtain ⟨j, rfl⟩ := Int.eq_ofNat_of_zero_le hxy.2.2.1
    rw [Int.toNat_natCast, Int.toNat_natCast] at hr
    rw [hK (d + 1) (by omega) i j (by omega) (by omega)]
    exact hr
  · rw [if_neg hxy] at hr
    cases hr
end Go.Proofs.YtfjpilcmjabikaaDoor.M
namespace Go.Proofs.YtfjpilcmjabikaaDoor.M
open Go.RowKit Go.Proofs.YtfjpilcmjabikaaDoorW.PrintMore Go.Proofs.YtfjpilcmjabikaaDoorW.PrintLast Go.Proofs.YtfjpilcmjabikaaDoorW.PrintWords Go.Proofs.YtfjpilcmjabikaaDoor.P
def Tot {α : Type} (g : Nat → Option α) (Q : α → Prop) : Prop := ∃ r, Ev g r ∧ Q r
section
variable {α β : Type} {Q : α → Prop} {R : β → Prop}
theorem Tot.now {r : α} (h : Q r) : Tot (fun _ => some r) Q := ⟨r, Ev.now r, h⟩
theorem Tot.step {g f : Nat → Option α} (h : ∀ k, g (k + 1) = f k) (k : Tot f Q) : Tot g Q := by obtain ⟨r, k, hq⟩ := k; exact ⟨r, Ev.step h k, hq⟩
theorem Tot.bind {g : Nat → Option α} {f : Nat → α → Option β} (h : Tot g Q) (k : ∀ a, Q a → Tot (fun n => f n a) R) : Tot (fun n => (g n).bind (f n)) R := by
  obtain ⟨a, h, hq⟩ := h
  obtain ⟨r, k, hr⟩ := k a hq
  exact ⟨r, Ev.bind h k, hr⟩
theorem Tot.ebind {g : Nat → Option α} {f : Nat → α → Option β} {a : α} (h : Ev g a) (k : Tot (fun n => f n a) R) : Tot (fun n => (g n).bind (f n)) R := by
  obtain ⟨r, k, hr⟩ := k
  exact ⟨r, Ev.bind h k, hr⟩
theorem Tot.obind {x : Option α} {f : Nat → α → Option β} (h : ∃ r, x = some r ∧ Q r) (k : ∀ a, Q a → Tot (fun n => f n a) R) : Tot (fun n => x.bind (f n)) R := by
  obtain ⟨a, rfl, hq⟩ := h
  exact k a hq
theorem Tot.ite {c : Prop} [Decidable c] {f g : Nat → Option α} (h1 : c → Tot f Q) (h2 : ¬ c → Tot g Q) : Tot (fun k => if c then f k else g k) Q := by
  by_cases h : c
  · simp only [if_pos h]; exact h1 h
  · simp only [if_neg h]; exact h2 h
theorem Tot.up {S : Type} (G : Nat → S → Nat → Option α) (n : Nat) (Inv : Nat → S → Prop)
    (step : ∀ i s, i < n → Inv i s → (∀ s', Inv (i + 1) s' → Tot (G (i + 1) s') Q) → Tot (G i s) Q) (stop : ∀ s, Inv n s → Tot (G n s) Q) (i : Nat) (hi : i ≤ n) (s : S) (hs : Inv i s) : Tot (G i s) Q := by
  obtain ⟨d, rfl⟩ : ∃ d, n = i + d := ⟨n - i, by omega⟩
  clear hi
  induction d generalizing i s with
  | zero => exact stop s hs
  | succ d ih =>
    refine step i s (by omega) hs fun s' h' => ?_
    exact ih (i + 1) s' h' (fun a b ha => step a b (by omega)) (by rw [show i + 1 + d = i + (d + 1) by omega]; exact stop)
end
def By (l : List Int) : Prop := ∀ x ∈ l, 0 ≤ x ∧ x ≤ 255
theorem by_wf {l : List Int} (h : ∀ x ∈ l, (Lit.int .u8 x).wf = true) : By l := by
  intro x hx
  have := h x hx
  simp [Lit.wf, IntKind.min, IntKind.max, IntKind.signed, IntKind.bits] at this
  omega
theorem By.rd {l : List Int} (h : By l) (i : Nat) : 0 ≤ rd l (i : Int) ∧ rd l (i : Int) ≤ 255 := by
  rw [rd_nat]
  by_cases hi : i < l.length
  · have := h l[i] (List.getElem_mem hi)
    simpa [hi] using this
  · simp [Nat.not_lt.1 hi]
theorem and_255 (x : Int) : 0 ≤ Go.bits .and .u64 x 255 ∧ Go.bits .and .u64 x 255 ≤ 255 := by
  have e : Go.bits .and .u64 x 255 = IntKind.u64.wrap (((BitVec.ofInt 64 x).toNat &&& 255 : Nat) : Int) := by
    show IntKind.u64.wrap ((BitVec.ofInt 64 x &&& BitVec.ofInt 64 255).toNat : Int) = _
    rw [BitVec.toNat_and]; rfl
  have h : (BitVec.ofInt 64 x).toNat &&& 255 ≤ 255 := Nat.and_le_right
  rw [e, u64_small _ (by omega)]
  omega
theorem wrap64_in (x : Int) (h0 : -9223372036854775808 ≤ x) (h1 : x ≤ 9223372036854775807) : wrap64 x = x := by unfold wrap64; omega
theorem next_ok {l : List Int} (hb : By l) (p h : Int) (hp : 0 ≤ p) (hp2 : p ≤ 1000000) : ∃ r, Abi.f l p h = some r ∧ 0 ≤ r.1 ∧ r.1 ≤ 255 ∧ r.2.1 = p + 1 := by
  unfold Abi.f
  obtain ⟨i, rfl⟩ := Int.eq_ofNat_of_zero_le hp
  have h1 := hb.rd i
  rw [wrap64_in ((i : Int) + 1) (by omega) (by omega)]
  have ha := fun x => and_255 x
  by_cases h0 : (i : Int) < (l.length : Int)
  · rw [if_pos h0, if_pos hp, if_pos (show (i : Int) + 1 ≤ (l.length : Int) by omega)]
    exact ⟨_, rfl, by rw [wrap64_in _ (by omega) (by omega)]; omega, by rw [wrap64_in _ (by omega) (by omega)]; omega, rfl⟩
  · rw [if_neg h0, if_neg (show ¬ (i : Int) + 1 ≤ (l.length : Int) by omega)]
    refine ⟨_, rfl, ?_, ?_, rfl⟩
    · have := ha ((IntKind.u64.wrap (IntKind.u64.wrap (IntKind.u64.wrap (h * 6364136223846793005)) + 1442695040888963407)) / 1099511627776)
      rw [wrap64_in _ (by omega) (by omega)]; exact this.1
    · have := ha ((IntKind.u64.wrap (IntKind.u64.wrap (IntKind.u64.wrap (h * 6364136223846793005)) + 1442695040888963407)) / 1099511627776)
      rw [wrap64_in _ (by omega) (by omega)]; exact this.2
theorem pick_ok {l : List Int} (hb : By l) (p h a : Int) (hp : 0 ≤ p) (hp2 : p ≤ 999990) : ∃ r, Aam.f l p h a = some r ∧ 0 ≤ r.1 ∧ (r.1 = 0 ∨ r.1 < a) ∧ p ≤ r.2.1 ∧ r.2.1 ≤ p + 2 := by
  unfold Aam.f
  by_cases h1 : a ≤ 1
  · rw [if_pos h1]; exact ⟨_, rfl, by simp, by simp, by simp, by simp; omega⟩
  · rw [if_neg h1]
    obtain ⟨⟨v, p1, h'⟩, e, a1, a2, a3⟩ := next_ok hb p h hp (by omega)
    simp only at a1 a2 a3
    subst a3
    rw [e, Option.bind_some]
    by_cases h2 : a > 200
    · rw [if_pos h2]
      obtain ⟨⟨v2, p2, h''⟩, e2, b1, b2, b3⟩ := next_ok hb (p + 1) h' (by omega) (by omega)
      simp only at b1 b2 b3
      subst b3
      rw [e2, Option.bind_some, if_neg (by omega)]
      refine ⟨_, rfl, ?_, ?_, by simp; omega, by simp; omega⟩
      all_goals
        simp only
        rw [wrap64_in (v * 256) (by omega) (by omega), wrap64_in (v * 256 + v2) (by omega) (by omega), Int.tmod_eq_emod_of_nonneg (by omega)]
      · exact Int.emod_nonneg _ (by omega)
      · exact .inr (Int.emod_lt_of_pos _ (by omega))
    · rw [if_neg h2, if_neg (by omega)]
      refine ⟨_, rfl, ?_, ?_, by simp only; omega, by simp only; omega⟩
      all_goals
        simp only
        rw [Int.tmod_eq_emod_of_nonneg (by omega)]
      · exact Int.emod_nonneg _ (by omega)
      · exact .inr (Int.emod_lt_of_pos _ (by omega))
theorem one_ok {l : List Int} (hb : By l) (p h a : Int) (hp : 0 ≤ p) (hp2 : p ≤ 999990) : ∃ r, Abc.f l p h a = some r ∧ p ≤ r.2.1 ∧ r.2.1 ≤ p + 2 := by
  obtain ⟨r, e, h1⟩ := pick_ok hb p h a hp hp2
  unfold Abc.f
  rw [e]
  exact ⟨_, rfl, h1.2.2.1, h1.2.2.2⟩
theorem among_ok {l : List Int} (hb : By l) (p h : Int) (z : List Int) (hz : z ≠ []) (hp : 0 ≤ p) (hp2 : p ≤ 999990) : ∃ r, Aa4.f l p h z = some r ∧ r.1 ∈ z ∧ p ≤ r.2.1 ∧ r.2.1 ≤ p + 2 := by
  obtain ⟨r, e, h1, h2, h3⟩ := pick_ok hb p h (z.length : Int) hp hp2
  have hz' := List.length_pos_iff.2 hz
  unfold Aa4.f
  rw [e, Option.bind_some, if_pos h1, if_pos (by omega)]
  refine ⟨_, rfl, ?_, h3⟩
  obtain ⟨i, hi⟩ := Int.eq_ofNat_of_zero_le h1
  simp only [hi]
  rw [rd_get z i (by omega)]
  exact List.getElem_mem _
theorem orHas_ok (s j : Int) (hj : 0 ≤ j) : ∃ r, Aa8.f s j = some r ∧ True := by unfold Aa8.f; rw [if_pos hj]; exact ⟨_, rfl, trivial⟩
theorem l1Own_eq (l : List Int) (h : l.length < 17592186044416) : Abz.f l = some l := by
  unfold Abz.f
  simp [h]
theorem close_tot (n : Int) (l : List Int) (hl : l.length ≤ 140737488355328) : Tot (fun k => Aag.f k n l) (fun r => 0 ≤ r.1 ∧ (r.1 = 0 ∨ r.1 = n) ∧ r.1 ≤ 10 ∧ (r.2.1.length : Int) = r.1 ∧ r.2.2 = isRel n l) := by
  unfold Aag.f
  refine Tot.ebind (orRelation_ev n l hl) ?_
  cases hr : isRel n l with
  | false => simp only [Bool.false_eq_true, if_false]; exact Tot.now (by simp)
  | true =>
    obtain ⟨m, rfl, h⟩ := isRel_iff.1 hr
    have hlen := h.len
    have h10 := h.le
    simp only [if_true, l1Own_eq l (by omega), Option.bind_some, hlen]
    refine Tot.up (fun i s k => Aag.l0 k (m : Int) (i : Int) (m : Int) s) m (fun _ s => s.length = m) ?_ ?_ 0 (Nat.zero_le _) l hlen
    · intro i s hi hs next
      refine Tot.step (fun _ => rfl) ?_
      simp only [Aag.l0, if_pos (show (i : Int) < (m : Int) by omega), hs]
      refine Tot.up (fun j s k => Aag.l1 k (i : Int) (m : Int) (i : Int) (m : Int) (j : Int) (m : Int) s) m (fun _ s => s.length = m) ?_ ?_ 0 (Nat.zero_le _) s hs
      · intro j s hj hs next
        refine Tot.step (fun _ => rfl) ?_
        simp only [Aag.l1, hs, if_pos (show (j : Int) < (m : Int) by omega), if_pos (show (i : Int) < (m : Int) by omega), if_pos (show (0 : Int) ≤ (i : Int) by omega), if_pos (show (0 : Int) ≤ (j : Int) by omega), next64 j m hj (by omega)]
        refine Tot.obind (orHas_ok _ _ (by omega)) fun b _ => ?_
        refine Tot.ite (fun _ => ?_) (fun _ => ?_)
        · exact next _ (by simpa using hs)
        · exact next _ hs
      · intro s hs
        refine Tot.step (fun _ => rfl) ?_
        simp only [Aag.l1, if_neg (show ¬ (m : Int) < (m : Int) by omega), next64 i m hi (by omega)]
        exact next _ hs
    · intro s hs
      refine Tot.step (fun _ => rfl) ?_
      simp only [Aag.l0, if_neg (show ¬ (m : Int) < (m : Int) by omega)]
      exact Tot.now (by simp [hs]; omega)
theorem order_tot {l : List Int} (hb : By l) (p h a : Int) (hp : 0 ≤ p) (hp2 : p ≤ 999000) (ha0 : 0 ≤ a) (ha : a ≤ 10) :
    Tot (fun k => Aab.f k l p h a) (fun r => 0 ≤ r.1 ∧ r.1 ≤ a ∧ (r.2.1.length : Int) = r.1 ∧ p ≤ r.2.2.1 ∧ r.2.2.1 ≤ p + 400) := by
  unfold Aab.f
  rw [wrap64_in (a + 1) (by omega) (by omega)]
  refine Tot.obind (pick_ok hb p h (a + 1) hp (by omega)) ?_
  rintro ⟨n, p1, h1⟩ ⟨n0, n1, n2, n3⟩
  simp only at n0 n1 n2 n3
  simp only [if_pos n0]
  obtain ⟨m, rfl⟩ := Int.eq_ofNat_of_zero_le n0
  have hm : m ≤ 10 := by omega
  rw [Int.toNat_natCast]
  simp only [if_pos (show m ≤ 35184372088832 by omega)]
  refine Tot.obind (pick_ok hb p1 h1 3 (by omega) (by omega)) ?_
  rintro ⟨kd, p2, h2⟩ ⟨k0, k1, k2, k3⟩
  simp only at k0 k1 k2 k3
  refine Tot.up (fun i (s : List Int × List Int × Int × Int) k => Aab.l0 k (m : Int) kd s.1 s.2.1 (i : Int) l s.2.2.1 s.2.2.2 (m : Int) (List.replicate m 0)) m
    (fun i s => s.1.length = i ∧ s.2.1.length = i ∧ p ≤ s.2.2.1 ∧ s.2.2.1 ≤ p + 4 + 4 * (i : Int)) ?_ ?_ 0 (Nat.zero_le _) ([], [], p2, h2) ⟨rfl, rfl, by simp only; omega, by simp only; omega⟩
  · rintro i ⟨x8, x9, p3, h3⟩ hi ⟨s1, s2, s3, s4⟩ next
    simp only at s1 s2 s3 s4
    refine Tot.step (fun _ => rfl) ?_
    simp only [Aab.l0, if_pos (show (i : Int) < (m : Int) by omega), s1, s2, if_pos (show i < 17592186044416 by omega), next64 i m hi (by omega)]
    refine Tot.obind (pick_ok hb p3 h3 8 (by omega) (by omega)) ?_
    rintro ⟨v, p4, h4⟩ ⟨v0, v1, v2, v3⟩
    simp only at v0 v1 v2 v3
    simp only [Option.bind_some]
    refine Tot.ite (fun _ => ?_) (fun _ => ?_)
    · refine Tot.obind (pick_ok hb p4 h4 4 (by omega) (by omega)) ?_
      rintro ⟨v', p5, h5⟩ ⟨u0, u1, u2, u3⟩
      simp only at u0 u1 u2 u3
      exact next (_, _, _, _) ⟨by simp [s1], by simp [s2], by simp only; omega, by simp only; omega⟩
    · exact next (_, _, _, _) ⟨by simp [s1], by simp [s2], by simp only; omega, by simp only; omega⟩
  · rintro ⟨x8, x9, p3, h3⟩ ⟨s1, s2, s3, s4⟩
    simp only at s1 s2 s3 s4
    refine Tot.step (fun _ => rfl) ?_
    simp only [Aab.l0, if_neg (show ¬ (m : Int) < (m : Int) by omega)]
    refine Tot.up (fun i (s : Int × Int × List Int) k => Aab.l1 k (m : Int) kd x8 x9 (i : Int) l s.1 s.2.1 (m : Int) s.2.2) m
      (fun i s => p ≤ s.1 ∧ s.1 ≤ p + 44 + 22 * (i : Int) ∧ s.2.2.length = m) ?_ ?_ 0 (Nat.zero_le _) (p3, h3, List.replicate m 0) ⟨by simp only; omega, by simp only; omega, by simp⟩
    · rintro i ⟨p4, h4, z⟩ hi ⟨t1, t2, t3⟩ next
      simp only at t1 t2 t3
      refine Tot.step (fun _ => rfl) ?_
      simp only [Aab.l1, if_pos (show (i : Int) < (m : Int) by omega)]
      refine Tot.up (fun j (s : Int × Int × List Int) k => Aab.l2 k (m : Int) kd x8 x9 (i : Int) (j : Int) l s.1 s.2.1 (m : Int) s.2.2) m
        (fun j s => p ≤ s.1 ∧ s.1 ≤ p + 44 + 22 * (i : Int) + 2 * (j : Int) ∧ s.2.2.length = m) ?_ ?_ 0 (Nat.zero_le _) (p4, h4, z) ⟨by simp only; omega, by simp only; omega, t3⟩
      · rintro j ⟨p5, h5, z⟩ hj ⟨q1, q2, q3⟩ next
        simp only at q1 q2 q3
        have hone : ∀ v p' h' , p ≤ p' → p' ≤ p5 + 2 → Tot (fun k => Aab.l2 k (m : Int) kd x8 x9 (i : Int) ((j + 1 : Nat) : Int) l p' h' (m : Int) (z.set i v)) _ := fun v p' h' a1 a2 => next (p', h', z.set i v) ⟨a1, by simp only; omega, by simpa using q3⟩
        have hno : ∀ p' h' , p ≤ p' → p' ≤ p5 + 2 → Tot (fun k => Aab.l2 k (m : Int) kd x8 x9 (i : Int) ((j + 1 : Nat) : Int) l p' h' (m : Int) z) _ := fun p' h' a1 a2 => next (p', h', z) ⟨a1, by simp only; omega, q3⟩
        refine Tot.step (fun _ => rfl) ?_
        simp only [Aab.l2, if_pos (show (j : Int) < (m : Int) by omega), s1, s2, q3, if_pos (show (i : Int) < (m : Int) by omega), if_pos (show (0 : Int) ≤ (i : Int) by omega), if_pos (show (0 : Int) ≤ (j : Int) by omega), next64 j m hj (by omega), Int.toNat_natCast]
        refine Tot.ite (fun _ => ?_) (fun _ => ?_)
        · refine Tot.ite (fun _ => ?_) (fun _ => ?_)
          · exact hone _ _ _ (by omega) (by omega)
          · refine Tot.ite (fun _ => ?_) (fun _ => hno _ _ (by omega) (by omega))
            refine Tot.ite (fun _ => ?_) (fun _ => hno _ _ (by omega) (by omega))
            refine Tot.obind (one_ok hb p5 h5 3 (by omega) (by omega)) ?_
            rintro ⟨v, p6, h6⟩ ⟨u2, u3⟩
            simp only at u2 u3
            dsimp only
            exact Tot.ite (fun _ => hone _ _ _ (by omega) (by omega)) (fun _ => hno _ _ (by omega) (by omega))
        · refine Tot.ite (fun _ => ?_) (fun _ => hno _ _ (by omega) (by omega))
          refine Tot.ite (fun _ => ?_) (fun _ => hno _ _ (by omega) (by omega))
          refine Tot.obind (one_ok hb p5 h5 3 (by omega) (by omega)) ?_
          rintro ⟨v, p6, h6⟩ ⟨u2, u3⟩
          simp only at u2 u3
          dsimp only
          exact Tot.ite (fun _ => hone _ _ _ (by omega) (by omega)) (fun _ => hno _ _ (by omega) (by omega))
      · rintro ⟨p5, h5, z⟩ ⟨q1, q2, q3⟩
        simp only at q1 q2 q3
        refine Tot.step (fun _ => rfl) ?_
        simp only [Aab.l2, if_neg (show ¬ (m : Int) < (m : Int) by omega), next64 i m hi (by omega)]
        exact next (p5, h5, z) ⟨q1, by simp only; omega, q3⟩
    · rintro ⟨p4, h4, z⟩ ⟨t1, t2, t3⟩
      simp only at t1 t2 t3
      refine Tot.step (fun _ => rfl) ?_
      simp only [Aab.l1, if_neg (show ¬ (m : Int) < (m : Int) by omega)]
      refine Tot.ite (fun _ => Tot.now ⟨by simp only; omega, by simp only; omega, by simp only; omega, by simp only; omega, by simp only; omega⟩) (fun _ => ?_)
      refine Tot.bind (close_tot (m : Int) z (by omega)) ?_
      rintro ⟨a1, a2, a3⟩ ⟨c1, c2, c3, c4⟩
      exact Tot.now ⟨by simp only; omega, by simp only at c2 ⊢; omega, by simp only at c4 ⊢; omega, by simp only; omega, by simp only; omega⟩
theorem relation_tot {l : List Int} (hb : By l) (p h a : Int) (hp : 0 ≤ p) (hp2 : p ≤ 999000) (ha0 : 0 ≤ a) (ha : a ≤ 10) :
    Tot (fun k => Aan.f k l p h a) (fun r => 0 ≤ r.1 ∧ r.1 ≤ a ∧ (r.2.1.length : Int) = r.1 ∧ p ≤ r.2.2.1 ∧ r.2.2.1 ≤ p + 400) := by
  unfold Aan.f
  rw [wrap64_in (a + 1) (by omega) (by omega)]
  refine Tot.obind (pick_ok hb p h (a + 1) hp (by omega)) ?_
  rintro ⟨n, p1, h1⟩ ⟨n0, n1, n2, n3⟩
  simp only at n0 n1 n2 n3
  obtain ⟨m, rfl⟩ := Int.eq_ofNat_of_zero_le n0
  have hm : m ≤ 10 := by omega
  refine Tot.up (fun i (s : Int × Int × List Int) k => Aan.l0 k l s.1 s.2.1 (m : Int) s.2.2) m
    (fun i s => p ≤ s.1 ∧ s.1 ≤ p + 2 + 20 * (i : Int) ∧ s.2.2.length = i) ?_ ?_ 0 (Nat.zero_le _) (p1, h1, []) ⟨by simp only; omega, by simp only; omega, rfl⟩
  · rintro i ⟨p2, h2, z⟩ hi ⟨s1, s2, s3⟩ next
    simp only at s1 s2 s3
    refine Tot.step (fun _ => rfl) ?_
    simp only [Aan.l0, s3, if_pos (show (i : Int) < (m : Int) by omega)]
    refine Tot.up (fun j (s : Int × Int × Int) k => Aan.l1 k s.1 (j : Int) l s.2.1 s.2.2 (m : Int) z) m
      (fun j s => p ≤ s.2.1 ∧ s.2.1 ≤ p + 2 + 20 * (i : Int) + 2 * (j : Int)) ?_ ?_ 0 (Nat.zero_le _) (0, p2, h2) ⟨by simp only; omega, by simp only; omega⟩
    · rintro j ⟨x, p3, h3⟩ hj ⟨q1, q2⟩ next
      simp only at q1 q2
      refine Tot.step (fun _ => rfl) ?_
      simp only [Aan.l1, if_pos (show (j : Int) < (m : Int) by omega), if_pos (show (0 : Int) ≤ (j : Int) by omega), next64 j m hj (by omega)]
      refine Tot.obind (one_ok hb p3 h3 4 (by omega) (by omega)) ?_
      rintro ⟨v, p6, h6⟩ ⟨u2, u3⟩
      simp only at u2 u3
      dsimp only
      exact Tot.ite (fun _ => next (_, p6, h6) ⟨by simp only; omega, by simp only; omega⟩) (fun _ => next (_, p6, h6) ⟨by simp only; omega, by simp only; omega⟩)
    · rintro ⟨x, p3, h3⟩ ⟨q1, q2⟩
      simp only at q1 q2
      refine Tot.step (fun _ => rfl) ?_
      simp only [Aan.l1, if_neg (show ¬ (m : Int) < (m : Int) by omega), s3, if_pos (show i < 17592186044416 by omega)]
      exact next (p3, h3, z ++ [x]) ⟨q1, by simp only; omega, by simp [s3]⟩
  · rintro ⟨p2, h2, z⟩ ⟨s1, s2, s3⟩
    simp only at s1 s2 s3
    refine Tot.step (fun _ => rfl) ?_
    simp only [Aan.l0, s3, if_neg (show ¬ (m : Int) < (m : Int) by omega)]
    exact Tot.now ⟨by simp only; omega, by simp only; omega, by simp only; omega, by simp only; omega, by simp only; omega⟩
theorem anyOrder_tot {l : List Int} (hb : By l) (p h a : Int) (hp : 0 ≤ p) (hp2 : p ≤ 998000) (ha0 : 0 ≤ a) (ha : a ≤ 10) :
    Tot (fun k => Aaz.f k l p h a) (fun r => r.2.1.length ≤ 10 ∧ p ≤ r.2.2.1 ∧ r.2.2.1 ≤ p + 900) := by
  unfold Aaz.f
  refine Tot.bind (order_tot hb p h a hp (by omega) ha0 ha) ?_
  rintro ⟨n, z, p1, h1⟩ ⟨n0, n1, n2, n3, n4⟩
  simp only at n0 n1 n2 n3 n4
  refine Tot.obind (pick_ok hb p1 h1 14 (by omega) (by omega)) ?_
  rintro ⟨c, p2, h2⟩ ⟨k0, k1, k2, k3⟩
  simp only at k0 k1 k2 k3
  simp only []
  refine Tot.ite (fun _ => ?_) (fun _ => Tot.ite (fun _ => ?_) (fun _ => Tot.ite (fun _ => ?_) (fun _ => Tot.ite (fun _ => ?_) (fun _ => ?_))))
  · refine Tot.bind (relation_tot hb p2 h2 a (by omega) (by omega) ha0 ha) ?_
    rintro ⟨n', z', p', h'⟩ ⟨m0, m1, m2, m3, m4⟩
    simp only at m0 m1 m2 m3 m4
    exact Tot.now ⟨by simp only; omega, by simp only; omega, by simp only; omega⟩
  · refine Tot.obind (among_ok hb p2 h2 _ (by simp) (by omega) (by omega)) ?_
    rintro ⟨v, p', h'⟩ ⟨_, m3, m4⟩
    simp only at m3 m4
    exact Tot.now ⟨by simp only; omega, by simp only; omega, by simp only; omega⟩
  · refine Tot.ite (fun hz => ?_) (fun _ => Tot.now ⟨by simp only; omega, by simp only; omega, by simp only; omega⟩)
    refine Tot.obind (pick_ok hb p2 h2 _ (by omega) (by omega)) ?_
    rintro ⟨v, p', h'⟩ ⟨v0, v1, m3, m4⟩
    simp only at v0 v1 m3 m4
    simp only [if_pos n0]
    refine Tot.obind (among_ok hb p' h' _ (by simp) (by omega) (by omega)) ?_
    rintro ⟨v', p'', h''⟩ ⟨_, m5, m6⟩
    simp only at m5 m6
    simp only [if_pos v0]
    rw [if_pos (show v < (z.length : Int) by omega)]
    exact Tot.now ⟨by simp only [List.length_set]; omega, by simp only; omega, by simp only; omega⟩
  · refine Tot.bind (order_tot hb p2 h2 10 (by omega) (by omega) (by omega) (by omega)) ?_
    rintro ⟨n', z', p', h'⟩ ⟨m0, m1, m2, m3, m4⟩
    simp only at m0 m1 m2 m3 m4
    exact Tot.now ⟨by simp only; omega, by simp only; omega, by simp only; omega⟩
  · exact Tot.now ⟨by simp only; omega, by simp only; omega, by simp only; omega⟩
end Go.Proofs.YtfjpilcmjabikaaDoor.M
namespace Go.Proofs.YtfjpilcmjabikaaDoor.P
open Go.RowKit Go.Proofs.YtfjpilcmjabikaaDoorW.PrintWords Go.Proofs.YtfjpilcmjabikaaDoorW.PrintLast Go.Proofs.YtfjpilcmjabikaaDoorW.PrintMore
open Bool renaming true → T, false → F
open List renaming setIfInBounds_toArray → L_, set_cons_zero → M_, set_cons_succ → N_, map_toArray → P_, map_cons → Q_, map_nil → R_, length_drop → S_, length_take → U_
open Aside0 renaming mk → A_
attribute [local go_sem] max2_int min2_int max_two min_two max_three min_three max_four min_four
set_option linter.unusedVariables false
set_option linter.unusedSimpArgs false
attribute [local go_sem] fldOrder_0 fldOrder_1
end Go.Proofs.YtfjpilcmjabikaaDoor.P
namespace Go.Proofs.YtfjpilcmjabikaaDoor.P
open Go.RowKit Go.Proofs.YtfjpilcmjabikaaDoorW.PrintWords Go.Proofs.YtfjpilcmjabikaaDoorW.PrintLast Go.Proofs.YtfjpilcmjabikaaDoorW.PrintMore
open Bool renaming true → T, false → F
open List renaming setIfInBounds_toArray → L_, set_cons_zero → M_, set_cons_succ → N_, map_toArray → P_, map_cons → Q_, map_nil → R_, length_drop → S_, length_take → U_
open Aside0 renaming mk → A_
attribute [local go_sem] max2_int min2_int max_two min_two max_three min_three max_four min_four
set_option linter.unusedVariables false
set_option linter.unusedSimpArgs false
attribute [local go_sem] fldOrder_0 fldOrder_1
end Go.Proofs.YtfjpilcmjabikaaDoor.P
namespace Go.Proofs.YtfjpilcmjabikaaDoor.M
open Go.RowKit Go.Proofs.YtfjpilcmjabikaaDoorW.PrintMore Go.Proofs.YtfjpilcmjabikaaDoorW.PrintLast Go.Proofs.YtfjpilcmjabikaaDoorW.PrintWords Go.Proofs.YtfjpilcmjabikaaDoor.P
def mir (n : Nat) (l : List Int) : List Int := relL n fun i j => B l j i
theorem mir_rel {n : Nat} {l : List Int} (h : Rel n l) : Rel n (mir n l) := relL_rel n h.le _
theorem mir_B {n : Nat} {l : List Int} (h : Rel n l) (i j : Nat) : B (mir n l) i j = B l j i := by
  unfold mir
  rw [relL_B]
  cases hb : B l j i with
  | false => simp
  | true => simp [h.B_lt hb, h.B_lt' hb]
theorem mirror_ev {n : Nat} {l : List Int} (h : Rel n l) : Ev (fun k => Abq.f k (n : Int) l) ((n : Int), mir n l) := by
  have hn := h.le
  unfold Abq.f
  refine Ev.bind (relation_ev n (by omega) (fun _ x y => Abm.f x y (n : Int) l) (fun i j => B l j i) ?_) (Ev.now _)
  intro i j hi hj
  refine Ev.const ?_
  unfold Abm.f
  rw [better_eq h n j i hj (by omega)]
  rfl
theorem orBelow_ev {n : Nat} {l : List Int} (h : Rel n l) (z : Int) (i : Nat) (hi : i ≤ 62) : Ev (fun k => Abd.f k z l (i : Int)) ((setOf n fun j => B l j i : Nat) : Int) := by
  have hlen := h.len
  have hn := h.le
  unfold Abd.f
  rw [hlen]
  refine Ev.up (fun j k => Abd.l0 k (i : Int) ((setOf j fun j => B l j i : Nat) : Int) l (n : Int) (j : Int)) n ?_ ?_
  · intro j hj next
    refine Ev.step (fun _ => rfl) ?_
    rw [setOf_bit_or] at next
    simp only [Abd.l0, if_pos (show (j : Int) < (n : Int) by omega), if_pos (show (0 : Int) ≤ (j : Int) by omega), hlen, h.rd, orHas_eq _ i (by omega), Option.bind_some, next64 j n hj (by omega)]
    rw [show (row l j).testBit i = B l j i from rfl]
    cases hb : B l j i with
    | false =>
      rw [hb] at next
      simpa using next
    | true =>
      rw [hb] at next
      have h2 : (2 : Nat) ^ j < 9223372036854775808 := Nat.lt_of_le_of_lt (Nat.pow_le_pow_right (by decide) (by omega : j ≤ 62)) (by decide)
      simp only [if_true]
      rw [shl1 j (by omega), or_i64 (setOf j fun j => B l j i) (2 ^ j) (setOf_62 _ _ (by omega)) h2]
      simpa using next
  · refine Ev.step (fun _ => rfl) ?_
    simp only [Abd.l0, if_neg (show ¬ (n : Int) < (n : Int) by omega)]
    exact Ev.now _
def indif (n : Nat) (l : List Int) (i : Nat) : Nat := setOf n fun j => !B l i j && (!B l j i && decide (j ≠ i))
theorem all_eq (n : Nat) (l : List Int) (hn : n ≤ 10) : Ab2.f (n : Int) l = some ((2 ^ n - 1 : Nat) : Int) := by
  unfold Ab2.f
  rw [if_pos (by omega), pow_of n (by omega) (by omega), Int.toNat_natCast]
  have := Nat.two_pow_pos n
  congr 1
  omega
theorem indifs_ev {n : Nat} {l : List Int} (h : Rel n l) : Ev (fun k => Aai.f k (n : Int) l) ((List.range n).map fun i => ((indif n l i : Nat) : Int)) := by
  have hlen := h.len
  have hn := h.le
  have hm := mir_rel h
  unfold Aai.f
  refine Ev.bind (mirror_ev h) ?_
  refine Ev.up (fun i k => Aai.l0 k ((List.range i).map fun i => ((indif n l i : Nat) : Int)) (n : Int) (i : Int) (n : Int) l (n : Int) (mir n l)) n ?_ ?_
  · intro i hi next
    refine Ev.step (fun _ => rfl) ?_
    have hp : (2 : Nat) ^ n - 1 < 9223372036854775808 := by
      have : (2 : Nat) ^ n ≤ 2 ^ 10 := Nat.pow_le_pow_right (by decide) hn
      omega
    have h2 : (2 : Nat) ^ i < 9223372036854775808 := Nat.lt_of_le_of_lt (Nat.pow_le_pow_right (by decide) (by omega : i ≤ 62)) (by decide)
    have le1 : ∀ a b, diff a b ≤ a := fun a b => Nat.and_le_left
    have e : diff (diff (diff (2 ^ n - 1) (row l i)) (row (mir n l) i)) (2 ^ i) = indif n l i := by
      apply Nat.eq_of_testBit_eq
      intro j
      unfold indif
      rw [testBit_setOf, testBit_diff, testBit_diff, testBit_diff, Nat.testBit_two_pow_sub_one, Nat.testBit_two_pow, show (row l i).testBit j = B l i j from rfl, show (row (mir n l) i).testBit j = B (mir n l) i j from rfl, mir_B h, Bool.and_assoc, Bool.and_assoc]
      by_cases hj : i = j
      · simp [hj]
      · simp [hj, Ne.symm hj]
    have g1 := le1 (2 ^ n - 1) (row l i)
    have g2 := le1 (diff (2 ^ n - 1) (row l i)) (row (mir n l) i)
    simp only [Aai.l0, if_pos (show (i : Int) < (n : Int) by omega), all_eq n l hn, Option.bind_some, if_pos (show (0 : Int) ≤ (i : Int) by omega), hlen, hm.len, List.length_map, List.length_range, if_pos (show i < 17592186044416 by omega), h.rd, hm.rd, shl1 i (by omega), andNot_i64 _ _ hp (h.row_62 i), andNot_i64 _ _ (show diff (2 ^ n - 1) (row l i) < 9223372036854775808 by omega) (hm.row_62 i),
      andNot_i64 _ _ (show diff (diff (2 ^ n - 1) (row l i)) (row (mir n l) i) < 9223372036854775808 by omega) h2, e, next64 i n hi (by omega)]
    simpa [List.range_succ] using next
  · refine Ev.step (fun _ => rfl) ?_
    simp only [Aai.l0, if_neg (show ¬ (n : Int) < (n : Int) by omega)]
    exact Ev.now _
theorem has_one {n : Nat} (l : List Int) (i : Nat) (hi : i < n) (hn : n ≤ 10) : Ev (fun k => Aa7.f k (n : Int) l [(i : Int)]) true := by
  unfold Aa7.f
  rw [wrap64_in _ (by omega) (by omega)]
  refine Ev.bind (Ev.to (allWithin_ev _ _ _ (by simp)) ?_) (Ev.now _)
  simp only [allIn, decide_eq_true_iff]
  intro x hx
  simp at hx
  omega
theorem has_two {n : Nat} (l : List Int) (i j : Nat) (hi : i < n) (hj : j < n) (hn : n ≤ 10) : Ev (fun k => Aa7.f k (n : Int) l [(i : Int), (j : Int)]) true := by
  unfold Aa7.f
  rw [wrap64_in _ (by omega) (by omega)]
  refine Ev.bind (Ev.to (allWithin_ev _ _ _ (by simp)) ?_) (Ev.now _)
  simp only [allIn, decide_eq_true_iff]
  intro x hx
  simp at hx
  omega
theorem rel_is {n : Nat} {l : List Int} (h : Rel n l) : isRel n l = true := isRel_iff.2 ⟨n, rfl, h⟩
theorem IsRelation_true {n : Nat} {l : List Int} (h : Rel n l) : Ev (fun k => Aa5.f k (n : Int) l) true := Ev.to (IsRelation_ev n l (by have := h.len; have := h.le; omega)) (rel_is h)
theorem IndifferentTo_ev {n : Nat} {l : List Int} (h : Rel n l) (i : Nat) (hi : i < n) : Ev (fun k => Abn.f k (n : Int) l (i : Int)) (((indif n l i : Nat) : Int), true) := by
  have hn := h.le
  unfold Abn.f
  refine Ev.bind (IsRelation_true h) ?_
  simp only [if_true]
  refine Ev.bind (has_one l i hi hn) ?_
  simp only [if_true]
  refine Ev.bind (indifs_ev h) ?_
  simp only [if_pos (show (0 : Int) ≤ (i : Int) by omega), List.length_map, List.length_range, if_pos (show (i : Int) < (n : Int) by omega), rd_nat]
  exact Ev.to (Ev.now _) (by simp [hi])
theorem IsBetter_ev {n : Nat} {l : List Int} (h : Rel n l) (i j : Nat) (hi : i < n) (hj : j < n) : Ev (fun k => Abw.f k (n : Int) l (i : Int) (j : Int)) (B l i j, true) := by
  have hn := h.le
  unfold Abw.f
  refine Ev.bind (IsRelation_true h) ?_
  simp only [if_true]
  refine Ev.bind (has_two l i j hi hj hn) ?_
  simp only [if_true, better_eq h n i j hi (by omega), Option.bind_some]
  exact Ev.now _
end Go.Proofs.YtfjpilcmjabikaaDoor.M
