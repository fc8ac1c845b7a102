/- A part of the proof that the law FnClosures holds at every input. Written by wip/pack.py: the kit's printed words that are used, the functions' walks as wip/gen.py prints them, and hand proofs. -/
import Derived.Test.YtfjpilcmjabikaaDoorKFnClosures0
namespace Go.Proofs.YtfjpilcmjabikaaDoor.P
open Go.RowKit Go.Proofs.YtfjpilcmjabikaaDoorW.PrintWords Go.Proofs.YtfjpilcmjabikaaDoorW.PrintLast Go.Proofs.YtfjpilcmjabikaaDoorW.PrintMore
open Bool renaming true → T, false → F
open List renaming setIfInBounds_toArray → L_, set_cons_zero → M_, set_cons_succ → N_, map_toArray → P_, map_cons → Q_, map_nil → R_, length_drop → S_, length_take → U_
open Aside0 renaming mk → A_
attribute [local go_sem] max2_int min2_int max_two min_two max_three min_three max_four min_four
set_option linter.unusedVariables false
set_option linter.unusedSimpArgs false
attribute [local go_sem] fldOrder_0 fldOrder_1
mutual
def Aac.l0 : Nat → Int → Int → List Int → List Int → Int → List Int → Int → Int → Int → List Int → Option (Int × List Int × Int × Int)
 | 0,_,_,_,_,_,_,_,_,_,_=>none
 | k + 1,x5,x7,x8,x9,x10,x1000,x1001,x1002,x153000,x153001=>if x10 < x5 then ((Aah.f x1000 x1001 x1002 8).bind fun bt156=>(if x8.length < 17592186044416 then ((some (x8 ++ [bt156.1] : List Int)).bind fun y159=>(if x7 = 1 then ((Aah.f x1000 bt156.2.1 bt156.2.2 4).bind fun bt162=>(if x9.length < 17592186044416 then (Aac.l0 k x5 x7 y159 (x9 ++ [wrap64 (bt156.1 + bt162.1)]) (wrap64 (x10 + 1)) x1000 bt162.2.1 bt162.2.2 x153000 x153001) else (none))) else (if x9.length < 17592186044416 then (Aac.l0 k x5 x7 y159 (x9 ++ [wrap64 (bt156.1 + 2)]) (wrap64 (x10 + 1)) x1000 bt156.2.1 bt156.2.2 x153000 x153001) else (none)))) else (none))) else (Aac.l1 k x5 x7 x8 x9 0 x1000 x1001 x1002 x153000 x153001)
def Aac.l1 : Nat → Int → Int → List Int → List Int → Int → List Int → Int → Int → Int → List Int → Option (Int × List Int × Int × Int)
 | 0,_,_,_,_,_,_,_,_,_,_=>none
 | k + 1,x5,x7,x8,x9,x12,x1000,x1001,x1002,x153000,x153001=>if x12 < x5 then (Aac.l2 k x5 x7 x8 x9 x12 0 x1000 x1001 x1002 x153000 x153001) else (if x7 > 0 then (some (x153000,x153001,x1001,x1002)) else ((Aad.f k x153000 x153001).bind fun bt171=>(some (bt171.1,bt171.2.1,x1001,x1002))))
def Aac.l2 : Nat → Int → Int → List Int → List Int → Int → Int → List Int → Int → Int → Int → List Int → Option (Int × List Int × Int × Int)
 | 0,_,_,_,_,_,_,_,_,_,_,_=>none
 | k + 1,x5,x7,x8,x9,x12,x13,x1000,x1001,x1002,x153000,x153001=>if x13 < x5 then (if x7 > 0 then (if 0 ≤ x12 then (if x12 < (x9.length : Int) then (if 0 ≤ x13 then (if x13 < (x8.length : Int) then (if (rd x9 x12) < (rd x8 x13) then (if x12 < (x153001.length : Int) then (Aac.l2 k x5 x7 x8 x9 x12 (wrap64 (x13 + 1)) x1000 x1001 x1002 x153000 (x153001.set (x12 : Int).toNat (Go.bits .or .i64 (rd x153001 x12) (shl .i64 1 x13)))) else (none)) else (if x7 = 0 then (if x12 < x13 then ((Aau.f x1000 x1001 x1002 3).bind fun bt181=>(if bt181.1 = true then (if x12 < (x153001.length : Int) then (Aac.l2 k x5 x7 x8 x9 x12 (wrap64 (x13 + 1)) x1000 bt181.2.1 bt181.2.2 x153000 (x153001.set (x12 : Int).toNat (Go.bits .or .i64 (rd x153001 x12) (shl .i64 1 x13)))) else (none)) else (Aac.l2 k x5 x7 x8 x9 x12 (wrap64 (x13 + 1)) x1000 bt181.2.1 bt181.2.2 x153000 x153001))) else (Aac.l2 k x5 x7 x8 x9 x12 (wrap64 (x13 + 1)) x1000 x1001 x1002 x153000 x153001)) else (Aac.l2 k x5 x7 x8 x9 x12 (wrap64 (x13 + 1)) x1000 x1001 x1002 x153000 x153001))) else (none)) else (none)) else (none)) else (none)) else (if x7 = 0 then (if x12 < x13 then ((Aau.f x1000 x1001 x1002 3).bind fun bt186=>(if bt186.1 = true then (if 0 ≤ x12 then (if x12 < (x153001.length : Int) then (if 0 ≤ x13 then (Aac.l2 k x5 x7 x8 x9 x12 (wrap64 (x13 + 1)) x1000 bt186.2.1 bt186.2.2 x153000 (x153001.set (x12 : Int).toNat (Go.bits .or .i64 (rd x153001 x12) (shl .i64 1 x13)))) else (none)) else (none)) else (none)) else (Aac.l2 k x5 x7 x8 x9 x12 (wrap64 (x13 + 1)) x1000 bt186.2.1 bt186.2.2 x153000 x153001))) else (Aac.l2 k x5 x7 x8 x9 x12 (wrap64 (x13 + 1)) x1000 x1001 x1002 x153000 x153001)) else (Aac.l2 k x5 x7 x8 x9 x12 (wrap64 (x13 + 1)) x1000 x1001 x1002 x153000 x153001))) else (Aac.l1 k x5 x7 x8 x9 (wrap64 (x12 + 1)) x1000 x1001 x1002 x153000 x153001)
end
def Aac.f (k : Nat) (s0_0 : List Int) (s0_1 : Int) (s0_2 : Int) (a1 : Int) : Option (Int × List Int × Int × Int) := (Aah.f s0_0 s0_1 s0_2 (wrap64 (a1 + 1))).bind fun bt146 => (if 0 ≤ bt146.1 then (if (bt146.1 : Int).toNat ≤ 35184372088832 then ((Aah.f s0_0 bt146.2.1 bt146.2.2 3).bind fun bt153 => (Aac.l0 k bt146.1 bt153.1 ([] : List Int) ([] : List Int) 0 s0_0 bt153.2.1 bt153.2.2 bt146.1 (List.replicate (bt146.1 : Int).toNat 0))) else (none)) else (none))
def Aac.T19 : Bool × List (List Nat × List Nat) := (true, [([], []), ([0], [0]), ([1], [1]), ([2], [2]), ([2], [2]), ([3, 4, 2], [2, 3, 4]), ([5, 2], [2, 5]), ([2], [2]), ([2], [2]), ([7, 8, 2], [2, 7, 8]), ([9, 2], [2, 9]), ([6, 10, 2], [2, 6, 10]), ([2, 11], [2, 11]), ([12, 2], [12]), ([13], [13]), ([14, 13], [13, 14]), ([15, 13, 13], [13, 15]), ([16], [16]), ([16], [16]), ([17, 18, 16], [16, 17, 18]), ([16, 19, 13], [13, 16, 19]), ([20, 16, 13], [13, 20]), ([21], [21]), ([22, 21, 21], [21, 22]), ([21, 23, 13], [13, 21, 23]), ([13, 24], [13, 24])])
def Aac.B19 : List Nat := [0, 1, 3, 7, 7, 31, 63, 7, 7, 391, 903, 2047, 4095, 8191, 16383, 32767, 65535, 131071, 131071, 524287, 1048575, 2097151, 4194303, 8388607, 16777215, 33554431]
theorem Aac.tab19 : rtab .any (opsOf Tryd.f112 19) = Aac.T19:=by kernel_rfl
theorem Aac.bits19 : waitsOk Aac.T19.2 Aac.B19 = true:=by kernel_rfl
def Aac.T20 : Bool × List (List Nat × List Nat) := (true, [([], []), ([0], [0]), ([], []), ([1, 2], [1, 2]), ([3], [3]), ([], []), ([5], [5]), ([4, 6], [4, 6]), ([1, 2, 0, 1, 2, 3, 4, 5, 6, 7], [1, 2]), ([8, 7, 0, 1, 2, 3, 4, 5, 6, 7], [7, 8])])
def Aac.B20 : List Nat := [0, 1, 0, 7, 15, 0, 32, 127, 255, 511]
theorem Aac.tab20 : rtab .any (opsOf Tryd.f112 20) = Aac.T20:=by kernel_rfl
theorem Aac.bits20 : waitsOk Aac.T20.2 Aac.B20 = true:=by kernel_rfl
set_option maxHeartbeats 8000000 in
set_option maxRecDepth 100000 in
theorem Aac.calls (k : Nat) (g : Nat) (s0_0 : List Int) (s0_1 : Int) (s0_2 : Int) (a1 : Int) (r1 : Int) (r2 : List Int) (r3 : Int) (r4 : Int) (w0 w : World) (hI : Aaa w0 w g s0_0 s0_1 s0_2) (hB : Below w0.heap.size w0 w) (h : Aac.f k s0_0 s0_1 s0_2 a1 = some (r1,r2,r3,r4)) :
 Calls Tryd.prog 112 #[.pointer (some ⟨g,0,none⟩),.int .i64 a1] w fun e w'=>∃ v1_ : Value,e = .returned (.agg #[.int .i64 r1,v1_]) ∧ Kd.R (Kd.int .i64) 3 w' w.heap.size (fun _=>True) v1_ r2 ∧ Aaa w0 w' g s0_0 r3 r4 ∧ Below w0.heap.size w0 w' ∧ KeepBut w w' g none:=by
 have hu26:=Tryd.underlying26;have HI0:=A_ hI;have HK:=A_ (KeepBut.refl w g none);have HL:=A_ hB.size;clear hI;have HW0:=A_ hB.size;have HB:=A_ hB;clear hB;have H : ((Aah.f s0_0 s0_1 s0_2 (wrap64 (a1 + 1))).bind fun Bn=>(if 0 ≤ Bn.1 then (if (Bn.1 : Int).toNat ≤ 35184372088832 then ((Aah.f s0_0 Bn.2.1 Bn.2.2 3).bind fun A8=>(Aac.l0 k Bn.1 A8.1 ([] : List Int) ([] : List Int) 0 s0_0 A8.2.1 A8.2.2 Bn.1 (List.replicate (Bn.1 : Int).toNat 0))) else (none)) else (none))) = some (r1,r2,r3,r4):=h;clear h;replace H:=Option.bind_eq_some_iff.mp H;obtain ⟨⟨Ae,Bv,Bw⟩,A30,H⟩:=H;replace H : (if 0 ≤ Ae then (if (Ae : Int).toNat ≤ 35184372088832 then ((Aah.f s0_0 Bv Bw 3).bind fun A8=>(Aac.l0 k Ae A8.1 ([] : List Int) ([] : List Int) 0 s0_0 A8.2.1 A8.2.2 Ae (List.replicate (Ae : Int).toNat 0))) else (none)) else (none)) = some (r1,r2,r3,r4):=H;have A3:=A_ A30;clear A30;by_cases c4 : 0 ≤ Ae
 ·rw [if_pos c4] at H;have c4b0:=eq_true c4;have c4b1 : decide (0 ≤ Ae) = true:=decide_eq_true c4;clear c4;by_cases c5 : (Ae : Int).toNat ≤ 35184372088832
  ·rw [if_pos c5] at H;have c5b0:=eq_true c5;have c5b1 : decide ((Ae : Int).toNat ≤ 35184372088832) = true:=decide_eq_true c5;clear c5;obtain ⟨Al,Bx⟩ : ∃ y_ : List Int,y_ = (List.replicate (Ae : Int).toNat 0):=⟨_,rfl⟩;replace H : ((Aah.f s0_0 Bv Bw 3).bind fun A8=>(Aac.l0 k Ae A8.1 ([] : List Int) ([] : List Int) 0 s0_0 A8.2.1 A8.2.2 Ae Al)) = some (r1,r2,r3,r4):=by first|(rw [Bx];with_reducible exact H)|(have H2_:=(Option.bind_some _ _).symm.trans H;rw [Bx];with_reducible exact H2_)|(have H2_:=(Option.bind_some _ _).symm.trans H;with_reducible exact H2_)|with_reducible exact H|(rw [Bx];exact H)|exact H
   have Cv:=A_ Bx;clear Bx;replace H:=Option.bind_eq_some_iff.mp H;obtain ⟨⟨Ag,Cn,Co⟩,A60,H⟩:=H;replace H : (Aac.l0 k Ae Ag ([] : List Int) ([] : List Int) 0 s0_0 Cn Co Ae Al) = some (r1,r2,r3,r4):=H;have A6:=A_ A60;clear A60;have H':=A_ H;clear H;go_enter Tryd.func112,Tryd.ntmps112
   go_wp2_with (first|((with_reducible refine gate_dst (N:=4) rfl ?_);refine box_event ?hg (N:=4) ?hd (cs:=#[.int .i64 0,.slice none 0 0]) (t:=26) ?hr ?_;(case hd=>rfl);(case hg=>rfl);(case hr=>go_simp;try rfl);intro Am hg w7 hbox hb;replace HB:=A_ (below_step (by repeat (with_reducible first|exact HB.1|apply below_alloc|apply pw_below_drewN|apply below_drew1|refine below_set ?_ (Aaa.ge HI0.1))) hb);have Ac:=A_ (hbox);have Af:=A_ ((by rw [hg];exact (keep_size (w:=w) (g:=g) (row:=none) (by repeat (with_reducible first|exact HK.1|apply KeepBut.set_|apply keep_drewN|apply keep_drew|apply keep_alloc))) : w.heap.size ≤ Am));have Dr:=A_ ((Nat.le_trans HW0.1 (by rw [hg];exact (keep_size (w:=w) (g:=g) (row:=none) (by repeat (with_reducible first|exact HK.1|apply KeepBut.set_|apply keep_drewN|apply keep_drew|apply keep_alloc))) : w.heap.size ≤ Am) : w0.heap.size ≤ Am));replace HK:=A_ (KeepBut.trans (by repeat (with_reducible first|exact HK.1|apply KeepBut.set_|apply keep_drewN|apply keep_drew|apply keep_alloc)) (KeepBut.of_below hb g none) (.inl rfl));have NB0_145:=A_ ((by rw [hg];exact Nat.ne_of_lt (Aaa.lt (show Aaa w0 _ g s0_0 s0_1 s0_2 from is_)) : g ≠ Am));have As:=A_ ((by rw [hg];exact Nat.ne_of_gt (Aaa.lt (show Aaa w0 _ g s0_0 s0_1 s0_2 from is_)) : Am ≠ g));replace HI0:=A_ (Aaa.below (is_) hb);clear hb hbox hg)|((with_reducible refine gate_callee (f:=81) rfl ?_);refine goesL_ (some 19) rfl rfl Tryd.func81 (by kernel_rfl) rfl #[.pointer (some ⟨g,0,none⟩),.int .i64 (wrap64 (a1 + 1))] rfl au_ ?_;(with_reducible refine (Aah.calls g s0_0 s0_1 s0_2 (wrap64 (a1 + 1)) Ae Bv Bw w0 _ ?side1 ?side2 A3.1).mono ?_);(case side1=>repeat (first|(with_reducible first|exact HI0.1|apply Aaa.alloc|apply Aaa.drewN|apply Aaa.drew|apply Aaa.set_1|apply Aaa.set_2|refine Aaa.far ?_ NB0_145.1 _)|exact HI0.1));(case side2=>repeat (first|(with_reducible first|exact HB.1|apply below_alloc|apply pw_below_drewN|apply below_drew1|refine below_set ?_ (Aaa.ge HI0.1)|refine below_set ?_ (Aside0.out (by assumption)))|exact HB.1));rintro e w8 ⟨rfl,hi,hb,hk⟩;refine ⟨_,rfl,?_⟩;replace Ac:=A_ (KeepBut.blk hk (g':=Am) (o:=.cells #[.int .i64 0,.slice none 0 0] 26 (0,0)) (bl_ Ac) As.1 (by simp));replace HK:=A_ (KeepBut.trans (by repeat (with_reducible first|exact HK.1|apply KeepBut.set_|apply keep_drewN|apply keep_drew|apply keep_alloc|refine keep_far ?_ Af.1 _)) hk (.inl rfl));replace HB:=A_ (hb);replace HI0:=A_ (hi);(try clear hb);(try clear hb2);(try clear hk);(try clear hi))|((with_reducible refine gate_dst (N:=22) rfl ?_);refine Kd.R_make (Kd.int .i64) _ 3 rfl (N:=22) rfl 24 _ _ rfl Ae rfl rfl Tryd.underlying24 (.int .i64 0) 8 info3 rfl (by decide) (by omega) 0 (ok:=fun _=>True) (okp:=fun _=>True) rfl (fun _ hk=>hk) trivial (of_decide_eq_true (by first|(with_reducible assumption)|assumption)) (Nat.le_trans (Nat.mul_le_mul_right _ (of_decide_eq_true (by first|(with_reducible assumption)|assumption) : Ae.toNat ≤ 35184372088832)) (by omega)) (Below.refl _ _) (Nat.le_refl _) ?_;intro Dx w9 ho10 hb hg_ hnew_;clear hg_ hnew_;(first|rw [← Cv.1] at ho10|(simp only [Int.reduceToNat] at ho10;rw [← Cv.1] at ho10));have Bu:=A_ (Kd.R_lower ho10 (keep_size (w:=w) (g:=g) (row:=none) (by repeat (with_reducible first|exact HK.1|apply KeepBut.set_|apply keep_drewN|apply keep_drew|apply keep_alloc|refine keep_far ?_ Af.1 _))));replace Ac:=bz Ac hb;replace HK:=A_ (KeepBut.trans (by repeat (with_reducible first|exact HK.1|apply KeepBut.set_|apply keep_drewN|apply keep_drew|apply keep_alloc|refine keep_far ?_ Af.1 _)) (KeepBut.of_below hb g none) (.inl rfl));replace HB:=A_ (below_step (by repeat (with_reducible first|exact HB.1|apply below_alloc|apply pw_below_drewN|apply below_drew1|refine below_set ?_ (Aaa.ge HI0.1)|refine below_set ?_ (Aside0.out (by assumption)))) hb);replace HI0:=A_ (Aaa.below (by repeat (with_reducible first|exact HI0.1|apply Aaa.alloc|apply Aaa.drewN|apply Aaa.drew|apply Aaa.set_1|apply Aaa.set_2|refine Aaa.far ?_ NB0_145.1 _)) hb);clear hb ho10;obtain ⟨Ao11,co11,eo11⟩:=Kd.R_slice Bu.1;subst eo11)|((with_reducible refine gate_dst (N:=6) rfl ?_);refine box_event ?hg (N:=6) ?hd (cs:=#[.int .i64 0,.slice none 0 0]) (t:=26) ?hr ?_;(case hd=>rfl);(case hg=>rfl);(case hr=>go_simp;try rfl);intro An hg w12 hbox hb;replace Bu:=rb_ Bu hb;replace HB:=A_ (below_step (by repeat (with_reducible first|exact HB.1|apply below_alloc|apply pw_below_drewN|apply below_drew1|refine below_set ?_ (Aaa.ge HI0.1)|refine below_set ?_ (Aside0.out (by assumption)))) hb);have Ad:=A_ (hbox);have Aj:=A_ ((by rw [hg];exact (keep_size (w:=w) (g:=g) (row:=none) (by repeat (with_reducible first|exact HK.1|apply KeepBut.set_|apply keep_drewN|apply keep_drew|apply keep_alloc|refine keep_far ?_ Af.1 _))) : w.heap.size ≤ An));have Ds:=A_ ((Nat.le_trans HW0.1 (by rw [hg];exact (keep_size (w:=w) (g:=g) (row:=none) (by repeat (with_reducible first|exact HK.1|apply KeepBut.set_|apply keep_drewN|apply keep_drew|apply keep_alloc|refine keep_far ?_ Af.1 _))) : w.heap.size ≤ An) : w0.heap.size ≤ An));replace HK:=A_ (KeepBut.trans (by repeat (with_reducible first|exact HK.1|apply KeepBut.set_|apply keep_drewN|apply keep_drew|apply keep_alloc|refine keep_far ?_ Af.1 _)) (KeepBut.of_below hb g none) (.inl rfl));have Bd:=A_ (nl_ hg Ac);have Bs:=A_ (ng_ hg Ac);replace Ac:=bz Ac hb;have NB0_152:=A_ ((by rw [hg];exact Nat.ne_of_lt (Aaa.lt (show Aaa w0 _ g s0_0 Bv Bw from by repeat (first|(with_reducible first|exact HI0.1|apply Aaa.alloc|apply Aaa.drewN|apply Aaa.drew|apply Aaa.set_1|apply Aaa.set_2|refine Aaa.far ?_ NB0_145.1 _)|exact HI0.1))) : g ≠ An));have At:=A_ ((by rw [hg];exact Nat.ne_of_gt (Aaa.lt (show Aaa w0 _ g s0_0 Bv Bw from by repeat (first|(with_reducible first|exact HI0.1|apply Aaa.alloc|apply Aaa.drewN|apply Aaa.drew|apply Aaa.set_1|apply Aaa.set_2|refine Aaa.far ?_ NB0_145.1 _)|exact HI0.1))) : An ≠ g));replace HI0:=A_ (Aaa.below (by repeat (with_reducible first|exact HI0.1|apply Aaa.alloc|apply Aaa.drewN|apply Aaa.drew|apply Aaa.set_1|apply Aaa.set_2|refine Aaa.far ?_ NB0_145.1 _)) hb);clear hb hbox hg;have Z:=Bs.1;have Z:=Bd.1;have Z:=At.1;have Z:=NB0_152.1;obtain ⟨Z,Z,Z,Z⟩:=o2_ Ad.1)|((with_reducible refine gate_callee (f:=81) rfl ?_);refine goesL_ (some 25) rfl rfl Tryd.func81 (by kernel_rfl) rfl #[.pointer (some ⟨g,0,none⟩),.int .i64 3] rfl au_ ?_;(with_reducible refine (Aah.calls g s0_0 Bv Bw 3 Ag Cn Co w0 _ ?side1 ?side2 A6.1).mono ?_);(case side1=>exact is_);(case side2=>repeat (first|(with_reducible first|exact HB.1|apply below_alloc|apply pw_below_drewN|apply below_drew1|refine below_set ?_ (Aaa.ge HI0.1)|refine below_set ?_ (Aside0.out (by assumption)))|exact HB.1));rintro e w16 ⟨rfl,hi,hb,hk⟩;refine ⟨_,rfl,?_⟩;replace Ac:=A_ (KeepBut.blk hk (g':=Am) (o:=.cells #[.int .i64 0,.slice none 0 0] 26 (0,0)) (by (with_reducible repeat (first|refine blk_drewN ?_ _|refine blk_drew ?_|refine blk_alloc ?_ _));refine blk_far ?_ Bd.1 _;(with_reducible repeat (first|refine blk_drewN ?_ _|refine blk_drew ?_|refine blk_alloc ?_ _));refine blk_far ?_ Bd.1 _;(with_reducible repeat (first|refine blk_drewN ?_ _|refine blk_drew ?_|refine blk_alloc ?_ _));exact Ac.1) As.1 (by simp));replace Bu:=A_ (Kd.R_mono (Kd.R_keep (Aaa.apart (show Aaa w0 _ g s0_0 Bv Bw from is_) (rq_ (rf_ Bu Ad (.int .i64 Ae) (.slice Ao11 Al.length co11))) (by decide)) hk (fun _ h=>h.2)) (fun _ h=>h.1));replace Ad:=A_ (KeepBut.blk hk (g':=An) (o:=.cells #[.int .i64 Ae,.slice Ao11 Al.length co11] 26 (0,0)) (by (with_reducible repeat (first|refine blk_drewN ?_ _|refine blk_drew ?_|refine blk_alloc ?_ _));refine blk_put (cs:=#[.int .i64 Ae,.slice none 0 0]) ?_ 1 _ rfl;(with_reducible repeat (first|refine blk_drewN ?_ _|refine blk_drew ?_|refine blk_alloc ?_ _));refine blk_put (cs:=#[.int .i64 0,.slice none 0 0]) ?_ 0 _ rfl;(with_reducible repeat (first|refine blk_drewN ?_ _|refine blk_drew ?_|refine blk_alloc ?_ _));exact Ad.1) At.1 (by simp));replace HK:=A_ (KeepBut.trans (by repeat (with_reducible first|exact HK.1|apply KeepBut.set_|apply keep_drewN|apply keep_drew|apply keep_alloc|refine keep_far ?_ Af.1 _|refine keep_far ?_ Aj.1 _)) hk (.inl rfl));replace HB:=A_ (hb);replace HI0:=A_ (hi);(try clear hb);(try clear hb2);(try clear hk);(try clear hi)))
   go_loopg [8,9,10] k (fun kq v8 v9 v10 w'=>∃ (x8_1 : List Int) (x9_1 : List Int) (x10_1 : Int) (Aq : Int) (Ar : Int),v10 = .int .i64 x10_1 ∧ Aside0 (Aac.l0 kq Ae Ag x8_1 x9_1 x10_1 s0_0 Aq Ar Ae Al = some (r1,r2,r3,r4)) ∧ Aside0 (kq ≤ k) ∧ Aside0 (Kd.R (Kd.int .i64) 3 w' w.heap.size (fun k_=>some k_ ≠ (v9 : Value).ownBlock ∧ some k_ ≠ ((.slice Ao11 Al.length co11) : Value).ownBlock) v8 x8_1) ∧ Aside0 (Kd.R (Kd.int .i64) 3 w' w.heap.size (fun k_=>some k_ ≠ (v8 : Value).ownBlock ∧ some k_ ≠ ((.slice Ao11 Al.length co11) : Value).ownBlock) v9 x9_1) ∧ Aside0 (Kd.R (Kd.int .i64) 3 w' w.heap.size (fun k_=>some k_ ≠ (v8 : Value).ownBlock ∧ some k_ ≠ (v9 : Value).ownBlock) (.slice Ao11 Al.length co11) Al) ∧ Aside0 (w'.heap[Am]? = some (.cells #[.int .i64 0,(.slice none 0 0)] 26 (0,0))) ∧ Aside0 (w'.heap[An]? = some (.cells #[.int .i64 Ae,(.slice Ao11 Al.length co11)] 26 (0,0))) ∧ Aside0 (Aaa w0 w' g s0_0 Aq Ar) ∧ Aside0 (KeepBut w w' g none) ∧ Aside0 (Below w0.heap.size w0 w'))
   case atStart=>exact ⟨(([] : List Int)),(([] : List Int)),(0),(Cn),(Co),(by first|rfl|(simp;done)|(simp [*];done)),H',⟨Nat.le_refl _⟩,⟨by first|exact Kd.R_nil _ _ _ _ _|exact Kd.N_nil _ _ _ _ _|exact Kd.V_nil _ _ _ _ _|exact Kd.Q_nil _ _ _ _ _|exact Kd.S_nil _ _ _ _ _⟩,⟨by first|exact Kd.R_nil _ _ _ _ _|exact Kd.N_nil _ _ _ _ _|exact Kd.V_nil _ _ _ _ _|exact Kd.Q_nil _ _ _ _ _|exact Kd.S_nil _ _ _ _ _⟩,⟨rq_ (Kd.R_mono Bu.1 (fun _ hk=>⟨(by simp [Value.ownBlock]),(by simp [Value.ownBlock])⟩))⟩,⟨bl_ Ac⟩,⟨bl_ Ad⟩,⟨is_⟩,⟨by repeat (first|(with_reducible first|exact HK.1|apply KeepBut.set_|apply keep_drewN|apply keep_drew|apply keep_alloc|refine keep_far ?_ Af.1 _|refine keep_far ?_ Aj.1 _)|exact HK.1)⟩,⟨by repeat (first|(with_reducible first|exact HB.1|apply below_alloc|apply pw_below_drewN|apply below_drew1|refine below_set ?_ (Aaa.ge HI0.1)|refine below_set ?_ (Aside0.out (by assumption)))|exact HB.1)⟩⟩
   case round =>
    clear H';try clear c1
    try clear p2
    try clear c4
    try clear c4b0
    try clear c4b1
    try clear c5
    try clear c5b0
    try clear c5b1
    try clear p6
    try clear c8
    try clear c11
    try clear c13
    try clear c14
    repeat clear Z
    obtain ⟨x8_1,x9_1,x10_1,Aq,Ar,rfl,HA,HK1,HO_8,HO_9,Aa,Ac,Ad,HI0,HK,HB⟩:=hrel;cases gk with
    | zero=>exact absurd HA.1 (by simp [Aac.l0])
    | succ k1 =>
     have H:=HA.1;clear HA;simp only [Aac.l0] at H
     by_cases c17 : x10_1 < Ae
     ·rw [if_pos c17] at H;have c17b0 : decide (x10_1 < Ae) = true:=decide_eq_true c17;clear c17;replace H:=Option.bind_eq_some_iff.mp H;obtain ⟨⟨Av,Be,Bf⟩,Cz,H⟩:=H;replace H : (if x8_1.length < 17592186044416 then ((some (x8_1 ++ [Av] : List Int)).bind fun Bi=>(if Ag = 1 then ((Aah.f s0_0 Be Bf 4).bind fun Bo=>(if x9_1.length < 17592186044416 then (Aac.l0 k1 Ae Ag Bi (x9_1 ++ [wrap64 (Av + Bo.1)]) (wrap64 (x10_1 + 1)) s0_0 Bo.2.1 Bo.2.2 Ae Al) else (none))) else (if x9_1.length < 17592186044416 then (Aac.l0 k1 Ae Ag Bi (x9_1 ++ [wrap64 (Av + 2)]) (wrap64 (x10_1 + 1)) s0_0 Be Bf Ae Al) else (none)))) else (none)) = some (r1,r2,r3,r4):=H;have A18:=A_ Cz;clear Cz;by_cases c19 : x8_1.length < 17592186044416
      ·rw [if_pos c19] at H;have LMc19:=A_ c19;clear c19;obtain ⟨Bi,Bz⟩ : ∃ y_ : List Int,y_ = (x8_1 ++ [Av]):=⟨_,rfl⟩;replace H : (if Ag = 1 then ((Aah.f s0_0 Be Bf 4).bind fun Bo=>(if x9_1.length < 17592186044416 then (Aac.l0 k1 Ae Ag Bi (x9_1 ++ [wrap64 (Av + Bo.1)]) (wrap64 (x10_1 + 1)) s0_0 Bo.2.1 Bo.2.2 Ae Al) else (none))) else (if x9_1.length < 17592186044416 then (Aac.l0 k1 Ae Ag Bi (x9_1 ++ [wrap64 (Av + 2)]) (wrap64 (x10_1 + 1)) s0_0 Be Bf Ae Al) else (none))) = some (r1,r2,r3,r4):=by first|(rw [Bz];with_reducible exact H)|(have H2_:=(Option.bind_some _ _).symm.trans H;rw [Bz];with_reducible exact H2_)|(have H2_:=(Option.bind_some _ _).symm.trans H;with_reducible exact H2_)|with_reducible exact H|(rw [Bz];exact H)|exact H
       have Cw:=A_ Bz;clear Bz;by_cases c20 : Ag = 1
       ·rw [if_pos c20] at H;have c20b0 : (Ag == 1) = true:=beq_iff_eq.mpr c20;have c20b1 : (Ag != 1) = false:=bne_eq_false_iff_eq.mpr c20;clear c20;replace H:=Option.bind_eq_some_iff.mp H;obtain ⟨⟨Cd,Cg,Ch⟩,C0,H⟩:=H;replace H : (if x9_1.length < 17592186044416 then (Aac.l0 k1 Ae Ag Bi (x9_1 ++ [wrap64 (Av + Cd)]) (wrap64 (x10_1 + 1)) s0_0 Cg Ch Ae Al) else (none)) = some (r1,r2,r3,r4):=H;have A21:=A_ C0;clear C0;by_cases c22 : x9_1.length < 17592186044416
        ·rw [if_pos c22] at H;have LMc22:=A_ c22;clear c22;obtain ⟨C1,B0⟩ : ∃ y_ : List Int,y_ = (x9_1 ++ [wrap64 (Av + Cd)]):=⟨_,rfl⟩;replace H : (Aac.l0 k1 Ae Ag Bi C1 (wrap64 (x10_1 + 1)) s0_0 Cg Ch Ae Al) = some (r1,r2,r3,r4):=by first|(rw [B0];with_reducible exact H)|(have H2_:=(Option.bind_some _ _).symm.trans H;rw [B0];with_reducible exact H2_)|(have H2_:=(Option.bind_some _ _).symm.trans H;with_reducible exact H2_)|with_reducible exact H|(rw [B0];exact H)|exact H
         have Db:=A_ B0;clear B0;have H':=A_ H;clear H;go_wp2_with (first|((with_reducible refine gate_callee (f:=81) rfl ?_);refine goesL_ (some 32) rfl rfl Tryd.func81 (by kernel_rfl) rfl #[.pointer (some ⟨g,0,none⟩),.int .i64 8] rfl au_ ?_;(with_reducible refine (Aah.calls g s0_0 Aq Ar 8 Av Be Bf w0 _ ?side1 ?side2 A18.1).mono ?_);(case side1=>exact is_);(case side2=>repeat (first|(with_reducible first|exact HB.1|apply below_alloc|apply pw_below_drewN|apply below_drew1|refine below_set ?_ (Aaa.ge HI0.1)|refine below_set ?_ (Aside0.out (by assumption)))|exact HB.1));rintro e w23 ⟨rfl,hi,hb,hk⟩;refine ⟨_,rfl,?_⟩;replace HO_8:=A_ (Kd.R_mono (Kd.R_keep (Aaa.apart (show Aaa w0 _ g s0_0 Aq Ar from is_) (rl_ HO_8) (by decide)) hk (fun _ h=>h.2)) (fun _ h=>h.1));replace HO_9:=A_ (Kd.R_mono (Kd.R_keep (Aaa.apart (show Aaa w0 _ g s0_0 Aq Ar from is_) (rl_ HO_9) (by decide)) hk (fun _ h=>h.2)) (fun _ h=>h.1));replace Aa:=A_ (Kd.R_mono (Kd.R_keep (Aaa.apart (show Aaa w0 _ g s0_0 Aq Ar from is_) (rl_ Aa) (by decide)) hk (fun _ h=>h.2)) (fun _ h=>h.1));replace Ac:=A_ (KeepBut.blk hk (g':=Am) (o:=.cells #[.int .i64 0,.slice none 0 0] 26 (0,0)) (bl_ Ac) As.1 (by simp));replace Ad:=A_ (KeepBut.blk hk (g':=An) (o:=.cells #[.int .i64 Ae,.slice Ao11 Al.length co11] 26 (0,0)) (bl_ Ad) At.1 (by simp));replace HK:=A_ (KeepBut.trans (by repeat (with_reducible first|exact HK.1|apply KeepBut.set_|apply keep_drewN|apply keep_drew|apply keep_alloc|refine keep_far ?_ Af.1 _|refine keep_far ?_ Aj.1 _)) hk (.inl rfl));replace HB:=A_ (hb);replace HI0:=A_ (hi);(try clear hb);(try clear hb2);(try clear hk);(try clear hi))|((with_reducible refine gate_builtin (b:=.append) (xs:=#[.tmp 33,.tmp 35]) rfl ?_);at_builtin;refine Kd.R_append (Kd.int .i64) w.heap.size rfl (.tmp 33) (.tmp 35) 24 3 (.int .i64 0) 8 rfl Tryd.underlying24 info3 rfl (by decide) (by omega) u8 x8_1 Av [.int .i64 Av] (fun k_=>some k_ ≠ (u9 : Value).ownBlock ∧ some k_ ≠ (.slice Ao11 Al.length co11 : Value).ownBlock) (fun _=>False) rfl rfl ?aP (fun _ hk=>hk.elim) ?aF ?aO (Below.refl _ _) ?aS ?aL ?_;(case aP=>exact rfl);(case aF=>exact (fun k_ hk=>⟨Kd.fresh' (Kd.R_lt (rl_ HO_9)) k_ hk,Kd.fresh' (Kd.R_lt (rl_ Aa)) k_ hk⟩));(case aO=>exact (rl_ HO_8));(case aS=>exact (keep_size (w:=w) (g:=g) (row:=none) (by repeat (with_reducible first|exact HK.1|apply KeepBut.set_|apply keep_drewN|apply keep_drew|apply keep_alloc|refine keep_far ?_ Af.1 _|refine keep_far ?_ Aj.1 _))));(case aL=>have:=LMc19.1;omega);intro Ce w24 ho hb hg hat;rw [← Cw.1] at ho;replace HO_9:=A_ (Kd.R_after (ok:=(fun k_=>some k_ ≠ (.slice Ao11 Al.length co11 : Value).ownBlock)) (rq_ (Kd.R_mono HO_9.1 (fun _ hk=>⟨hk.2,hk.1⟩))) hg hat);replace Aa:=A_ (Kd.R_after (ok:=(fun k_=>some k_ ≠ (u9 : Value).ownBlock)) (rq_ (Kd.R_mono Aa.1 (fun _ hk=>⟨hk.2,hk.1⟩))) hg hat);replace Ac:=A_ (blk_grown (g:=Am) (o:=.cells #[.int .i64 0,.slice none 0 0] 26 (0,0)) (bl_ Ac) hg (Kd.R_ne HO_8.1 Ac.1 (by decide)));replace Ad:=A_ (blk_grown (g:=An) (o:=.cells #[.int .i64 Ae,.slice Ao11 Al.length co11] 26 (0,0)) (bl_ Ad) hg (Kd.R_ne HO_8.1 Ad.1 (by decide)));replace HB:=A_ (below_weaken (by repeat (with_reducible first|exact HB.1|apply below_alloc|apply pw_below_drewN|apply below_drew1|refine below_set ?_ (Aaa.ge HI0.1)|refine below_set ?_ (Aside0.out (by assumption)))) HL.1 hb);replace HI0:=A_ (Aaa.grown (is_) hg (Aaa.own_ne HI0.1 HO_8.1 (by decide)));replace HK:=A_ (KeepBut.trans (by repeat (with_reducible first|exact HK.1|apply KeepBut.set_|apply keep_drewN|apply keep_drew|apply keep_alloc|refine keep_far ?_ Af.1 _|refine keep_far ?_ Aj.1 _)) (KeepBut.of_grown hg g) (Kd.R_base2 HO_8.1));have Ba:=A_ (ho);clear HO_8;clear ho hb hg hat)|((with_reducible refine gate_callee (f:=81) rfl ?_);refine goesL_ (some 42) rfl rfl Tryd.func81 (by kernel_rfl) rfl #[.pointer (some ⟨g,0,none⟩),.int .i64 4] rfl au_ ?_;(with_reducible refine (Aah.calls g s0_0 Be Bf 4 Cd Cg Ch w0 _ ?side1 ?side2 A21.1).mono ?_);(case side1=>exact is_);(case side2=>repeat (first|(with_reducible first|exact HB.1|apply below_alloc|apply pw_below_drewN|apply below_drew1|refine below_set ?_ (Aaa.ge HI0.1)|refine below_set ?_ (Aside0.out (by assumption)))|exact HB.1));rintro e w25 ⟨rfl,hi,hb,hk⟩;refine ⟨_,rfl,?_⟩;replace HO_9:=A_ (Kd.R_mono (Kd.R_keep (Aaa.apart (show Aaa w0 _ g s0_0 Be Bf from is_) (rl_ HO_9) (by decide)) hk (fun _ h=>h.2)) (fun _ h=>h.1));replace Aa:=A_ (Kd.R_mono (Kd.R_keep (Aaa.apart (show Aaa w0 _ g s0_0 Be Bf from is_) (rl_ Aa) (by decide)) hk (fun _ h=>h.2)) (fun _ h=>h.1));replace Ac:=A_ (KeepBut.blk hk (g':=Am) (o:=.cells #[.int .i64 0,.slice none 0 0] 26 (0,0)) (bl_ Ac) As.1 (by simp));replace Ad:=A_ (KeepBut.blk hk (g':=An) (o:=.cells #[.int .i64 Ae,.slice Ao11 Al.length co11] 26 (0,0)) (bl_ Ad) At.1 (by simp));replace Ba:=A_ (Kd.R_mono (Kd.R_keep (Aaa.apart (show Aaa w0 _ g s0_0 Be Bf from is_) (rl_ Ba) (by decide)) hk (fun _ h=>h.2)) (fun _ h=>h.1));replace HK:=A_ (KeepBut.trans (by repeat (with_reducible first|exact HK.1|apply KeepBut.set_|apply keep_drewN|apply keep_drew|apply keep_alloc|refine keep_far ?_ Af.1 _|refine keep_far ?_ Aj.1 _)) hk (.inl rfl));replace HB:=A_ (hb);replace HI0:=A_ (hi);(try clear hb);(try clear hb2);(try clear hk);(try clear hi))|((with_reducible refine gate_builtin (b:=.append) (xs:=#[.tmp 39,.tmp 44]) rfl ?_);at_builtin;refine Kd.R_append (Kd.int .i64) w.heap.size rfl (.tmp 39) (.tmp 44) 24 3 (.int .i64 0) 8 rfl Tryd.underlying24 info3 rfl (by decide) (by omega) u9 x9_1 (wrap64 (Av + Cd)) [.int .i64 (wrap64 (Av + Cd))] (fun k_=>some k_ ≠ (.slice Ao11 Al.length co11 : Value).ownBlock ∧ some k_ ≠ (Ce : Value).ownBlock) (fun _=>False) rfl rfl ?aP (fun _ hk=>hk.elim) ?aF ?aO (Below.refl _ _) ?aS ?aL ?_;(case aP=>exact rfl);(case aF=>exact (fun k_ hk=>⟨Kd.fresh' (Kd.R_lt (rl_ Aa)) k_ hk,Kd.fresh' (Kd.R_lt (rl_ Ba)) k_ hk⟩));(case aO=>exact (rl_ HO_9));(case aS=>exact (keep_size (w:=w) (g:=g) (row:=none) (by repeat (with_reducible first|exact HK.1|apply KeepBut.set_|apply keep_drewN|apply keep_drew|apply keep_alloc|refine keep_far ?_ Af.1 _|refine keep_far ?_ Aj.1 _))));(case aL=>have:=LMc22.1;omega);intro Dy w26 ho hb hg hat;rw [← Db.1] at ho;replace Aa:=A_ (Kd.R_after (ok:=(fun k_=>some k_ ≠ (Ce : Value).ownBlock)) (rq_ (Kd.R_mono Aa.1 (fun _ hk=>⟨hk.2,hk.1⟩))) hg hat);replace Ac:=A_ (blk_grown (g:=Am) (o:=.cells #[.int .i64 0,.slice none 0 0] 26 (0,0)) (bl_ Ac) hg (Kd.R_ne HO_9.1 Ac.1 (by decide)));replace Ad:=A_ (blk_grown (g:=An) (o:=.cells #[.int .i64 Ae,.slice Ao11 Al.length co11] 26 (0,0)) (bl_ Ad) hg (Kd.R_ne HO_9.1 Ad.1 (by decide)));replace Ba:=A_ (Kd.R_after (ok:=(fun k_=>some k_ ≠ (.slice Ao11 Al.length co11 : Value).ownBlock)) (rq_ (Kd.R_mono Ba.1 (fun _ hk=>⟨hk.2,hk.1⟩))) hg hat);replace HB:=A_ (below_weaken (by repeat (with_reducible first|exact HB.1|apply below_alloc|apply pw_below_drewN|apply below_drew1|refine below_set ?_ (Aaa.ge HI0.1)|refine below_set ?_ (Aside0.out (by assumption)))) HL.1 hb);replace HI0:=A_ (Aaa.grown (is_) hg (Aaa.own_ne HI0.1 HO_9.1 (by decide)));replace HK:=A_ (KeepBut.trans (by repeat (with_reducible first|exact HK.1|apply KeepBut.set_|apply keep_drewN|apply keep_drew|apply keep_alloc|refine keep_far ?_ Af.1 _|refine keep_far ?_ Aj.1 _)) (KeepBut.of_grown hg g) (Kd.R_base2 HO_9.1));have Dc:=A_ (ho);clear HO_9;clear ho hb hg hat))
         go_roundg k1
         case measure=>have:=HK1.1;omega
         case rel=>exact ⟨(Bi),(C1),(wrap64 (x10_1 + 1)),(Cg),(Ch),(by first|rfl|(simp;done)|(simp [*];done)),H',⟨by have:=HK1.1;omega⟩,⟨rq_ (Kd.R_mono Ba.1 (fun _ hk=>⟨hk.2,hk.1⟩))⟩,⟨rq_ (Kd.R_mono Dc.1 (fun _ hk=>⟨hk.2,hk.1⟩))⟩,⟨rl_ Aa⟩,⟨bl_ Ac⟩,⟨bl_ Ad⟩,⟨is_⟩,⟨by repeat (first|(with_reducible first|exact HK.1|apply KeepBut.set_|apply keep_drewN|apply keep_drew|apply keep_alloc|refine keep_far ?_ Af.1 _|refine keep_far ?_ Aj.1 _)|exact HK.1)⟩,⟨by repeat (first|(with_reducible first|exact HB.1|apply below_alloc|apply pw_below_drewN|apply below_drew1|refine below_set ?_ (Aaa.ge HI0.1)|refine below_set ?_ (Aside0.out (by assumption)))|exact HB.1)⟩⟩
        ·rw [if_neg c22] at H;exact absurd H (by simp)
       ·rw [if_neg c20] at H;have c20b0 : (Ag == 1) = false:=beq_eq_false_iff_ne.mpr c20;have c20b1 : (Ag != 1) = true:=bne_iff_ne.mpr c20;by_cases c27 : x9_1.length < 17592186044416
        ·rw [if_pos c27] at H;have LMc27:=A_ c27;clear c27;obtain ⟨C2,B2⟩ : ∃ y_ : List Int,y_ = (x9_1 ++ [wrap64 (Av + 2)]):=⟨_,rfl⟩;replace H : (Aac.l0 k1 Ae Ag Bi C2 (wrap64 (x10_1 + 1)) s0_0 Be Bf Ae Al) = some (r1,r2,r3,r4):=by first|(rw [B2];with_reducible exact H)|(have H2_:=(Option.bind_some _ _).symm.trans H;rw [B2];with_reducible exact H2_)|(have H2_:=(Option.bind_some _ _).symm.trans H;with_reducible exact H2_)|with_reducible exact H|(rw [B2];exact H)|exact H
         have Dd:=A_ B2;clear B2;have H':=A_ H;clear H;go_wp2_with (first|((with_reducible refine gate_callee (f:=81) rfl ?_);refine goesL_ (some 32) rfl rfl Tryd.func81 (by kernel_rfl) rfl #[.pointer (some ⟨g,0,none⟩),.int .i64 8] rfl au_ ?_;(with_reducible refine (Aah.calls g s0_0 Aq Ar 8 Av Be Bf w0 _ ?side1 ?side2 A18.1).mono ?_);(case side1=>exact is_);(case side2=>repeat (first|(with_reducible first|exact HB.1|apply below_alloc|apply pw_below_drewN|apply below_drew1|refine below_set ?_ (Aaa.ge HI0.1)|refine below_set ?_ (Aside0.out (by assumption)))|exact HB.1));rintro e w28 ⟨rfl,hi,hb,hk⟩;refine ⟨_,rfl,?_⟩;replace HO_8:=A_ (Kd.R_mono (Kd.R_keep (Aaa.apart (show Aaa w0 _ g s0_0 Aq Ar from is_) (rl_ HO_8) (by decide)) hk (fun _ h=>h.2)) (fun _ h=>h.1));replace HO_9:=A_ (Kd.R_mono (Kd.R_keep (Aaa.apart (show Aaa w0 _ g s0_0 Aq Ar from is_) (rl_ HO_9) (by decide)) hk (fun _ h=>h.2)) (fun _ h=>h.1));replace Aa:=A_ (Kd.R_mono (Kd.R_keep (Aaa.apart (show Aaa w0 _ g s0_0 Aq Ar from is_) (rl_ Aa) (by decide)) hk (fun _ h=>h.2)) (fun _ h=>h.1));replace Ac:=A_ (KeepBut.blk hk (g':=Am) (o:=.cells #[.int .i64 0,.slice none 0 0] 26 (0,0)) (bl_ Ac) As.1 (by simp));replace Ad:=A_ (KeepBut.blk hk (g':=An) (o:=.cells #[.int .i64 Ae,.slice Ao11 Al.length co11] 26 (0,0)) (bl_ Ad) At.1 (by simp));replace HK:=A_ (KeepBut.trans (by repeat (with_reducible first|exact HK.1|apply KeepBut.set_|apply keep_drewN|apply keep_drew|apply keep_alloc|refine keep_far ?_ Af.1 _|refine keep_far ?_ Aj.1 _)) hk (.inl rfl));replace HB:=A_ (hb);replace HI0:=A_ (hi);(try clear hb);(try clear hb2);(try clear hk);(try clear hi))|((with_reducible refine gate_builtin (b:=.append) (xs:=#[.tmp 33,.tmp 35]) rfl ?_);at_builtin;refine Kd.R_append (Kd.int .i64) w.heap.size rfl (.tmp 33) (.tmp 35) 24 3 (.int .i64 0) 8 rfl Tryd.underlying24 info3 rfl (by decide) (by omega) u8 x8_1 Av [.int .i64 Av] (fun k_=>some k_ ≠ (u9 : Value).ownBlock ∧ some k_ ≠ (.slice Ao11 Al.length co11 : Value).ownBlock) (fun _=>False) rfl rfl ?aP (fun _ hk=>hk.elim) ?aF ?aO (Below.refl _ _) ?aS ?aL ?_;(case aP=>exact rfl);(case aF=>exact (fun k_ hk=>⟨Kd.fresh' (Kd.R_lt (rl_ HO_9)) k_ hk,Kd.fresh' (Kd.R_lt (rl_ Aa)) k_ hk⟩));(case aO=>exact (rl_ HO_8));(case aS=>exact (keep_size (w:=w) (g:=g) (row:=none) (by repeat (with_reducible first|exact HK.1|apply KeepBut.set_|apply keep_drewN|apply keep_drew|apply keep_alloc|refine keep_far ?_ Af.1 _|refine keep_far ?_ Aj.1 _))));(case aL=>have:=LMc19.1;omega);intro Ce w29 ho hb hg hat;rw [← Cw.1] at ho;replace HO_9:=A_ (Kd.R_after (ok:=(fun k_=>some k_ ≠ (.slice Ao11 Al.length co11 : Value).ownBlock)) (rq_ (Kd.R_mono HO_9.1 (fun _ hk=>⟨hk.2,hk.1⟩))) hg hat);replace Aa:=A_ (Kd.R_after (ok:=(fun k_=>some k_ ≠ (u9 : Value).ownBlock)) (rq_ (Kd.R_mono Aa.1 (fun _ hk=>⟨hk.2,hk.1⟩))) hg hat);replace Ac:=A_ (blk_grown (g:=Am) (o:=.cells #[.int .i64 0,.slice none 0 0] 26 (0,0)) (bl_ Ac) hg (Kd.R_ne HO_8.1 Ac.1 (by decide)));replace Ad:=A_ (blk_grown (g:=An) (o:=.cells #[.int .i64 Ae,.slice Ao11 Al.length co11] 26 (0,0)) (bl_ Ad) hg (Kd.R_ne HO_8.1 Ad.1 (by decide)));replace HB:=A_ (below_weaken (by repeat (with_reducible first|exact HB.1|apply below_alloc|apply pw_below_drewN|apply below_drew1|refine below_set ?_ (Aaa.ge HI0.1)|refine below_set ?_ (Aside0.out (by assumption)))) HL.1 hb);replace HI0:=A_ (Aaa.grown (is_) hg (Aaa.own_ne HI0.1 HO_8.1 (by decide)));replace HK:=A_ (KeepBut.trans (by repeat (with_reducible first|exact HK.1|apply KeepBut.set_|apply keep_drewN|apply keep_drew|apply keep_alloc|refine keep_far ?_ Af.1 _|refine keep_far ?_ Aj.1 _)) (KeepBut.of_grown hg g) (Kd.R_base2 HO_8.1));have Ba:=A_ (ho);clear HO_8;clear ho hb hg hat)|((with_reducible refine gate_builtin (b:=.append) (xs:=#[.tmp 46,.tmp 49]) rfl ?_);at_builtin;refine Kd.R_append (Kd.int .i64) w.heap.size rfl (.tmp 46) (.tmp 49) 24 3 (.int .i64 0) 8 rfl Tryd.underlying24 info3 rfl (by decide) (by omega) u9 x9_1 (wrap64 (Av + 2)) [.int .i64 (wrap64 (Av + 2))] (fun k_=>some k_ ≠ (.slice Ao11 Al.length co11 : Value).ownBlock ∧ some k_ ≠ (Ce : Value).ownBlock) (fun _=>False) rfl rfl ?aP (fun _ hk=>hk.elim) ?aF ?aO (Below.refl _ _) ?aS ?aL ?_;(case aP=>exact rfl);(case aF=>exact (fun k_ hk=>⟨Kd.fresh' (Kd.R_lt (rl_ Aa)) k_ hk,Kd.fresh' (Kd.R_lt (rl_ Ba)) k_ hk⟩));(case aO=>exact (rl_ HO_9));(case aS=>exact (keep_size (w:=w) (g:=g) (row:=none) (by repeat (with_reducible first|exact HK.1|apply KeepBut.set_|apply keep_drewN|apply keep_drew|apply keep_alloc|refine keep_far ?_ Af.1 _|refine keep_far ?_ Aj.1 _))));(case aL=>have:=LMc27.1;omega);intro Dz w30 ho hb hg hat;rw [← Dd.1] at ho;replace Aa:=A_ (Kd.R_after (ok:=(fun k_=>some k_ ≠ (Ce : Value).ownBlock)) (rq_ (Kd.R_mono Aa.1 (fun _ hk=>⟨hk.2,hk.1⟩))) hg hat);replace Ac:=A_ (blk_grown (g:=Am) (o:=.cells #[.int .i64 0,.slice none 0 0] 26 (0,0)) (bl_ Ac) hg (Kd.R_ne HO_9.1 Ac.1 (by decide)));replace Ad:=A_ (blk_grown (g:=An) (o:=.cells #[.int .i64 Ae,.slice Ao11 Al.length co11] 26 (0,0)) (bl_ Ad) hg (Kd.R_ne HO_9.1 Ad.1 (by decide)));replace Ba:=A_ (Kd.R_after (ok:=(fun k_=>some k_ ≠ (.slice Ao11 Al.length co11 : Value).ownBlock)) (rq_ (Kd.R_mono Ba.1 (fun _ hk=>⟨hk.2,hk.1⟩))) hg hat);replace HB:=A_ (below_weaken (by repeat (with_reducible first|exact HB.1|apply below_alloc|apply pw_below_drewN|apply below_drew1|refine below_set ?_ (Aaa.ge HI0.1)|refine below_set ?_ (Aside0.out (by assumption)))) HL.1 hb);replace HI0:=A_ (Aaa.grown (is_) hg (Aaa.own_ne HI0.1 HO_9.1 (by decide)));replace HK:=A_ (KeepBut.trans (by repeat (with_reducible first|exact HK.1|apply KeepBut.set_|apply keep_drewN|apply keep_drew|apply keep_alloc|refine keep_far ?_ Af.1 _|refine keep_far ?_ Aj.1 _)) (KeepBut.of_grown hg g) (Kd.R_base2 HO_9.1));have De:=A_ (ho);clear HO_9;clear ho hb hg hat))
         go_roundg k1
         case measure=>have:=HK1.1;omega
         case rel=>exact ⟨(Bi),(C2),(wrap64 (x10_1 + 1)),(Be),(Bf),(by first|rfl|(simp;done)|(simp [*];done)),H',⟨by have:=HK1.1;omega⟩,⟨rq_ (Kd.R_mono Ba.1 (fun _ hk=>⟨hk.2,hk.1⟩))⟩,⟨rq_ (Kd.R_mono De.1 (fun _ hk=>⟨hk.2,hk.1⟩))⟩,⟨rl_ Aa⟩,⟨bl_ Ac⟩,⟨bl_ Ad⟩,⟨is_⟩,⟨by repeat (first|(with_reducible first|exact HK.1|apply KeepBut.set_|apply keep_drewN|apply keep_drew|apply keep_alloc|refine keep_far ?_ Af.1 _|refine keep_far ?_ Aj.1 _)|exact HK.1)⟩,⟨by repeat (first|(with_reducible first|exact HB.1|apply below_alloc|apply pw_below_drewN|apply below_drew1|refine below_set ?_ (Aaa.ge HI0.1)|refine below_set ?_ (Aside0.out (by assumption)))|exact HB.1)⟩⟩
        ·rw [if_neg c27] at H;exact absurd H (by simp)
      ·rw [if_neg c19] at H;exact absurd H (by simp)
     ·rw [if_neg c17] at H;have c17b0 : decide (x10_1 < Ae) = false:=decide_eq_false c17;clear c17;have H':=A_ H;clear H;go_wp2
      go_loopg [12] k1 (fun kq v12 w'=>∃ (x8_2 : List Int) (x9_2 : List Int) (x12_2 : Int) (Bb : Int) (Bc : Int) (Au : List Int) (Ak : Value),v12 = .int .i64 x12_2 ∧ Aside0 (Aac.l1 kq Ae Ag x8_2 x9_2 x12_2 s0_0 Bb Bc Ae Au = some (r1,r2,r3,r4)) ∧ Aside0 (kq ≤ k1) ∧ Aside0 (Kd.R (Kd.int .i64) 3 w' w.heap.size (fun k_=>some k_ ≠ (u9 : Value).ownBlock ∧ some k_ ≠ (Ak : Value).ownBlock) u8 x8_2) ∧ Aside0 (Kd.R (Kd.int .i64) 3 w' w.heap.size (fun k_=>some k_ ≠ (u8 : Value).ownBlock ∧ some k_ ≠ (Ak : Value).ownBlock) u9 x9_2) ∧ Aside0 (Kd.R (Kd.int .i64) 3 w' w.heap.size (fun k_=>some k_ ≠ (u8 : Value).ownBlock ∧ some k_ ≠ (u9 : Value).ownBlock) Ak Au) ∧ Aside0 (w'.heap[Am]? = some (.cells #[.int .i64 0,(.slice none 0 0)] 26 (0,0))) ∧ Aside0 (w'.heap[An]? = some (.cells #[.int .i64 Ae,Ak] 26 (0,0))) ∧ Aside0 (Aaa w0 w' g s0_0 Bb Bc) ∧ Aside0 (KeepBut w w' g none) ∧ Aside0 (Below w0.heap.size w0 w'))
      case atStart=>exact ⟨(x8_1),(x9_1),(0),(Aq),(Ar),(Al),(.slice Ao11 Al.length co11),(by first|rfl|(simp;done)|(simp [*];done)),H',⟨Nat.le_refl _⟩,⟨rl_ HO_8⟩,⟨rl_ HO_9⟩,⟨rl_ Aa⟩,⟨bl_ Ac⟩,⟨bl_ Ad⟩,⟨is_⟩,⟨by repeat (first|(with_reducible first|exact HK.1|apply KeepBut.set_|apply keep_drewN|apply keep_drew|apply keep_alloc|refine keep_far ?_ Af.1 _|refine keep_far ?_ Aj.1 _)|exact HK.1)⟩,⟨by repeat (first|(with_reducible first|exact HB.1|apply below_alloc|apply pw_below_drewN|apply below_drew1|refine below_set ?_ (Aaa.ge HI0.1)|refine below_set ?_ (Aside0.out (by assumption)))|exact HB.1)⟩⟩
      case round =>
       clear H';try clear c1
       try clear c2
       try clear p2
       try clear c4
       try clear c4b0
       try clear c4b1
       try clear c5
       try clear c5b0
       try clear c5b1
       try clear p6
       try clear c8
       try clear c11
       try clear c13
       try clear c14
       try clear c17
       try clear c17b0
       try clear c19
       try clear c20
       try clear c20b0
       try clear c20b1
       try clear c22
       try clear c27
       repeat clear Z
       try clear p2
       try clear p6
       obtain ⟨x8_2,x9_2,x12_2,Bb,Bc,Au,Ak,rfl,HA,HK2,HO_8,HO_9,Aa,Ac,Ad,HI0,HK,HB⟩:=hrel;cases gk with
       | zero=>exact absurd HA.1 (by simp [Aac.l1])
       | succ k2 =>
        have H:=HA.1;clear HA;simp only [Aac.l1] at H
        by_cases c31 : x12_2 < Ae
        ·rw [if_pos c31] at H;have c31b0 : decide (x12_2 < Ae) = true:=decide_eq_true c31;clear c31;have H':=A_ H;clear H;go_wp2
         go_loopg [13] k2 (fun kq v13 w'=>∃ (x8_3 : List Int) (x9_3 : List Int) (x13_3 : Int) (Ah : Int) (Ai : Int) (Ab : List Int) (Ak : Value),v13 = .int .i64 x13_3 ∧ Aside0 (Aac.l2 kq Ae Ag x8_3 x9_3 x12_2 x13_3 s0_0 Ah Ai Ae Ab = some (r1,r2,r3,r4)) ∧ Aside0 (kq ≤ k2) ∧ Aside0 (Kd.R (Kd.int .i64) 3 w' w.heap.size (fun k_=>some k_ ≠ (u9 : Value).ownBlock ∧ some k_ ≠ (Ak : Value).ownBlock) u8 x8_3) ∧ Aside0 (Kd.R (Kd.int .i64) 3 w' w.heap.size (fun k_=>some k_ ≠ (u8 : Value).ownBlock ∧ some k_ ≠ (Ak : Value).ownBlock) u9 x9_3) ∧ Aside0 (Kd.R (Kd.int .i64) 3 w' w.heap.size (fun k_=>some k_ ≠ (u8 : Value).ownBlock ∧ some k_ ≠ (u9 : Value).ownBlock) Ak Ab) ∧ Aside0 (w'.heap[Am]? = some (.cells #[.int .i64 0,(.slice none 0 0)] 26 (0,0))) ∧ Aside0 (w'.heap[An]? = some (.cells #[.int .i64 Ae,Ak] 26 (0,0))) ∧ Aside0 (Aaa w0 w' g s0_0 Ah Ai) ∧ Aside0 (KeepBut w w' g none) ∧ Aside0 (Below w0.heap.size w0 w'))
         case atStart=>exact ⟨(x8_2),(x9_2),(0),(Bb),(Bc),(Au),(Ak),(by first|rfl|(simp;done)|(simp [*];done)),H',⟨Nat.le_refl _⟩,⟨rl_ HO_8⟩,⟨rl_ HO_9⟩,⟨rl_ Aa⟩,⟨bl_ Ac⟩,⟨bl_ Ad⟩,⟨is_⟩,⟨by repeat (first|(with_reducible first|exact HK.1|apply KeepBut.set_|apply keep_drewN|apply keep_drew|apply keep_alloc|refine keep_far ?_ Af.1 _|refine keep_far ?_ Aj.1 _)|exact HK.1)⟩,⟨by repeat (first|(with_reducible first|exact HB.1|apply below_alloc|apply pw_below_drewN|apply below_drew1|refine below_set ?_ (Aaa.ge HI0.1)|refine below_set ?_ (Aside0.out (by assumption)))|exact HB.1)⟩⟩
         case round =>
          clear H';try clear c1
          try clear c2
          try clear p2
          try clear c3
          try clear c4
          try clear c4b0
          try clear c4b1
          try clear c5
          try clear c5b0
          try clear c5b1
          try clear p6
          try clear c8
          try clear c11
          try clear c13
          try clear c14
          try clear c17
          try clear c17b0
          try clear c19
          try clear c20
          try clear c20b0
          try clear c20b1
          try clear c22
          try clear c27
          try clear c31
          try clear c31b0
          repeat clear Z
          try clear p2
          try clear p6
          obtain ⟨x8_3,x9_3,x13_3,Ah,Ai,Ab,Ak,rfl,HA,HK3,HO_8,HO_9,Aa,Ac,Ad,HI0,HK,HB⟩:=hrel;cases gk with
          | zero=>exact absurd HA.1 (by simp [Aac.l2])
          | succ k3 =>
           have H:=HA.1;clear HA;simp only [Aac.l2] at H
           by_cases c32 : x13_3 < Ae
           ·rw [if_pos c32] at H;have c32b0 : decide (x13_3 < Ae) = true:=decide_eq_true c32;clear c32;by_cases c33 : Ag > 0
            ·rw [if_pos c33] at H;have c33b0 : decide (0 < Ag) = true:=decide_eq_true c33;clear c33;by_cases c34 : 0 ≤ x12_2
             ·rw [if_pos c34] at H;have c34b0 : decide (0 ≤ x12_2) = true:=decide_eq_true c34;clear c34;by_cases c35 : x12_2 < (x9_3.length : Int)
              ·rw [if_pos c35] at H;have c35b0 : decide (x12_2 < (x9_3.length : Int)) = true:=decide_eq_true c35;clear c35;by_cases c36 : 0 ≤ x13_3
               ·rw [if_pos c36] at H;have c36b0 : decide (0 ≤ x13_3) = true:=decide_eq_true c36;clear c36;by_cases c37 : x13_3 < (x8_3.length : Int)
                ·rw [if_pos c37] at H;have c37b0 : decide (x13_3 < (x8_3.length : Int)) = true:=decide_eq_true c37;clear c37;by_cases c38 : (rd x9_3 x12_2) < (rd x8_3 x13_3)
                 ·rw [if_pos c38] at H;have c38b0 : decide ((rd x9_3 x12_2) < (rd x8_3 x13_3)) = true:=decide_eq_true c38;clear c38;by_cases c39 : x12_2 < (Ab.length : Int)
                  ·rw [if_pos c39] at H;have c39b0 : decide (x12_2 < (Ab.length : Int)) = true:=decide_eq_true c39;clear c39;have c40b0:=eq_true (of_decide_eq_true (by first|(with_reducible assumption)|assumption) : 0 ≤ x13_3);obtain ⟨ji41,hji41⟩ : ∃ j_ : Int,(shl .i64 1 x13_3) = j_:=⟨_,rfl⟩;replace H : (Aac.l2 k3 Ae Ag x8_3 x9_3 x12_2 (wrap64 (x13_3 + 1)) s0_0 Ah Ai Ae (Ab.set (x12_2 : Int).toNat (Go.bits .or .i64 (rd Ab x12_2) (ji41)))) = some (r1,r2,r3,r4):=by first|(rw [hji41] at H;exact H)|(simp only [hji41] at H ⊢;exact H)
                   have hji41_ : (IntKind.i64.wrap (1 * 2 ^ min x13_3.toNat 64)) = ji41:=hji41;have hji41z : x13_3 ≤ 64 → (IntKind.i64.wrap (1 * 2 ^ x13_3.toNat)) = ji41:=shl_small hji41;have hji41u : (IntKind.i64.wrap (2 ^ min x13_3.toNat 64)) = ji41:=by have h_:=hji41_;rw [Int.one_mul] at h_;exact h_
                   have hji41v : x13_3 ≤ 64 → (IntKind.i64.wrap (2 ^ x13_3.toNat)) = ji41:=fun hle_=>by have h_:=hji41z hle_;rw [Int.one_mul] at h_;exact h_
                   have hji41y : (wrap64 (1 * 2 ^ min x13_3.toNat 64)) = ji41:=(i64_w _).symm.trans hji41_;have hji41x : x13_3 ≤ 64 → (wrap64 (1 * 2 ^ x13_3.toNat)) = ji41:=fun h_=>(i64_w _).symm.trans (hji41z h_)
                   obtain ⟨C3,B4⟩ : ∃ y_ : List Int,y_ = (Ab.set (x12_2 : Int).toNat (Go.bits .or .i64 (rd Ab x12_2) (ji41))):=⟨_,rfl⟩;replace H : (Aac.l2 k3 Ae Ag x8_3 x9_3 x12_2 (wrap64 (x13_3 + 1)) s0_0 Ah Ai Ae C3) = some (r1,r2,r3,r4):=by first|(rw [B4];with_reducible exact H)|(have H2_:=(Option.bind_some _ _).symm.trans H;rw [B4];with_reducible exact H2_)|(have H2_:=(Option.bind_some _ _).symm.trans H;with_reducible exact H2_)|with_reducible exact H|(rw [B4];exact H)|exact H
                   have Df:=A_ B4;clear B4;have H':=A_ H;clear H;try go_wp2
                   replace HO_8:=A_ (Kd.R_drew HO_8.1);replace HO_9:=A_ (Kd.R_drew HO_9.1);replace Aa:=A_ (Kd.R_drew Aa.1);replace Ac:=A_ (blk_drew Ac.1);replace Ad:=A_ (blk_drew Ad.1);replace HI0:=A_ (Aaa.drew HI0.1);replace HK:=A_ (keep_drew HK.1);replace HB:=A_ (below_drew1 HB.1);obtain ⟨Ao44,co44,eo44⟩:=Kd.R_slice HO_9.1;(first|subst eo44|(injection eo44 with f1_ f2_ f3_;have f4_:=f1_.symm;have f5_:=f3_.symm;clear f1_ f2_ f3_;subst f4_;subst f5_))
                   have Aw : 0 ≤ (x12_2 : Int):=of_decide_eq_true (by first|(with_reducible assumption)|assumption);have Ax : x12_2 < (x9_3.length : Int):=of_decide_eq_true (by first|(with_reducible assumption)|assumption);obtain ⟨Bg,Bp,Ao⟩:=Kd.at_int (Kd.R_reads' HO_9.1).2.2 x12_2 Aw Ax;cases Bp
                   replace Aw:=eq_true Aw;replace Ax:=eq_true Ax;obtain ⟨Ao45,co45,eo45⟩:=Kd.R_slice HO_8.1;(first|subst eo45|(injection eo45 with f1_ f2_ f3_;have f4_:=f1_.symm;have f5_:=f3_.symm;clear f1_ f2_ f3_;subst f4_;subst f5_))
                   have Ay : 0 ≤ (x13_3 : Int):=of_decide_eq_true (by first|(with_reducible assumption)|assumption);have Az : x13_3 < (x8_3.length : Int):=of_decide_eq_true (by first|(with_reducible assumption)|assumption);obtain ⟨Bh,Bq,Ap⟩:=Kd.at_int (Kd.R_reads' HO_8.1).2.2 x13_3 Ay Az;cases Bq
                   replace Ay:=eq_true Ay;replace Az:=eq_true Az;refine start_ (n:=26) (S:=fun w'=>w'.cell? (Bg.add (x12_2).toNat) = some (.int .i64 (rd x9_3 x12_2)) ∧ w'.cell? (Bh.add (x13_3).toNat) = some (.int .i64 (rd x8_3 x13_3))) (ds:=[]) #[F,F,F,F,F,F,F,F,F,F,F,F,F,F,F,F,F,F,F,F,F,F,F,F,F,F] (by kernel_rfl) rfl rfl ⟨Ao,Ap⟩ (fun hHeld=>?_);refine with_tabW Aac.tab19 Aac.bits19 (fun HT_ HW_=>?_)
                   generalize wr.drew = w43 at HO_8 HO_9 Aa Ac Ad HI0 HK HB Ao Ap hHeld ⊢
                   refine pu_ (i:=0) (N:=61) #[T,F,F,F,F,F,F,F,F,F,F,F,F,F,F,F,F,F,F,F,F,F,F,F,F,F] HT_.1 rfl rfl (fun _ _ _ h=>h) rfl (h:=?_)
                   refine pu_ (i:=1) (N:=62) #[T,T,F,F,F,F,F,F,F,F,F,F,F,F,F,F,F,F,F,F,F,F,F,F,F,F] HT_.1 rfl rfl (fun _ _ _ h=>h) rfl (h:=?_)
                   refine pu_ (i:=2) (N:=63) #[T,T,T,F,F,F,F,F,F,F,F,F,F,F,F,F,F,F,F,F,F,F,F,F,F,F] HT_.1 rfl rfl (fun _ _ _ h=>h) rfl (h:=?_)
                   refine pu_ (i:=3) (N:=64) #[T,T,T,T,F,F,F,F,F,F,F,F,F,F,F,F,F,F,F,F,F,F,F,F,F,F] HT_.1 rfl rfl (fun _ _ _ h=>h) rfl (h:=?_)
                   refine pu_ (i:=4) (N:=65) #[T,T,T,T,T,F,F,F,F,F,F,F,F,F,F,F,F,F,F,F,F,F,F,F,F,F] HT_.1 rfl rfl (fun _ _ _ h=>h) rfl (h:=?_)
                   refine pu_ (i:=5) (N:=66) #[T,T,T,T,T,T,F,F,F,F,F,F,F,F,F,F,F,F,F,F,F,F,F,F,F,F] HT_.1 rfl rfl (fun _ _ _ h=>h) rfl (h:=?_)
                   refine pu_ (i:=7) (N:=68) #[T,T,T,T,T,T,F,T,F,F,F,F,F,F,F,F,F,F,F,F,F,F,F,F,F,F] HT_.1 rfl rfl (fun _ _ _ h=>h) rfl (h:=?_)
                   refine pu_ (i:=8) (N:=69) #[T,T,T,T,T,T,F,T,T,F,F,F,F,F,F,F,F,F,F,F,F,F,F,F,F,F] HT_.1 rfl rfl (fun _ _ _ h=>h) rfl (h:=?_)
                   refine pu_ (i:=9) (N:=70) #[T,T,T,T,T,T,F,T,T,T,F,F,F,F,F,F,F,F,F,F,F,F,F,F,F,F] HT_.1 rfl rfl (fun _ _ _ h=>h) rfl (h:=?_)
                   refine take_ (i:=6) (N:=some 67) (v:=?_) (a':=?_) #[T,T,T,T,T,T,T,T,T,T,F,F,F,F,F,F,F,F,F,F,F,F,F,F,F,F] rfl rfl (take_ofW HT_.1 HW_.1 (by kernel_rfl)) (fun _ _ _ h=>h) (Or.inl ⟨by rfl,?_⟩) hHeld ?_ ?_
                   rotate_left
                   ·rintro w' ⟨s0,s1⟩
                    go_simp
                    with_reducible rfl
                   rotate_left;·simp only [Act.put,L_,M_,N_,i64_w,i32_w];rfl
                   refine take_ (i:=10) (N:=some 71) (v:=?_) (a':=?_) #[T,T,T,T,T,T,T,T,T,T,T,F,F,F,F,F,F,F,F,F,F,F,F,F,F,F] rfl rfl (take_ofW HT_.1 HW_.1 (by kernel_rfl)) (fun _ _ _ h=>h) (Or.inl ⟨by rfl,?_⟩) hHeld ?_ ?_
                   rotate_left
                   ·rintro w' ⟨s0,s1⟩
                    go_simp
                    with_reducible rfl
                   rotate_left;·simp only [Act.put,L_,M_,N_,i64_w,i32_w];rfl
                   refine pu_ (i:=11) (N:=72) #[T,T,T,T,T,T,T,T,T,T,T,T,F,F,F,F,F,F,F,F,F,F,F,F,F,F] HT_.1 rfl rfl (fun _ _ _ h=>h) rfl (h:=?_)
                   refine pu_ (i:=12) (N:=73) #[T,T,T,T,T,T,T,T,T,T,T,T,T,F,F,F,F,F,F,F,F,F,F,F,F,F] HT_.1 rfl rfl (fun _ _ _ h=>h) rfl (h:=?_)
                   refine pu_ (i:=13) (N:=74) #[T,T,T,T,T,T,T,T,T,T,T,T,T,T,F,F,F,F,F,F,F,F,F,F,F,F] HT_.1 rfl rfl (fun _ _ _ h=>h) rfl (h:=?_)
                   refine pure_ (i:=14) (N:=some 75) (v:=undef) (a':=?_) #[T,T,T,T,T,T,T,T,T,T,T,T,T,T,T,F,F,F,F,F,F,F,F,F,F,F] rfl rfl (any_of HT_.1 (by kernel_rfl)) (fun _ _ _ h=>h) (Or.inr ⟨by rfl,rfl⟩) ?_ ?_
                   rotate_left;·simp only [Act.put,L_,M_,N_,i64_w,i32_w];rfl
                   refine pure_ (i:=15) (N:=some 76) (v:=undef) (a':=?_) #[T,T,T,T,T,T,T,T,T,T,T,T,T,T,T,T,F,F,F,F,F,F,F,F,F,F] rfl rfl (any_of HT_.1 (by kernel_rfl)) (fun _ _ _ h=>h) (Or.inr ⟨by rfl,rfl⟩) ?_ ?_
                   rotate_left;·simp only [Act.put,L_,M_,N_,i64_w,i32_w];rfl
                   refine pure_ (i:=16) (N:=some 77) (v:=undef) (a':=?_) #[T,T,T,T,T,T,T,T,T,T,T,T,T,T,T,T,T,F,F,F,F,F,F,F,F,F] rfl rfl (any_of HT_.1 (by kernel_rfl)) (fun _ _ _ h=>h) (Or.inr ⟨by rfl,rfl⟩) ?_ ?_
                   rotate_left;·simp only [Act.put,L_,M_,N_,i64_w,i32_w];rfl
                   refine pure_ (i:=17) (N:=some 78) (v:=undef) (a':=?_) #[T,T,T,T,T,T,T,T,T,T,T,T,T,T,T,T,T,T,F,F,F,F,F,F,F,F] rfl rfl (any_of HT_.1 (by kernel_rfl)) (fun _ _ _ h=>h) (Or.inr ⟨by rfl,rfl⟩) ?_ ?_
                   rotate_left;·simp only [Act.put,L_,M_,N_,i64_w,i32_w];rfl
                   refine pure_ (i:=18) (N:=some 79) (v:=undef) (a':=?_) #[T,T,T,T,T,T,T,T,T,T,T,T,T,T,T,T,T,T,T,F,F,F,F,F,F,F] rfl rfl (any_of HT_.1 (by kernel_rfl)) (fun _ _ _ h=>h) (Or.inr ⟨by rfl,rfl⟩) ?_ ?_
                   rotate_left;·simp only [Act.put,L_,M_,N_,i64_w,i32_w];rfl
                   refine pure_ (i:=19) (N:=some 80) (v:=undef) (a':=?_) #[T,T,T,T,T,T,T,T,T,T,T,T,T,T,T,T,T,T,T,T,F,F,F,F,F,F] rfl rfl (any_of HT_.1 (by kernel_rfl)) (fun _ _ _ h=>h) (Or.inr ⟨by rfl,rfl⟩) ?_ ?_
                   rotate_left;·simp only [Act.put,L_,M_,N_,i64_w,i32_w];rfl
                   refine pure_ (i:=20) (N:=some 81) (v:=undef) (a':=?_) #[T,T,T,T,T,T,T,T,T,T,T,T,T,T,T,T,T,T,T,T,T,F,F,F,F,F] rfl rfl (any_of HT_.1 (by kernel_rfl)) (fun _ _ _ h=>h) (Or.inr ⟨by rfl,rfl⟩) ?_ ?_
                   rotate_left;·simp only [Act.put,L_,M_,N_,i64_w,i32_w];rfl
                   refine pure_ (i:=21) (N:=some 82) (v:=undef) (a':=?_) #[T,T,T,T,T,T,T,T,T,T,T,T,T,T,T,T,T,T,T,T,T,T,F,F,F,F] rfl rfl (any_of HT_.1 (by kernel_rfl)) (fun _ _ _ h=>h) (Or.inr ⟨by rfl,rfl⟩) ?_ ?_
                   rotate_left;·simp only [Act.put,L_,M_,N_,i64_w,i32_w];rfl
                   refine pure_ (i:=22) (N:=some 83) (v:=undef) (a':=?_) #[T,T,T,T,T,T,T,T,T,T,T,T,T,T,T,T,T,T,T,T,T,T,T,F,F,F] rfl rfl (any_of HT_.1 (by kernel_rfl)) (fun _ _ _ h=>h) (Or.inr ⟨by rfl,rfl⟩) ?_ ?_
                   rotate_left;·simp only [Act.put,L_,M_,N_,i64_w,i32_w];rfl
                   refine pure_ (i:=23) (N:=some 84) (v:=undef) (a':=?_) #[T,T,T,T,T,T,T,T,T,T,T,T,T,T,T,T,T,T,T,T,T,T,T,T,F,F] rfl rfl (any_of HT_.1 (by kernel_rfl)) (fun _ _ _ h=>h) (Or.inr ⟨by rfl,rfl⟩) ?_ ?_
                   rotate_left;·simp only [Act.put,L_,M_,N_,i64_w,i32_w];rfl
                   refine pure_ (i:=24) (N:=some 85) (v:=undef) (a':=?_) #[T,T,T,T,T,T,T,T,T,T,T,T,T,T,T,T,T,T,T,T,T,T,T,T,T,F] rfl rfl (any_of HT_.1 (by kernel_rfl)) (fun _ _ _ h=>h) (Or.inr ⟨by rfl,rfl⟩) ?_ ?_
                   rotate_left;·simp only [Act.put,L_,M_,N_,i64_w,i32_w];rfl
                   refine pu_ (i:=25) (N:=86) #[T,T,T,T,T,T,T,T,T,T,T,T,T,T,T,T,T,T,T,T,T,T,T,T,T,T] HT_.1 rfl rfl (fun _ _ _ h=>h) rfl (h:=?_)
                   refine done_ (done_of HT_.1 (by kernel_rfl)) ?_
                   try go_wp2
                   replace HO_8:=A_ (Kd.R_drew HO_8.1);replace HO_9:=A_ (Kd.R_drew HO_9.1);replace Aa:=A_ (Kd.R_drew Aa.1);replace Ac:=A_ (blk_drew Ac.1);replace Ad:=A_ (blk_drew Ad.1);replace HI0:=A_ (Aaa.drew HI0.1);replace HK:=A_ (keep_drew HK.1);replace HB:=A_ (below_drew1 HB.1);obtain ⟨Ao47,co47,eo47⟩:=Kd.R_slice Aa.1;(first|subst eo47|(injection eo47 with f1_ f2_ f3_;have f4_:=f1_.symm;have f5_:=f3_.symm;clear f1_ f2_ f3_;subst f4_;subst f5_))
                   have Cp : 0 ≤ (x12_2 : Int):=of_decide_eq_true (by first|(with_reducible assumption)|assumption);have Cq : x12_2 < (Ab.length : Int):=of_decide_eq_true (by first|(with_reducible assumption)|assumption);obtain ⟨Dt,Dn,B7⟩:=Kd.at_int (Kd.R_reads' Aa.1).2.2 x12_2 Cp Cq;cases Dn
                   replace Cp:=eq_true Cp;replace Cq:=eq_true Cq;have p42 : 0 ≤ (x12_2 : Int):=of_decide_eq_true (by first|(with_reducible assumption)|assumption);have q42 : (x12_2 : Int) < ((Ab.length : Int) : Int):=of_decide_eq_true (by first|(with_reducible assumption)|assumption);obtain ⟨go42,co42,eo42,gb42,gl42,cl42,HG42⟩:=Kd.R_form Aa.1 (by omega);(first|cases eo42|(injection eo42 with ea_ en_ ec_;(first|subst ea_|(injection ea_ with ea_;subst ea_));subst ec_;clear en_))
                   have GB42:=A_ gb42;have GG42:=A_ HG42;clear gb42 gl42 HG42;(first|simp only [add_plain] at B7|skip)
                   obtain ⟨hx42_0,hf42_0⟩:=Kd.R_celln 0 Aa.1 (x12_2 : Int) p42 q42;replace p42:=eq_true p42;replace q42:=eq_true q42;have HN0_go42:=A_ (show g ≠ go42 from by have h_:=Aaa.own_ne HI0.1 Aa.1 (by decide);intro e_;exact h_ (by rw [e_];rfl));have HP48:=Kd.R_putn Aa.1 (x12_2 : Int) (Go.bits .or .i64 (rd Ab x12_2) (ji41));rw [← Df.1] at HP48;have HQ48:=A_ HP48;clear HP48;refine start_ (n:=10) (S:=fun w'=>w'.cell? ⟨An,0,none⟩ = some (.int .i64 Ae) ∧ w'.cell? ⟨An,1,none⟩ = some (.slice (some ⟨go42,0,none⟩) Ab.length co47) ∧ w'.cell? ⟨go42,(x12_2).toNat,none⟩ = some (.int .i64 (rd Ab x12_2))) (ds:=[9]) #[F,F,F,F,F,F,F,F,F,F] (by kernel_rfl) rfl rfl ⟨blk_cell Ad.1 0,blk_cell Ad.1 1,B7⟩ (fun hHeld=>?_);refine with_tabW Aac.tab20 Aac.bits20 (fun HT_ HW_=>?_)
                   generalize w43.drew = w46 at HO_8 HO_9 Aa Ac Ad HI0 HK HB GG42 HQ48 hf42_0 B7 hx42_0 hHeld ⊢
                   refine pu_ (i:=0) (N:=87) #[T,F,F,F,F,F,F,F,F,F] HT_.1 rfl rfl (fun _ _ _ h=>h) rfl (h:=?_)
                   refine pu_ (i:=2) (N:=89) #[T,F,T,F,F,F,F,F,F,F] HT_.1 rfl rfl (fun _ _ _ h=>h) rfl (h:=?_)
                   refine pu_ (i:=5) (N:=92) #[T,F,T,F,F,T,F,F,F,F] HT_.1 rfl rfl (fun _ _ _ h=>h) rfl (h:=?_)
                   refine pu_ (i:=6) (N:=93) #[T,F,T,F,F,T,T,F,F,F] HT_.1 rfl rfl (fun _ _ _ h=>h) rfl (h:=?_)
                   refine take_ (i:=1) (N:=some 88) (v:=?_) (a':=?_) #[T,T,T,F,F,T,T,F,F,F] rfl rfl (take_ofW HT_.1 HW_.1 (by kernel_rfl)) (fun _ _ _ h=>h) (Or.inl ⟨by rfl,?_⟩) hHeld ?_ ?_
                   rotate_left
                   ·rintro w' ⟨s0,s1,s2⟩
                    go_simp
                    with_reducible rfl
                   rotate_left;·simp only [Act.put,L_,M_,N_,i64_w,i32_w];rfl
                   refine pu_ (i:=3) (N:=90) #[T,T,T,T,F,T,T,F,F,F] HT_.1 rfl rfl (fun _ _ _ h=>h) rfl (h:=?_)
                   refine take_ (i:=4) (N:=some 91) (v:=?_) (a':=?_) #[T,T,T,T,T,T,T,F,F,F] rfl rfl (take_ofW HT_.1 HW_.1 (by kernel_rfl)) (fun _ _ _ h=>h) (Or.inl ⟨by rfl,?_⟩) hHeld ?_ ?_
                   rotate_left
                   ·rintro w' ⟨s0,s1,s2⟩
                    go_simp
                    with_reducible rfl
                   rotate_left;·simp only [Act.put,L_,M_,N_,i64_w,i32_w];rfl
                   refine pu_ (i:=7) (N:=94) #[T,T,T,T,T,T,T,T,F,F] HT_.1 rfl rfl (fun _ _ _ h=>h) rfl (h:=?_)
                   refine pu_ (i:=8) (N:=95) #[T,T,T,T,T,T,T,T,T,F] HT_.1 rfl rfl (fun _ _ _ h=>h) rfl (h:=?_)
                   refine last_ (i:=9) (N:=none) #[T,T,T,T,T,T,T,T,T,T] rfl rfl (one_of HT_.1 (by kernel_rfl)) (by decide) (fun K hK=>?_)
                   refine skip_ (w1:=?_) (by rfl) rfl ?_ ?_
                   rotate_left
                   ·go_simp
                    rfl
                   refine hK.out _ _ ?_
                   clear hK K;refine done_ (done_of HT_.1 (by kernel_rfl)) ?_
                   try go_wp2
                   go_roundg k3
                   case measure=>have:=HK1.1;have:=HK2.1;have:=HK3.1;omega
                   case rel=>exact ⟨(x8_3),(x9_3),(wrap64 (x13_3 + 1)),(Ah),(Ai),(C3),(.slice (some ⟨go42,0,none⟩) Ab.length co47),(by first|rfl|(simp;done)|(simp [*];done)),H',⟨by have:=HK1.1;have:=HK2.1;have:=HK3.1;omega⟩,⟨rq_ (Kd.R_mono (Kd.R_far (p:=⟨go42,(x12_2 : Int).toNat,none⟩) (Kd.R_mono HO_8.1 (fun k_ hk=>(⟨hk,fun e_=>hk.2 (by rw [e_];rfl)⟩ : _ ∧ k_ ≠ go42))) (fun _ hk=>hk.2) (.int .i64 (Go.bits .or .i64 (rd Ab x12_2) (ji41)))) (fun _ hk=>⟨hk.1.1,hk.1.2⟩))⟩,⟨rq_ (Kd.R_mono (Kd.R_far (p:=⟨go42,(x12_2 : Int).toNat,none⟩) (Kd.R_mono HO_9.1 (fun k_ hk=>(⟨hk,fun e_=>hk.2 (by rw [e_];rfl)⟩ : _ ∧ k_ ≠ go42))) (fun _ hk=>hk.2) (.int .i64 (Go.bits .or .i64 (rd Ab x12_2) (ji41)))) (fun _ hk=>⟨hk.1.1,hk.1.2⟩))⟩,⟨rl_ HQ48⟩,⟨by (with_reducible repeat (first|refine blk_drewN ?_ _|refine blk_drew ?_|refine blk_alloc ?_ _));refine blk_far ?_ (by have h_:=Kd.R_ne Aa.1 Ac.1 (by decide);intro e_;exact h_ (by rw [e_];rfl)) _;(with_reducible repeat (first|refine blk_drewN ?_ _|refine blk_drew ?_|refine blk_alloc ?_ _));exact Ac.1⟩,⟨by (with_reducible repeat (first|refine blk_drewN ?_ _|refine blk_drew ?_|refine blk_alloc ?_ _));refine blk_far ?_ (by have h_:=Kd.R_ne Aa.1 Ad.1 (by decide);intro e_;exact h_ (by rw [e_];rfl)) _;(with_reducible repeat (first|refine blk_drewN ?_ _|refine blk_drew ?_|refine blk_alloc ?_ _));exact Ad.1⟩,⟨by repeat (first|(with_reducible first|exact HI0.1|apply Aaa.alloc|apply Aaa.drewN|apply Aaa.drew|apply Aaa.set_1|apply Aaa.set_2|refine Aaa.far ?_ HN0_go42.1 _|refine Aaa.far ?_ (Aside0.out (by assumption)) _)|exact HI0.1)⟩,⟨by repeat (first|(with_reducible first|exact HK.1|apply KeepBut.set_|apply keep_drewN|apply keep_drew|apply keep_alloc|refine keep_far ?_ GB42.1 _|refine keep_far ?_ Af.1 _|refine keep_far ?_ Aj.1 _)|exact HK.1)⟩,⟨by repeat (first|(with_reducible first|exact HB.1|apply below_alloc|apply pw_below_drewN|apply below_drew1|refine below_set ?_ (Nat.le_trans HL.1 GB42.1)|refine below_set ?_ (Aaa.ge HI0.1)|refine below_set ?_ (Aside0.out (by assumption)))|exact HB.1)⟩⟩
                  ·rw [if_neg c39] at H;exact absurd H (by simp)
                 ·rw [if_neg c38] at H;have c38b0 : decide ((rd x9_3 x12_2) < (rd x8_3 x13_3)) = false:=decide_eq_false c38;clear c38;by_cases c49 : Ag = 0
                  ·rw [if_pos c49] at H;have c49b0 : (Ag == 0) = true:=beq_iff_eq.mpr c49;have c49b1 : (Ag != 0) = false:=bne_eq_false_iff_eq.mpr c49;clear c49;by_cases c50 : x12_2 < x13_3
                   ·rw [if_pos c50] at H;have c50b0 : decide (x12_2 < x13_3) = true:=decide_eq_true c50;clear c50;replace H:=Option.bind_eq_some_iff.mp H;obtain ⟨⟨C4,Bj,Bk⟩,C5,H⟩:=H;replace H : (if C4 = true then (if x12_2 < (Ab.length : Int) then (Aac.l2 k3 Ae Ag x8_3 x9_3 x12_2 (wrap64 (x13_3 + 1)) s0_0 Bj Bk Ae (Ab.set (x12_2 : Int).toNat (Go.bits .or .i64 (rd Ab x12_2) (shl .i64 1 x13_3)))) else (none)) else (Aac.l2 k3 Ae Ag x8_3 x9_3 x12_2 (wrap64 (x13_3 + 1)) s0_0 Bj Bk Ae Ab)) = some (r1,r2,r3,r4):=H;have A51:=A_ C5;clear C5;by_cases c52 : C4 = true
                    ·subst c52;have H1 : (if x12_2 < (Ab.length : Int) then (Aac.l2 k3 Ae Ag x8_3 x9_3 x12_2 (wrap64 (x13_3 + 1)) s0_0 Bj Bk Ae (Ab.set (x12_2 : Int).toNat (Go.bits .or .i64 (rd Ab x12_2) (shl .i64 1 x13_3)))) else (none)) = some (r1,r2,r3,r4):=by rw [if_pos rfl] at H;exact H
                     clear H;have H:=H1;clear H1;by_cases c53 : x12_2 < (Ab.length : Int)
                     ·rw [if_pos c53] at H;have c53b0 : decide (x12_2 < (Ab.length : Int)) = true:=decide_eq_true c53;clear c53;have c54b0:=eq_true (of_decide_eq_true (by first|(with_reducible assumption)|assumption) : 0 ≤ x13_3);obtain ⟨ji55,hji55⟩ : ∃ j_ : Int,(shl .i64 1 x13_3) = j_:=⟨_,rfl⟩;replace H : (Aac.l2 k3 Ae Ag x8_3 x9_3 x12_2 (wrap64 (x13_3 + 1)) s0_0 Bj Bk Ae (Ab.set (x12_2 : Int).toNat (Go.bits .or .i64 (rd Ab x12_2) (ji55)))) = some (r1,r2,r3,r4):=by first|(rw [hji55] at H;exact H)|(simp only [hji55] at H ⊢;exact H)
                      (try rw [hji55] at A51);have hji55_ : (IntKind.i64.wrap (1 * 2 ^ min x13_3.toNat 64)) = ji55:=hji55;have hji55z : x13_3 ≤ 64 → (IntKind.i64.wrap (1 * 2 ^ x13_3.toNat)) = ji55:=shl_small hji55;have hji55u : (IntKind.i64.wrap (2 ^ min x13_3.toNat 64)) = ji55:=by have h_:=hji55_;rw [Int.one_mul] at h_;exact h_
                      have hji55v : x13_3 ≤ 64 → (IntKind.i64.wrap (2 ^ x13_3.toNat)) = ji55:=fun hle_=>by have h_:=hji55z hle_;rw [Int.one_mul] at h_;exact h_
                      have hji55y : (wrap64 (1 * 2 ^ min x13_3.toNat 64)) = ji55:=(i64_w _).symm.trans hji55_;have hji55x : x13_3 ≤ 64 → (wrap64 (1 * 2 ^ x13_3.toNat)) = ji55:=fun h_=>(i64_w _).symm.trans (hji55z h_)
                      obtain ⟨C6,B5⟩ : ∃ y_ : List Int,y_ = (Ab.set (x12_2 : Int).toNat (Go.bits .or .i64 (rd Ab x12_2) (ji55))):=⟨_,rfl⟩;replace H : (Aac.l2 k3 Ae Ag x8_3 x9_3 x12_2 (wrap64 (x13_3 + 1)) s0_0 Bj Bk Ae C6) = some (r1,r2,r3,r4):=by first|(rw [B5];with_reducible exact H)|(have H2_:=(Option.bind_some _ _).symm.trans H;rw [B5];with_reducible exact H2_)|(have H2_:=(Option.bind_some _ _).symm.trans H;with_reducible exact H2_)|with_reducible exact H|(rw [B5];exact H)|exact H
                      have Dg:=A_ B5;clear B5;have H':=A_ H;clear H;try go_wp2
                      replace HO_8:=A_ (Kd.R_drew HO_8.1);replace HO_9:=A_ (Kd.R_drew HO_9.1);replace Aa:=A_ (Kd.R_drew Aa.1);replace Ac:=A_ (blk_drew Ac.1);replace Ad:=A_ (blk_drew Ad.1);replace HI0:=A_ (Aaa.drew HI0.1);replace HK:=A_ (keep_drew HK.1);replace HB:=A_ (below_drew1 HB.1);obtain ⟨Ao58,co58,eo58⟩:=Kd.R_slice HO_9.1;(first|subst eo58|(injection eo58 with f1_ f2_ f3_;have f4_:=f1_.symm;have f5_:=f3_.symm;clear f1_ f2_ f3_;subst f4_;subst f5_))
                      have Aw : 0 ≤ (x12_2 : Int):=of_decide_eq_true (by first|(with_reducible assumption)|assumption);have Ax : x12_2 < (x9_3.length : Int):=of_decide_eq_true (by first|(with_reducible assumption)|assumption);obtain ⟨Bg,Bp,Ao⟩:=Kd.at_int (Kd.R_reads' HO_9.1).2.2 x12_2 Aw Ax;cases Bp
                      replace Aw:=eq_true Aw;replace Ax:=eq_true Ax;obtain ⟨Ao59,co59,eo59⟩:=Kd.R_slice HO_8.1;(first|subst eo59|(injection eo59 with f1_ f2_ f3_;have f4_:=f1_.symm;have f5_:=f3_.symm;clear f1_ f2_ f3_;subst f4_;subst f5_))
                      have Ay : 0 ≤ (x13_3 : Int):=of_decide_eq_true (by first|(with_reducible assumption)|assumption);have Az : x13_3 < (x8_3.length : Int):=of_decide_eq_true (by first|(with_reducible assumption)|assumption);obtain ⟨Bh,Bq,Ap⟩:=Kd.at_int (Kd.R_reads' HO_8.1).2.2 x13_3 Ay Az;cases Bq
                      replace Ay:=eq_true Ay;replace Az:=eq_true Az;refine start_ (n:=26) (S:=fun w'=>w'.cell? (Bg.add (x12_2).toNat) = some (.int .i64 (rd x9_3 x12_2)) ∧ w'.cell? (Bh.add (x13_3).toNat) = some (.int .i64 (rd x8_3 x13_3))) (ds:=[]) #[F,F,F,F,F,F,F,F,F,F,F,F,F,F,F,F,F,F,F,F,F,F,F,F,F,F] (by kernel_rfl) rfl rfl ⟨Ao,Ap⟩ (fun hHeld=>?_);refine with_tabW Aac.tab19 Aac.bits19 (fun HT_ HW_=>?_)
                      generalize wr.drew = w57 at HO_8 HO_9 Aa Ac Ad HI0 HK HB Ao Ap hHeld ⊢
                      refine pu_ (i:=0) (N:=61) #[T,F,F,F,F,F,F,F,F,F,F,F,F,F,F,F,F,F,F,F,F,F,F,F,F,F] HT_.1 rfl rfl (fun _ _ _ h=>h) rfl (h:=?_)
                      refine pu_ (i:=1) (N:=62) #[T,T,F,F,F,F,F,F,F,F,F,F,F,F,F,F,F,F,F,F,F,F,F,F,F,F] HT_.1 rfl rfl (fun _ _ _ h=>h) rfl (h:=?_)
                      refine pu_ (i:=2) (N:=63) #[T,T,T,F,F,F,F,F,F,F,F,F,F,F,F,F,F,F,F,F,F,F,F,F,F,F] HT_.1 rfl rfl (fun _ _ _ h=>h) rfl (h:=?_)
                      refine pu_ (i:=3) (N:=64) #[T,T,T,T,F,F,F,F,F,F,F,F,F,F,F,F,F,F,F,F,F,F,F,F,F,F] HT_.1 rfl rfl (fun _ _ _ h=>h) rfl (h:=?_)
                      refine pu_ (i:=4) (N:=65) #[T,T,T,T,T,F,F,F,F,F,F,F,F,F,F,F,F,F,F,F,F,F,F,F,F,F] HT_.1 rfl rfl (fun _ _ _ h=>h) rfl (h:=?_)
                      refine pu_ (i:=5) (N:=66) #[T,T,T,T,T,T,F,F,F,F,F,F,F,F,F,F,F,F,F,F,F,F,F,F,F,F] HT_.1 rfl rfl (fun _ _ _ h=>h) rfl (h:=?_)
                      refine pu_ (i:=7) (N:=68) #[T,T,T,T,T,T,F,T,F,F,F,F,F,F,F,F,F,F,F,F,F,F,F,F,F,F] HT_.1 rfl rfl (fun _ _ _ h=>h) rfl (h:=?_)
                      refine pu_ (i:=8) (N:=69) #[T,T,T,T,T,T,F,T,T,F,F,F,F,F,F,F,F,F,F,F,F,F,F,F,F,F] HT_.1 rfl rfl (fun _ _ _ h=>h) rfl (h:=?_)
                      refine pu_ (i:=9) (N:=70) #[T,T,T,T,T,T,F,T,T,T,F,F,F,F,F,F,F,F,F,F,F,F,F,F,F,F] HT_.1 rfl rfl (fun _ _ _ h=>h) rfl (h:=?_)
                      refine take_ (i:=6) (N:=some 67) (v:=?_) (a':=?_) #[T,T,T,T,T,T,T,T,T,T,F,F,F,F,F,F,F,F,F,F,F,F,F,F,F,F] rfl rfl (take_ofW HT_.1 HW_.1 (by kernel_rfl)) (fun _ _ _ h=>h) (Or.inl ⟨by rfl,?_⟩) hHeld ?_ ?_
                      rotate_left
                      ·rintro w' ⟨s0,s1⟩
                       go_simp
                       with_reducible rfl
                      rotate_left;·simp only [Act.put,L_,M_,N_,i64_w,i32_w];rfl
                      refine take_ (i:=10) (N:=some 71) (v:=?_) (a':=?_) #[T,T,T,T,T,T,T,T,T,T,T,F,F,F,F,F,F,F,F,F,F,F,F,F,F,F] rfl rfl (take_ofW HT_.1 HW_.1 (by kernel_rfl)) (fun _ _ _ h=>h) (Or.inl ⟨by rfl,?_⟩) hHeld ?_ ?_
                      rotate_left
                      ·rintro w' ⟨s0,s1⟩
                       go_simp
                       with_reducible rfl
                      rotate_left;·simp only [Act.put,L_,M_,N_,i64_w,i32_w];rfl
                      refine pu_ (i:=11) (N:=72) #[T,T,T,T,T,T,T,T,T,T,T,T,F,F,F,F,F,F,F,F,F,F,F,F,F,F] HT_.1 rfl rfl (fun _ _ _ h=>h) rfl (h:=?_)
                      refine pu_ (i:=12) (N:=73) #[T,T,T,T,T,T,T,T,T,T,T,T,T,F,F,F,F,F,F,F,F,F,F,F,F,F] HT_.1 rfl rfl (fun _ _ _ h=>h) rfl (h:=?_)
                      refine pu_ (i:=13) (N:=74) #[T,T,T,T,T,T,T,T,T,T,T,T,T,T,F,F,F,F,F,F,F,F,F,F,F,F] HT_.1 rfl rfl (fun _ _ _ h=>h) rfl (h:=?_)
                      refine pu_ (i:=14) (N:=75) #[T,T,T,T,T,T,T,T,T,T,T,T,T,T,T,F,F,F,F,F,F,F,F,F,F,F] HT_.1 rfl rfl (fun _ _ _ h=>h) rfl (h:=?_)
                      refine pu_ (i:=15) (N:=76) #[T,T,T,T,T,T,T,T,T,T,T,T,T,T,T,T,F,F,F,F,F,F,F,F,F,F] HT_.1 rfl rfl (fun _ _ _ h=>h) rfl (h:=?_)
                      refine pu_ (i:=16) (N:=77) #[T,T,T,T,T,T,T,T,T,T,T,T,T,T,T,T,T,F,F,F,F,F,F,F,F,F] HT_.1 rfl rfl (fun _ _ _ h=>h) rfl (h:=?_)
                      refine pu_ (i:=17) (N:=78) #[T,T,T,T,T,T,T,T,T,T,T,T,T,T,T,T,T,T,F,F,F,F,F,F,F,F] HT_.1 rfl rfl (fun _ _ _ h=>h) rfl (h:=?_)
                      refine pu_ (i:=18) (N:=79) #[T,T,T,T,T,T,T,T,T,T,T,T,T,T,T,T,T,T,T,F,F,F,F,F,F,F] HT_.1 rfl rfl (fun _ _ _ h=>h) rfl (h:=?_)
                      refine pu_ (i:=19) (N:=80) #[T,T,T,T,T,T,T,T,T,T,T,T,T,T,T,T,T,T,T,T,F,F,F,F,F,F] HT_.1 rfl rfl (fun _ _ _ h=>h) rfl (h:=?_)
                      refine pu_ (i:=20) (N:=81) #[T,T,T,T,T,T,T,T,T,T,T,T,T,T,T,T,T,T,T,T,T,F,F,F,F,F] HT_.1 rfl rfl (fun _ _ _ h=>h) rfl (h:=?_)
                      refine pu_ (i:=21) (N:=82) #[T,T,T,T,T,T,T,T,T,T,T,T,T,T,T,T,T,T,T,T,T,T,F,F,F,F] HT_.1 rfl rfl (fun _ _ _ h=>h) rfl (h:=?_)
                      refine pu_ (i:=22) (N:=83) #[T,T,T,T,T,T,T,T,T,T,T,T,T,T,T,T,T,T,T,T,T,T,T,F,F,F] HT_.1 rfl rfl (fun _ _ _ h=>h) rfl (h:=?_)
                      refine one_ (i:=23) (N:=some 84) #[T,T,T,T,T,T,T,T,T,T,T,T,T,T,T,T,T,T,T,T,T,T,T,T,F,F] rfl rfl (one_of HT_.1 (by kernel_rfl)) (by decide) (fun K hK=>?_)
                      refine goes_ Tryd.func58 (by kernel_rfl) rfl #[.pointer (some ⟨g,0,none⟩),.int .i64 3] (by rfl) rfl rfl au_ ?_
                      with_reducible refine (Aau.calls g s0_0 Ah Ai 3 true Bj Bk w0 _ ?side1 ?side2 A51.1).mono ?_
                      (case side1=>exact is_)
                      (case side2=>repeat (first|(with_reducible first|exact HB.1|apply below_alloc|apply pw_below_drewN|apply below_drew1|refine below_set ?_ (Aaa.ge HI0.1)|refine below_set ?_ (Aside0.out (by assumption)))|exact HB.1))
                      rintro e w60 ⟨rfl,hi,hb,hk⟩
                      have HS0_:=keep_cell hk (hHeld.1) (by first|(rw [add_block];exact Kd.own_blk (Aaa.own_ne HI0.1 HO_9.1 (by decide)))|(show (Addr.add _ _).block ≠ _;rw [add_block];exact Kd.own_blk (Aaa.own_ne HI0.1 HO_9.1 (by decide)))|exact Kd.own_blk (Aaa.own_ne HI0.1 HO_9.1 (by decide)));have HS1_:=keep_cell hk (hHeld.2) (by first|(rw [add_block];exact Kd.own_blk (Aaa.own_ne HI0.1 HO_8.1 (by decide)))|(show (Addr.add _ _).block ≠ _;rw [add_block];exact Kd.own_blk (Aaa.own_ne HI0.1 HO_8.1 (by decide)))|exact Kd.own_blk (Aaa.own_ne HI0.1 HO_8.1 (by decide)));refine ⟨_,rfl,?_⟩
                      replace HO_8:=A_ (Kd.R_mono (Kd.R_keep (Aaa.apart (show Aaa w0 _ g s0_0 Ah Ai from is_) (rl_ HO_8) (by decide)) hk (fun _ h=>h.2)) (fun _ h=>h.1));replace HO_9:=A_ (Kd.R_mono (Kd.R_keep (Aaa.apart (show Aaa w0 _ g s0_0 Ah Ai from is_) (rl_ HO_9) (by decide)) hk (fun _ h=>h.2)) (fun _ h=>h.1));replace Aa:=A_ (Kd.R_mono (Kd.R_keep (Aaa.apart (show Aaa w0 _ g s0_0 Ah Ai from is_) (rl_ Aa) (by decide)) hk (fun _ h=>h.2)) (fun _ h=>h.1));replace Ac:=A_ (KeepBut.blk hk (g':=Am) (o:=.cells #[.int .i64 0,.slice none 0 0] 26 (0,0)) (bl_ Ac) As.1 (by simp));replace Ad:=A_ (KeepBut.blk hk (g':=An) (o:=.cells #[.int .i64 Ae,Ak] 26 (0,0)) (bl_ Ad) At.1 (by simp));replace HK:=A_ (KeepBut.trans (by repeat (with_reducible first|exact HK.1|apply KeepBut.set_|apply keep_drewN|apply keep_drew|apply keep_alloc|refine keep_far ?_ Af.1 _|refine keep_far ?_ Aj.1 _)) hk (.inl rfl));replace HB:=A_ (hb);replace HI0:=A_ (hi);(try clear hb);(try clear hb2);(try clear hk);(try clear hi);refine hK.out _ _ ⟨HS0_,HS1_⟩ (fun hHeld=>?_)
                      clear hK K;refine norm_ (a':=?_) ?_ ?_
                      rotate_left
                      ·show Act.put _ (some 84) _ = _
                       simp only [Act.put,L_,M_,N_,i64_w,i32_w]
                       rfl
                      refine pu_ (i:=24) (N:=85) #[T,T,T,T,T,T,T,T,T,T,T,T,T,T,T,T,T,T,T,T,T,T,T,T,T,F] HT_.1 rfl rfl (fun _ _ _ h=>h) rfl (h:=?_)
                      refine pu_ (i:=25) (N:=86) #[T,T,T,T,T,T,T,T,T,T,T,T,T,T,T,T,T,T,T,T,T,T,T,T,T,T] HT_.1 rfl rfl (fun _ _ _ h=>h) rfl (h:=?_)
                      refine done_ (done_of HT_.1 (by kernel_rfl)) ?_
                      try go_wp2
                      replace HO_8:=A_ (Kd.R_drew HO_8.1);replace HO_9:=A_ (Kd.R_drew HO_9.1);replace Aa:=A_ (Kd.R_drew Aa.1);replace Ac:=A_ (blk_drew Ac.1);replace Ad:=A_ (blk_drew Ad.1);replace HI0:=A_ (Aaa.drew HI0.1);replace HK:=A_ (keep_drew HK.1);replace HB:=A_ (below_drew1 HB.1);obtain ⟨Ao62,co62,eo62⟩:=Kd.R_slice Aa.1;(first|subst eo62|(injection eo62 with f1_ f2_ f3_;have f4_:=f1_.symm;have f5_:=f3_.symm;clear f1_ f2_ f3_;subst f4_;subst f5_))
                      have Cr : 0 ≤ (x12_2 : Int):=of_decide_eq_true (by first|(with_reducible assumption)|assumption);have Cs : x12_2 < (Ab.length : Int):=of_decide_eq_true (by first|(with_reducible assumption)|assumption);obtain ⟨Du,Do,B8⟩:=Kd.at_int (Kd.R_reads' Aa.1).2.2 x12_2 Cr Cs;cases Do
                      replace Cr:=eq_true Cr;replace Cs:=eq_true Cs;have p56 : 0 ≤ (x12_2 : Int):=of_decide_eq_true (by first|(with_reducible assumption)|assumption);have q56 : (x12_2 : Int) < ((Ab.length : Int) : Int):=of_decide_eq_true (by first|(with_reducible assumption)|assumption);obtain ⟨go56,co56,eo56,gb56,gl56,cl56,HG56⟩:=Kd.R_form Aa.1 (by omega);(first|cases eo56|(injection eo56 with ea_ en_ ec_;(first|subst ea_|(injection ea_ with ea_;subst ea_));subst ec_;clear en_))
                      have GB56:=A_ gb56;have GG56:=A_ HG56;clear gb56 gl56 HG56;(first|simp only [add_plain] at B8|skip)
                      obtain ⟨hx56_0,hf56_0⟩:=Kd.R_celln 0 Aa.1 (x12_2 : Int) p56 q56;replace p56:=eq_true p56;replace q56:=eq_true q56;have HN0_go56:=A_ (show g ≠ go56 from by have h_:=Aaa.own_ne HI0.1 Aa.1 (by decide);intro e_;exact h_ (by rw [e_];rfl));have HP63:=Kd.R_putn Aa.1 (x12_2 : Int) (Go.bits .or .i64 (rd Ab x12_2) (ji55));rw [← Dg.1] at HP63;have HQ63:=A_ HP63;clear HP63;refine start_ (n:=10) (S:=fun w'=>w'.cell? ⟨An,0,none⟩ = some (.int .i64 Ae) ∧ w'.cell? ⟨An,1,none⟩ = some (.slice (some ⟨go56,0,none⟩) Ab.length co62) ∧ w'.cell? ⟨go56,(x12_2).toNat,none⟩ = some (.int .i64 (rd Ab x12_2))) (ds:=[9]) #[F,F,F,F,F,F,F,F,F,F] (by kernel_rfl) rfl rfl ⟨blk_cell Ad.1 0,blk_cell Ad.1 1,B8⟩ (fun hHeld=>?_);refine with_tabW Aac.tab20 Aac.bits20 (fun HT_ HW_=>?_)
                      generalize w60.drew = w61 at HO_8 HO_9 Aa Ac Ad HI0 HK HB GG56 HQ63 hf56_0 B8 hx56_0 hHeld ⊢
                      refine pu_ (i:=0) (N:=87) #[T,F,F,F,F,F,F,F,F,F] HT_.1 rfl rfl (fun _ _ _ h=>h) rfl (h:=?_)
                      refine pu_ (i:=2) (N:=89) #[T,F,T,F,F,F,F,F,F,F] HT_.1 rfl rfl (fun _ _ _ h=>h) rfl (h:=?_)
                      refine pu_ (i:=5) (N:=92) #[T,F,T,F,F,T,F,F,F,F] HT_.1 rfl rfl (fun _ _ _ h=>h) rfl (h:=?_)
                      refine pu_ (i:=6) (N:=93) #[T,F,T,F,F,T,T,F,F,F] HT_.1 rfl rfl (fun _ _ _ h=>h) rfl (h:=?_)
                      refine take_ (i:=1) (N:=some 88) (v:=?_) (a':=?_) #[T,T,T,F,F,T,T,F,F,F] rfl rfl (take_ofW HT_.1 HW_.1 (by kernel_rfl)) (fun _ _ _ h=>h) (Or.inl ⟨by rfl,?_⟩) hHeld ?_ ?_
                      rotate_left
                      ·rintro w' ⟨s0,s1,s2⟩
                       go_simp
                       with_reducible rfl
                      rotate_left;·simp only [Act.put,L_,M_,N_,i64_w,i32_w];rfl
                      refine pu_ (i:=3) (N:=90) #[T,T,T,T,F,T,T,F,F,F] HT_.1 rfl rfl (fun _ _ _ h=>h) rfl (h:=?_)
                      refine take_ (i:=4) (N:=some 91) (v:=?_) (a':=?_) #[T,T,T,T,T,T,T,F,F,F] rfl rfl (take_ofW HT_.1 HW_.1 (by kernel_rfl)) (fun _ _ _ h=>h) (Or.inl ⟨by rfl,?_⟩) hHeld ?_ ?_
                      rotate_left
                      ·rintro w' ⟨s0,s1,s2⟩
                       go_simp
                       with_reducible rfl
                      rotate_left;·simp only [Act.put,L_,M_,N_,i64_w,i32_w];rfl
                      refine pu_ (i:=7) (N:=94) #[T,T,T,T,T,T,T,T,F,F] HT_.1 rfl rfl (fun _ _ _ h=>h) rfl (h:=?_)
                      refine pu_ (i:=8) (N:=95) #[T,T,T,T,T,T,T,T,T,F] HT_.1 rfl rfl (fun _ _ _ h=>h) rfl (h:=?_)
                      refine last_ (i:=9) (N:=none) #[T,T,T,T,T,T,T,T,T,T] rfl rfl (one_of HT_.1 (by kernel_rfl)) (by decide) (fun K hK=>?_)
                      refine skip_ (w1:=?_) (by rfl) rfl ?_ ?_
                      rotate_left
                      ·go_simp
                       rfl
                      refine hK.out _ _ ?_
                      clear hK K;refine done_ (done_of HT_.1 (by kernel_rfl)) ?_
                      try go_wp2
                      go_roundg k3
                      case measure=>have:=HK1.1;have:=HK2.1;have:=HK3.1;omega
                      case rel=>exact ⟨(x8_3),(x9_3),(wrap64 (x13_3 + 1)),(Bj),(Bk),(C6),(.slice (some ⟨go56,0,none⟩) Ab.length co62),(by first|rfl|(simp;done)|(simp [*];done)),H',⟨by have:=HK1.1;have:=HK2.1;have:=HK3.1;omega⟩,⟨rq_ (Kd.R_mono (Kd.R_far (p:=⟨go56,(x12_2 : Int).toNat,none⟩) (Kd.R_mono HO_8.1 (fun k_ hk=>(⟨hk,fun e_=>hk.2 (by rw [e_];rfl)⟩ : _ ∧ k_ ≠ go56))) (fun _ hk=>hk.2) (.int .i64 (Go.bits .or .i64 (rd Ab x12_2) (ji55)))) (fun _ hk=>⟨hk.1.1,hk.1.2⟩))⟩,⟨rq_ (Kd.R_mono (Kd.R_far (p:=⟨go56,(x12_2 : Int).toNat,none⟩) (Kd.R_mono HO_9.1 (fun k_ hk=>(⟨hk,fun e_=>hk.2 (by rw [e_];rfl)⟩ : _ ∧ k_ ≠ go56))) (fun _ hk=>hk.2) (.int .i64 (Go.bits .or .i64 (rd Ab x12_2) (ji55)))) (fun _ hk=>⟨hk.1.1,hk.1.2⟩))⟩,⟨rl_ HQ63⟩,⟨by (with_reducible repeat (first|refine blk_drewN ?_ _|refine blk_drew ?_|refine blk_alloc ?_ _));refine blk_far ?_ (by have h_:=Kd.R_ne Aa.1 Ac.1 (by decide);intro e_;exact h_ (by rw [e_];rfl)) _;(with_reducible repeat (first|refine blk_drewN ?_ _|refine blk_drew ?_|refine blk_alloc ?_ _));exact Ac.1⟩,⟨by (with_reducible repeat (first|refine blk_drewN ?_ _|refine blk_drew ?_|refine blk_alloc ?_ _));refine blk_far ?_ (by have h_:=Kd.R_ne Aa.1 Ad.1 (by decide);intro e_;exact h_ (by rw [e_];rfl)) _;(with_reducible repeat (first|refine blk_drewN ?_ _|refine blk_drew ?_|refine blk_alloc ?_ _));exact Ad.1⟩,⟨by repeat (first|(with_reducible first|exact HI0.1|apply Aaa.alloc|apply Aaa.drewN|apply Aaa.drew|apply Aaa.set_1|apply Aaa.set_2|refine Aaa.far ?_ HN0_go56.1 _|refine Aaa.far ?_ (Aside0.out (by assumption)) _)|exact HI0.1)⟩,⟨by repeat (first|(with_reducible first|exact HK.1|apply KeepBut.set_|apply keep_drewN|apply keep_drew|apply keep_alloc|refine keep_far ?_ GB56.1 _|refine keep_far ?_ Af.1 _|refine keep_far ?_ Aj.1 _)|exact HK.1)⟩,⟨by repeat (first|(with_reducible first|exact HB.1|apply below_alloc|apply pw_below_drewN|apply below_drew1|refine below_set ?_ (Nat.le_trans HL.1 GB56.1)|refine below_set ?_ (Aaa.ge HI0.1)|refine below_set ?_ (Aside0.out (by assumption)))|exact HB.1)⟩⟩
                     ·rw [if_neg c53] at H;exact absurd H (by simp)
                    ·replace c52:=Bool.eq_false_iff.mpr c52;subst c52;have H1 : (Aac.l2 k3 Ae Ag x8_3 x9_3 x12_2 (wrap64 (x13_3 + 1)) s0_0 Bj Bk Ae Ab) = some (r1,r2,r3,r4):=by rw [if_neg (show ¬ (false = true) by decide)] at H;exact H
                     clear H;have H:=H1;clear H1;have H':=A_ H;clear H;try go_wp2
                     replace HO_8:=A_ (Kd.R_drew HO_8.1);replace HO_9:=A_ (Kd.R_drew HO_9.1);replace Aa:=A_ (Kd.R_drew Aa.1);replace Ac:=A_ (blk_drew Ac.1);replace Ad:=A_ (blk_drew Ad.1);replace HI0:=A_ (Aaa.drew HI0.1);replace HK:=A_ (keep_drew HK.1);replace HB:=A_ (below_drew1 HB.1);obtain ⟨Ao65,co65,eo65⟩:=Kd.R_slice HO_9.1;(first|subst eo65|(injection eo65 with f1_ f2_ f3_;have f4_:=f1_.symm;have f5_:=f3_.symm;clear f1_ f2_ f3_;subst f4_;subst f5_))
                     have Aw : 0 ≤ (x12_2 : Int):=of_decide_eq_true (by first|(with_reducible assumption)|assumption);have Ax : x12_2 < (x9_3.length : Int):=of_decide_eq_true (by first|(with_reducible assumption)|assumption);obtain ⟨Bg,Bp,Ao⟩:=Kd.at_int (Kd.R_reads' HO_9.1).2.2 x12_2 Aw Ax;cases Bp
                     replace Aw:=eq_true Aw;replace Ax:=eq_true Ax;obtain ⟨Ao66,co66,eo66⟩:=Kd.R_slice HO_8.1;(first|subst eo66|(injection eo66 with f1_ f2_ f3_;have f4_:=f1_.symm;have f5_:=f3_.symm;clear f1_ f2_ f3_;subst f4_;subst f5_))
                     have Ay : 0 ≤ (x13_3 : Int):=of_decide_eq_true (by first|(with_reducible assumption)|assumption);have Az : x13_3 < (x8_3.length : Int):=of_decide_eq_true (by first|(with_reducible assumption)|assumption);obtain ⟨Bh,Bq,Ap⟩:=Kd.at_int (Kd.R_reads' HO_8.1).2.2 x13_3 Ay Az;cases Bq
                     replace Ay:=eq_true Ay;replace Az:=eq_true Az;refine start_ (n:=26) (S:=fun w'=>w'.cell? (Bg.add (x12_2).toNat) = some (.int .i64 (rd x9_3 x12_2)) ∧ w'.cell? (Bh.add (x13_3).toNat) = some (.int .i64 (rd x8_3 x13_3))) (ds:=[]) #[F,F,F,F,F,F,F,F,F,F,F,F,F,F,F,F,F,F,F,F,F,F,F,F,F,F] (by kernel_rfl) rfl rfl ⟨Ao,Ap⟩ (fun hHeld=>?_);refine with_tabW Aac.tab19 Aac.bits19 (fun HT_ HW_=>?_)
                     generalize wr.drew = w64 at HO_8 HO_9 Aa Ac Ad HI0 HK HB Ao Ap hHeld ⊢
                     refine pu_ (i:=0) (N:=61) #[T,F,F,F,F,F,F,F,F,F,F,F,F,F,F,F,F,F,F,F,F,F,F,F,F,F] HT_.1 rfl rfl (fun _ _ _ h=>h) rfl (h:=?_)
                     refine pu_ (i:=1) (N:=62) #[T,T,F,F,F,F,F,F,F,F,F,F,F,F,F,F,F,F,F,F,F,F,F,F,F,F] HT_.1 rfl rfl (fun _ _ _ h=>h) rfl (h:=?_)
                     refine pu_ (i:=2) (N:=63) #[T,T,T,F,F,F,F,F,F,F,F,F,F,F,F,F,F,F,F,F,F,F,F,F,F,F] HT_.1 rfl rfl (fun _ _ _ h=>h) rfl (h:=?_)
                     refine pu_ (i:=3) (N:=64) #[T,T,T,T,F,F,F,F,F,F,F,F,F,F,F,F,F,F,F,F,F,F,F,F,F,F] HT_.1 rfl rfl (fun _ _ _ h=>h) rfl (h:=?_)
                     refine pu_ (i:=4) (N:=65) #[T,T,T,T,T,F,F,F,F,F,F,F,F,F,F,F,F,F,F,F,F,F,F,F,F,F] HT_.1 rfl rfl (fun _ _ _ h=>h) rfl (h:=?_)
                     refine pu_ (i:=5) (N:=66) #[T,T,T,T,T,T,F,F,F,F,F,F,F,F,F,F,F,F,F,F,F,F,F,F,F,F] HT_.1 rfl rfl (fun _ _ _ h=>h) rfl (h:=?_)
                     refine pu_ (i:=7) (N:=68) #[T,T,T,T,T,T,F,T,F,F,F,F,F,F,F,F,F,F,F,F,F,F,F,F,F,F] HT_.1 rfl rfl (fun _ _ _ h=>h) rfl (h:=?_)
                     refine pu_ (i:=8) (N:=69) #[T,T,T,T,T,T,F,T,T,F,F,F,F,F,F,F,F,F,F,F,F,F,F,F,F,F] HT_.1 rfl rfl (fun _ _ _ h=>h) rfl (h:=?_)
                     refine pu_ (i:=9) (N:=70) #[T,T,T,T,T,T,F,T,T,T,F,F,F,F,F,F,F,F,F,F,F,F,F,F,F,F] HT_.1 rfl rfl (fun _ _ _ h=>h) rfl (h:=?_)
                     refine take_ (i:=6) (N:=some 67) (v:=?_) (a':=?_) #[T,T,T,T,T,T,T,T,T,T,F,F,F,F,F,F,F,F,F,F,F,F,F,F,F,F] rfl rfl (take_ofW HT_.1 HW_.1 (by kernel_rfl)) (fun _ _ _ h=>h) (Or.inl ⟨by rfl,?_⟩) hHeld ?_ ?_
                     rotate_left
                     ·rintro w' ⟨s0,s1⟩
                      go_simp
                      with_reducible rfl
                     rotate_left;·simp only [Act.put,L_,M_,N_,i64_w,i32_w];rfl
                     refine take_ (i:=10) (N:=some 71) (v:=?_) (a':=?_) #[T,T,T,T,T,T,T,T,T,T,T,F,F,F,F,F,F,F,F,F,F,F,F,F,F,F] rfl rfl (take_ofW HT_.1 HW_.1 (by kernel_rfl)) (fun _ _ _ h=>h) (Or.inl ⟨by rfl,?_⟩) hHeld ?_ ?_
                     rotate_left
                     ·rintro w' ⟨s0,s1⟩
                      go_simp
                      with_reducible rfl
                     rotate_left;·simp only [Act.put,L_,M_,N_,i64_w,i32_w];rfl
                     refine pu_ (i:=11) (N:=72) #[T,T,T,T,T,T,T,T,T,T,T,T,F,F,F,F,F,F,F,F,F,F,F,F,F,F] HT_.1 rfl rfl (fun _ _ _ h=>h) rfl (h:=?_)
                     refine pu_ (i:=12) (N:=73) #[T,T,T,T,T,T,T,T,T,T,T,T,T,F,F,F,F,F,F,F,F,F,F,F,F,F] HT_.1 rfl rfl (fun _ _ _ h=>h) rfl (h:=?_)
                     refine pu_ (i:=13) (N:=74) #[T,T,T,T,T,T,T,T,T,T,T,T,T,T,F,F,F,F,F,F,F,F,F,F,F,F] HT_.1 rfl rfl (fun _ _ _ h=>h) rfl (h:=?_)
                     refine pu_ (i:=14) (N:=75) #[T,T,T,T,T,T,T,T,T,T,T,T,T,T,T,F,F,F,F,F,F,F,F,F,F,F] HT_.1 rfl rfl (fun _ _ _ h=>h) rfl (h:=?_)
                     refine pu_ (i:=15) (N:=76) #[T,T,T,T,T,T,T,T,T,T,T,T,T,T,T,T,F,F,F,F,F,F,F,F,F,F] HT_.1 rfl rfl (fun _ _ _ h=>h) rfl (h:=?_)
                     refine pu_ (i:=16) (N:=77) #[T,T,T,T,T,T,T,T,T,T,T,T,T,T,T,T,T,F,F,F,F,F,F,F,F,F] HT_.1 rfl rfl (fun _ _ _ h=>h) rfl (h:=?_)
                     refine pu_ (i:=17) (N:=78) #[T,T,T,T,T,T,T,T,T,T,T,T,T,T,T,T,T,T,F,F,F,F,F,F,F,F] HT_.1 rfl rfl (fun _ _ _ h=>h) rfl (h:=?_)
                     refine pu_ (i:=18) (N:=79) #[T,T,T,T,T,T,T,T,T,T,T,T,T,T,T,T,T,T,T,F,F,F,F,F,F,F] HT_.1 rfl rfl (fun _ _ _ h=>h) rfl (h:=?_)
                     refine pu_ (i:=19) (N:=80) #[T,T,T,T,T,T,T,T,T,T,T,T,T,T,T,T,T,T,T,T,F,F,F,F,F,F] HT_.1 rfl rfl (fun _ _ _ h=>h) rfl (h:=?_)
                     refine pu_ (i:=20) (N:=81) #[T,T,T,T,T,T,T,T,T,T,T,T,T,T,T,T,T,T,T,T,T,F,F,F,F,F] HT_.1 rfl rfl (fun _ _ _ h=>h) rfl (h:=?_)
                     refine pu_ (i:=21) (N:=82) #[T,T,T,T,T,T,T,T,T,T,T,T,T,T,T,T,T,T,T,T,T,T,F,F,F,F] HT_.1 rfl rfl (fun _ _ _ h=>h) rfl (h:=?_)
                     refine pu_ (i:=22) (N:=83) #[T,T,T,T,T,T,T,T,T,T,T,T,T,T,T,T,T,T,T,T,T,T,T,F,F,F] HT_.1 rfl rfl (fun _ _ _ h=>h) rfl (h:=?_)
                     refine one_ (i:=23) (N:=some 84) #[T,T,T,T,T,T,T,T,T,T,T,T,T,T,T,T,T,T,T,T,T,T,T,T,F,F] rfl rfl (one_of HT_.1 (by kernel_rfl)) (by decide) (fun K hK=>?_)
                     refine goes_ Tryd.func58 (by kernel_rfl) rfl #[.pointer (some ⟨g,0,none⟩),.int .i64 3] (by rfl) rfl rfl au_ ?_
                     with_reducible refine (Aau.calls g s0_0 Ah Ai 3 false Bj Bk w0 _ ?side1 ?side2 A51.1).mono ?_
                     (case side1=>exact is_)
                     (case side2=>repeat (first|(with_reducible first|exact HB.1|apply below_alloc|apply pw_below_drewN|apply below_drew1|refine below_set ?_ (Aaa.ge HI0.1)|refine below_set ?_ (Aside0.out (by assumption)))|exact HB.1))
                     rintro e w67 ⟨rfl,hi,hb,hk⟩
                     have HS0_:=keep_cell hk (hHeld.1) (by first|(rw [add_block];exact Kd.own_blk (Aaa.own_ne HI0.1 HO_9.1 (by decide)))|(show (Addr.add _ _).block ≠ _;rw [add_block];exact Kd.own_blk (Aaa.own_ne HI0.1 HO_9.1 (by decide)))|exact Kd.own_blk (Aaa.own_ne HI0.1 HO_9.1 (by decide)));have HS1_:=keep_cell hk (hHeld.2) (by first|(rw [add_block];exact Kd.own_blk (Aaa.own_ne HI0.1 HO_8.1 (by decide)))|(show (Addr.add _ _).block ≠ _;rw [add_block];exact Kd.own_blk (Aaa.own_ne HI0.1 HO_8.1 (by decide)))|exact Kd.own_blk (Aaa.own_ne HI0.1 HO_8.1 (by decide)));refine ⟨_,rfl,?_⟩
                     replace HO_8:=A_ (Kd.R_mono (Kd.R_keep (Aaa.apart (show Aaa w0 _ g s0_0 Ah Ai from is_) (rl_ HO_8) (by decide)) hk (fun _ h=>h.2)) (fun _ h=>h.1));replace HO_9:=A_ (Kd.R_mono (Kd.R_keep (Aaa.apart (show Aaa w0 _ g s0_0 Ah Ai from is_) (rl_ HO_9) (by decide)) hk (fun _ h=>h.2)) (fun _ h=>h.1));replace Aa:=A_ (Kd.R_mono (Kd.R_keep (Aaa.apart (show Aaa w0 _ g s0_0 Ah Ai from is_) (rl_ Aa) (by decide)) hk (fun _ h=>h.2)) (fun _ h=>h.1));replace Ac:=A_ (KeepBut.blk hk (g':=Am) (o:=.cells #[.int .i64 0,.slice none 0 0] 26 (0,0)) (bl_ Ac) As.1 (by simp));replace Ad:=A_ (KeepBut.blk hk (g':=An) (o:=.cells #[.int .i64 Ae,Ak] 26 (0,0)) (bl_ Ad) At.1 (by simp));replace HK:=A_ (KeepBut.trans (by repeat (with_reducible first|exact HK.1|apply KeepBut.set_|apply keep_drewN|apply keep_drew|apply keep_alloc|refine keep_far ?_ Af.1 _|refine keep_far ?_ Aj.1 _)) hk (.inl rfl));replace HB:=A_ (hb);replace HI0:=A_ (hi);(try clear hb);(try clear hb2);(try clear hk);(try clear hi);refine hK.out _ _ ⟨HS0_,HS1_⟩ (fun hHeld=>?_)
                     clear hK K;refine norm_ (a':=?_) ?_ ?_
                     rotate_left
                     ·show Act.put _ (some 84) _ = _
                      simp only [Act.put,L_,M_,N_,i64_w,i32_w]
                      rfl
                     refine pu_ (i:=24) (N:=85) #[T,T,T,T,T,T,T,T,T,T,T,T,T,T,T,T,T,T,T,T,T,T,T,T,T,F] HT_.1 rfl rfl (fun _ _ _ h=>h) rfl (h:=?_)
                     refine pu_ (i:=25) (N:=86) #[T,T,T,T,T,T,T,T,T,T,T,T,T,T,T,T,T,T,T,T,T,T,T,T,T,T] HT_.1 rfl rfl (fun _ _ _ h=>h) rfl (h:=?_)
                     refine done_ (done_of HT_.1 (by kernel_rfl)) ?_
                     try go_wp2
                     go_roundg k3
                     case measure=>have:=HK1.1;have:=HK2.1;have:=HK3.1;omega
                     case rel=>exact ⟨(x8_3),(x9_3),(wrap64 (x13_3 + 1)),(Bj),(Bk),(Ab),(Ak),(by first|rfl|(simp;done)|(simp [*];done)),H',⟨by have:=HK1.1;have:=HK2.1;have:=HK3.1;omega⟩,⟨rl_ HO_8⟩,⟨rl_ HO_9⟩,⟨rl_ Aa⟩,⟨bl_ Ac⟩,⟨bl_ Ad⟩,⟨is_⟩,⟨by repeat (first|(with_reducible first|exact HK.1|apply KeepBut.set_|apply keep_drewN|apply keep_drew|apply keep_alloc|refine keep_far ?_ Af.1 _|refine keep_far ?_ Aj.1 _)|exact HK.1)⟩,⟨by repeat (first|(with_reducible first|exact HB.1|apply below_alloc|apply pw_below_drewN|apply below_drew1|refine below_set ?_ (Aaa.ge HI0.1)|refine below_set ?_ (Aside0.out (by assumption)))|exact HB.1)⟩⟩
                   ·rw [if_neg c50] at H;have c50b0 : decide (x12_2 < x13_3) = false:=decide_eq_false c50;clear c50;have H':=A_ H;clear H;try go_wp2
                    replace HO_8:=A_ (Kd.R_drew HO_8.1);replace HO_9:=A_ (Kd.R_drew HO_9.1);replace Aa:=A_ (Kd.R_drew Aa.1);replace Ac:=A_ (blk_drew Ac.1);replace Ad:=A_ (blk_drew Ad.1);replace HI0:=A_ (Aaa.drew HI0.1);replace HK:=A_ (keep_drew HK.1);replace HB:=A_ (below_drew1 HB.1);obtain ⟨Ao69,co69,eo69⟩:=Kd.R_slice HO_9.1;(first|subst eo69|(injection eo69 with f1_ f2_ f3_;have f4_:=f1_.symm;have f5_:=f3_.symm;clear f1_ f2_ f3_;subst f4_;subst f5_))
                    have Aw : 0 ≤ (x12_2 : Int):=of_decide_eq_true (by first|(with_reducible assumption)|assumption);have Ax : x12_2 < (x9_3.length : Int):=of_decide_eq_true (by first|(with_reducible assumption)|assumption);obtain ⟨Bg,Bp,Ao⟩:=Kd.at_int (Kd.R_reads' HO_9.1).2.2 x12_2 Aw Ax;cases Bp
                    replace Aw:=eq_true Aw;replace Ax:=eq_true Ax;obtain ⟨Ao70,co70,eo70⟩:=Kd.R_slice HO_8.1;(first|subst eo70|(injection eo70 with f1_ f2_ f3_;have f4_:=f1_.symm;have f5_:=f3_.symm;clear f1_ f2_ f3_;subst f4_;subst f5_))
                    have Ay : 0 ≤ (x13_3 : Int):=of_decide_eq_true (by first|(with_reducible assumption)|assumption);have Az : x13_3 < (x8_3.length : Int):=of_decide_eq_true (by first|(with_reducible assumption)|assumption);obtain ⟨Bh,Bq,Ap⟩:=Kd.at_int (Kd.R_reads' HO_8.1).2.2 x13_3 Ay Az;cases Bq
                    replace Ay:=eq_true Ay;replace Az:=eq_true Az;refine start_ (n:=26) (S:=fun w'=>w'.cell? (Bg.add (x12_2).toNat) = some (.int .i64 (rd x9_3 x12_2)) ∧ w'.cell? (Bh.add (x13_3).toNat) = some (.int .i64 (rd x8_3 x13_3))) (ds:=[]) #[F,F,F,F,F,F,F,F,F,F,F,F,F,F,F,F,F,F,F,F,F,F,F,F,F,F] (by kernel_rfl) rfl rfl ⟨Ao,Ap⟩ (fun hHeld=>?_);refine with_tabW Aac.tab19 Aac.bits19 (fun HT_ HW_=>?_)
                    generalize wr.drew = w68 at HO_8 HO_9 Aa Ac Ad HI0 HK HB Ao Ap hHeld ⊢
                    refine pu_ (i:=0) (N:=61) #[T,F,F,F,F,F,F,F,F,F,F,F,F,F,F,F,F,F,F,F,F,F,F,F,F,F] HT_.1 rfl rfl (fun _ _ _ h=>h) rfl (h:=?_)
                    refine pu_ (i:=1) (N:=62) #[T,T,F,F,F,F,F,F,F,F,F,F,F,F,F,F,F,F,F,F,F,F,F,F,F,F] HT_.1 rfl rfl (fun _ _ _ h=>h) rfl (h:=?_)
                    refine pu_ (i:=2) (N:=63) #[T,T,T,F,F,F,F,F,F,F,F,F,F,F,F,F,F,F,F,F,F,F,F,F,F,F] HT_.1 rfl rfl (fun _ _ _ h=>h) rfl (h:=?_)
                    refine pu_ (i:=3) (N:=64) #[T,T,T,T,F,F,F,F,F,F,F,F,F,F,F,F,F,F,F,F,F,F,F,F,F,F] HT_.1 rfl rfl (fun _ _ _ h=>h) rfl (h:=?_)
                    refine pu_ (i:=4) (N:=65) #[T,T,T,T,T,F,F,F,F,F,F,F,F,F,F,F,F,F,F,F,F,F,F,F,F,F] HT_.1 rfl rfl (fun _ _ _ h=>h) rfl (h:=?_)
                    refine pu_ (i:=5) (N:=66) #[T,T,T,T,T,T,F,F,F,F,F,F,F,F,F,F,F,F,F,F,F,F,F,F,F,F] HT_.1 rfl rfl (fun _ _ _ h=>h) rfl (h:=?_)
                    refine pu_ (i:=7) (N:=68) #[T,T,T,T,T,T,F,T,F,F,F,F,F,F,F,F,F,F,F,F,F,F,F,F,F,F] HT_.1 rfl rfl (fun _ _ _ h=>h) rfl (h:=?_)
                    refine pu_ (i:=8) (N:=69) #[T,T,T,T,T,T,F,T,T,F,F,F,F,F,F,F,F,F,F,F,F,F,F,F,F,F] HT_.1 rfl rfl (fun _ _ _ h=>h) rfl (h:=?_)
                    refine pu_ (i:=9) (N:=70) #[T,T,T,T,T,T,F,T,T,T,F,F,F,F,F,F,F,F,F,F,F,F,F,F,F,F] HT_.1 rfl rfl (fun _ _ _ h=>h) rfl (h:=?_)
                    refine take_ (i:=6) (N:=some 67) (v:=?_) (a':=?_) #[T,T,T,T,T,T,T,T,T,T,F,F,F,F,F,F,F,F,F,F,F,F,F,F,F,F] rfl rfl (take_ofW HT_.1 HW_.1 (by kernel_rfl)) (fun _ _ _ h=>h) (Or.inl ⟨by rfl,?_⟩) hHeld ?_ ?_
                    rotate_left
                    ·rintro w' ⟨s0,s1⟩
                     go_simp
                     with_reducible rfl
                    rotate_left;·simp only [Act.put,L_,M_,N_,i64_w,i32_w];rfl
                    refine take_ (i:=10) (N:=some 71) (v:=?_) (a':=?_) #[T,T,T,T,T,T,T,T,T,T,T,F,F,F,F,F,F,F,F,F,F,F,F,F,F,F] rfl rfl (take_ofW HT_.1 HW_.1 (by kernel_rfl)) (fun _ _ _ h=>h) (Or.inl ⟨by rfl,?_⟩) hHeld ?_ ?_
                    rotate_left
                    ·rintro w' ⟨s0,s1⟩
                     go_simp
                     with_reducible rfl
                    rotate_left;·simp only [Act.put,L_,M_,N_,i64_w,i32_w];rfl
                    refine pu_ (i:=11) (N:=72) #[T,T,T,T,T,T,T,T,T,T,T,T,F,F,F,F,F,F,F,F,F,F,F,F,F,F] HT_.1 rfl rfl (fun _ _ _ h=>h) rfl (h:=?_)
                    refine pu_ (i:=12) (N:=73) #[T,T,T,T,T,T,T,T,T,T,T,T,T,F,F,F,F,F,F,F,F,F,F,F,F,F] HT_.1 rfl rfl (fun _ _ _ h=>h) rfl (h:=?_)
                    refine pu_ (i:=13) (N:=74) #[T,T,T,T,T,T,T,T,T,T,T,T,T,T,F,F,F,F,F,F,F,F,F,F,F,F] HT_.1 rfl rfl (fun _ _ _ h=>h) rfl (h:=?_)
                    refine pu_ (i:=14) (N:=75) #[T,T,T,T,T,T,T,T,T,T,T,T,T,T,T,F,F,F,F,F,F,F,F,F,F,F] HT_.1 rfl rfl (fun _ _ _ h=>h) rfl (h:=?_)
                    refine pu_ (i:=15) (N:=76) #[T,T,T,T,T,T,T,T,T,T,T,T,T,T,T,T,F,F,F,F,F,F,F,F,F,F] HT_.1 rfl rfl (fun _ _ _ h=>h) rfl (h:=?_)
                    refine pu_ (i:=16) (N:=77) #[T,T,T,T,T,T,T,T,T,T,T,T,T,T,T,T,T,F,F,F,F,F,F,F,F,F] HT_.1 rfl rfl (fun _ _ _ h=>h) rfl (h:=?_)
                    refine pu_ (i:=17) (N:=78) #[T,T,T,T,T,T,T,T,T,T,T,T,T,T,T,T,T,T,F,F,F,F,F,F,F,F] HT_.1 rfl rfl (fun _ _ _ h=>h) rfl (h:=?_)
                    refine pu_ (i:=18) (N:=79) #[T,T,T,T,T,T,T,T,T,T,T,T,T,T,T,T,T,T,T,F,F,F,F,F,F,F] HT_.1 rfl rfl (fun _ _ _ h=>h) rfl (h:=?_)
                    refine pu_ (i:=19) (N:=80) #[T,T,T,T,T,T,T,T,T,T,T,T,T,T,T,T,T,T,T,T,F,F,F,F,F,F] HT_.1 rfl rfl (fun _ _ _ h=>h) rfl (h:=?_)
                    refine pu_ (i:=20) (N:=81) #[T,T,T,T,T,T,T,T,T,T,T,T,T,T,T,T,T,T,T,T,T,F,F,F,F,F] HT_.1 rfl rfl (fun _ _ _ h=>h) rfl (h:=?_)
                    refine pu_ (i:=21) (N:=82) #[T,T,T,T,T,T,T,T,T,T,T,T,T,T,T,T,T,T,T,T,T,T,F,F,F,F] HT_.1 rfl rfl (fun _ _ _ h=>h) rfl (h:=?_)
                    refine pure_ (i:=22) (N:=some 83) (v:=undef) (a':=?_) #[T,T,T,T,T,T,T,T,T,T,T,T,T,T,T,T,T,T,T,T,T,T,T,F,F,F] rfl rfl (any_of HT_.1 (by kernel_rfl)) (fun _ _ _ h=>h) (Or.inr ⟨by rfl,rfl⟩) ?_ ?_
                    rotate_left;·simp only [Act.put,L_,M_,N_,i64_w,i32_w];rfl
                    refine pure_ (i:=23) (N:=some 84) (v:=undef) (a':=?_) #[T,T,T,T,T,T,T,T,T,T,T,T,T,T,T,T,T,T,T,T,T,T,T,T,F,F] rfl rfl (any_of HT_.1 (by kernel_rfl)) (fun _ _ _ h=>h) (Or.inr ⟨by rfl,rfl⟩) ?_ ?_
                    rotate_left;·simp only [Act.put,L_,M_,N_,i64_w,i32_w];rfl
                    refine pu_ (i:=24) (N:=85) #[T,T,T,T,T,T,T,T,T,T,T,T,T,T,T,T,T,T,T,T,T,T,T,T,T,F] HT_.1 rfl rfl (fun _ _ _ h=>h) rfl (h:=?_)
                    refine pu_ (i:=25) (N:=86) #[T,T,T,T,T,T,T,T,T,T,T,T,T,T,T,T,T,T,T,T,T,T,T,T,T,T] HT_.1 rfl rfl (fun _ _ _ h=>h) rfl (h:=?_)
                    refine done_ (done_of HT_.1 (by kernel_rfl)) ?_
                    try go_wp2
                    go_roundg k3
                    case measure=>have:=HK1.1;have:=HK2.1;have:=HK3.1;omega
                    case rel=>exact ⟨(x8_3),(x9_3),(wrap64 (x13_3 + 1)),(Ah),(Ai),(Ab),(Ak),(by first|rfl|(simp;done)|(simp [*];done)),H',⟨by have:=HK1.1;have:=HK2.1;have:=HK3.1;omega⟩,⟨rl_ HO_8⟩,⟨rl_ HO_9⟩,⟨rl_ Aa⟩,⟨bl_ Ac⟩,⟨bl_ Ad⟩,⟨is_⟩,⟨by repeat (first|(with_reducible first|exact HK.1|apply KeepBut.set_|apply keep_drewN|apply keep_drew|apply keep_alloc|refine keep_far ?_ Af.1 _|refine keep_far ?_ Aj.1 _)|exact HK.1)⟩,⟨by repeat (first|(with_reducible first|exact HB.1|apply below_alloc|apply pw_below_drewN|apply below_drew1|refine below_set ?_ (Aaa.ge HI0.1)|refine below_set ?_ (Aside0.out (by assumption)))|exact HB.1)⟩⟩
                  ·rw [if_neg c49] at H;have c49b0 : (Ag == 0) = false:=beq_eq_false_iff_ne.mpr c49;have c49b1 : (Ag != 0) = true:=bne_iff_ne.mpr c49;have H':=A_ H;clear H;try go_wp2
                   replace HO_8:=A_ (Kd.R_drew HO_8.1);replace HO_9:=A_ (Kd.R_drew HO_9.1);replace Aa:=A_ (Kd.R_drew Aa.1);replace Ac:=A_ (blk_drew Ac.1);replace Ad:=A_ (blk_drew Ad.1);replace HI0:=A_ (Aaa.drew HI0.1);replace HK:=A_ (keep_drew HK.1);replace HB:=A_ (below_drew1 HB.1);obtain ⟨Ao72,co72,eo72⟩:=Kd.R_slice HO_9.1;(first|subst eo72|(injection eo72 with f1_ f2_ f3_;have f4_:=f1_.symm;have f5_:=f3_.symm;clear f1_ f2_ f3_;subst f4_;subst f5_))
                   have Aw : 0 ≤ (x12_2 : Int):=of_decide_eq_true (by first|(with_reducible assumption)|assumption);have Ax : x12_2 < (x9_3.length : Int):=of_decide_eq_true (by first|(with_reducible assumption)|assumption);obtain ⟨Bg,Bp,Ao⟩:=Kd.at_int (Kd.R_reads' HO_9.1).2.2 x12_2 Aw Ax;cases Bp
                   replace Aw:=eq_true Aw;replace Ax:=eq_true Ax;obtain ⟨Ao73,co73,eo73⟩:=Kd.R_slice HO_8.1;(first|subst eo73|(injection eo73 with f1_ f2_ f3_;have f4_:=f1_.symm;have f5_:=f3_.symm;clear f1_ f2_ f3_;subst f4_;subst f5_))
                   have Ay : 0 ≤ (x13_3 : Int):=of_decide_eq_true (by first|(with_reducible assumption)|assumption);have Az : x13_3 < (x8_3.length : Int):=of_decide_eq_true (by first|(with_reducible assumption)|assumption);obtain ⟨Bh,Bq,Ap⟩:=Kd.at_int (Kd.R_reads' HO_8.1).2.2 x13_3 Ay Az;cases Bq
                   replace Ay:=eq_true Ay;replace Az:=eq_true Az;refine start_ (n:=26) (S:=fun w'=>w'.cell? (Bg.add (x12_2).toNat) = some (.int .i64 (rd x9_3 x12_2)) ∧ w'.cell? (Bh.add (x13_3).toNat) = some (.int .i64 (rd x8_3 x13_3))) (ds:=[]) #[F,F,F,F,F,F,F,F,F,F,F,F,F,F,F,F,F,F,F,F,F,F,F,F,F,F] (by kernel_rfl) rfl rfl ⟨Ao,Ap⟩ (fun hHeld=>?_);refine with_tabW Aac.tab19 Aac.bits19 (fun HT_ HW_=>?_)
                   generalize wr.drew = w71 at HO_8 HO_9 Aa Ac Ad HI0 HK HB Ao Ap hHeld ⊢
                   refine pu_ (i:=0) (N:=61) #[T,F,F,F,F,F,F,F,F,F,F,F,F,F,F,F,F,F,F,F,F,F,F,F,F,F] HT_.1 rfl rfl (fun _ _ _ h=>h) rfl (h:=?_)
                   refine pu_ (i:=1) (N:=62) #[T,T,F,F,F,F,F,F,F,F,F,F,F,F,F,F,F,F,F,F,F,F,F,F,F,F] HT_.1 rfl rfl (fun _ _ _ h=>h) rfl (h:=?_)
                   refine pu_ (i:=2) (N:=63) #[T,T,T,F,F,F,F,F,F,F,F,F,F,F,F,F,F,F,F,F,F,F,F,F,F,F] HT_.1 rfl rfl (fun _ _ _ h=>h) rfl (h:=?_)
                   refine pu_ (i:=3) (N:=64) #[T,T,T,T,F,F,F,F,F,F,F,F,F,F,F,F,F,F,F,F,F,F,F,F,F,F] HT_.1 rfl rfl (fun _ _ _ h=>h) rfl (h:=?_)
                   refine pu_ (i:=4) (N:=65) #[T,T,T,T,T,F,F,F,F,F,F,F,F,F,F,F,F,F,F,F,F,F,F,F,F,F] HT_.1 rfl rfl (fun _ _ _ h=>h) rfl (h:=?_)
                   refine pu_ (i:=5) (N:=66) #[T,T,T,T,T,T,F,F,F,F,F,F,F,F,F,F,F,F,F,F,F,F,F,F,F,F] HT_.1 rfl rfl (fun _ _ _ h=>h) rfl (h:=?_)
                   refine pu_ (i:=7) (N:=68) #[T,T,T,T,T,T,F,T,F,F,F,F,F,F,F,F,F,F,F,F,F,F,F,F,F,F] HT_.1 rfl rfl (fun _ _ _ h=>h) rfl (h:=?_)
                   refine pu_ (i:=8) (N:=69) #[T,T,T,T,T,T,F,T,T,F,F,F,F,F,F,F,F,F,F,F,F,F,F,F,F,F] HT_.1 rfl rfl (fun _ _ _ h=>h) rfl (h:=?_)
                   refine pu_ (i:=9) (N:=70) #[T,T,T,T,T,T,F,T,T,T,F,F,F,F,F,F,F,F,F,F,F,F,F,F,F,F] HT_.1 rfl rfl (fun _ _ _ h=>h) rfl (h:=?_)
                   refine take_ (i:=6) (N:=some 67) (v:=?_) (a':=?_) #[T,T,T,T,T,T,T,T,T,T,F,F,F,F,F,F,F,F,F,F,F,F,F,F,F,F] rfl rfl (take_ofW HT_.1 HW_.1 (by kernel_rfl)) (fun _ _ _ h=>h) (Or.inl ⟨by rfl,?_⟩) hHeld ?_ ?_
                   rotate_left
                   ·rintro w' ⟨s0,s1⟩
                    go_simp
                    with_reducible rfl
                   rotate_left;·simp only [Act.put,L_,M_,N_,i64_w,i32_w];rfl
                   refine take_ (i:=10) (N:=some 71) (v:=?_) (a':=?_) #[T,T,T,T,T,T,T,T,T,T,T,F,F,F,F,F,F,F,F,F,F,F,F,F,F,F] rfl rfl (take_ofW HT_.1 HW_.1 (by kernel_rfl)) (fun _ _ _ h=>h) (Or.inl ⟨by rfl,?_⟩) hHeld ?_ ?_
                   rotate_left
                   ·rintro w' ⟨s0,s1⟩
                    go_simp
                    with_reducible rfl
                   rotate_left;·simp only [Act.put,L_,M_,N_,i64_w,i32_w];rfl
                   refine pu_ (i:=11) (N:=72) #[T,T,T,T,T,T,T,T,T,T,T,T,F,F,F,F,F,F,F,F,F,F,F,F,F,F] HT_.1 rfl rfl (fun _ _ _ h=>h) rfl (h:=?_)
                   refine pu_ (i:=12) (N:=73) #[T,T,T,T,T,T,T,T,T,T,T,T,T,F,F,F,F,F,F,F,F,F,F,F,F,F] HT_.1 rfl rfl (fun _ _ _ h=>h) rfl (h:=?_)
                   refine pu_ (i:=13) (N:=74) #[T,T,T,T,T,T,T,T,T,T,T,T,T,T,F,F,F,F,F,F,F,F,F,F,F,F] HT_.1 rfl rfl (fun _ _ _ h=>h) rfl (h:=?_)
                   refine pu_ (i:=14) (N:=75) #[T,T,T,T,T,T,T,T,T,T,T,T,T,T,T,F,F,F,F,F,F,F,F,F,F,F] HT_.1 rfl rfl (fun _ _ _ h=>h) rfl (h:=?_)
                   refine pu_ (i:=15) (N:=76) #[T,T,T,T,T,T,T,T,T,T,T,T,T,T,T,T,F,F,F,F,F,F,F,F,F,F] HT_.1 rfl rfl (fun _ _ _ h=>h) rfl (h:=?_)
                   refine pu_ (i:=16) (N:=77) #[T,T,T,T,T,T,T,T,T,T,T,T,T,T,T,T,T,F,F,F,F,F,F,F,F,F] HT_.1 rfl rfl (fun _ _ _ h=>h) rfl (h:=?_)
                   refine pure_ (i:=17) (N:=some 78) (v:=undef) (a':=?_) #[T,T,T,T,T,T,T,T,T,T,T,T,T,T,T,T,T,T,F,F,F,F,F,F,F,F] rfl rfl (any_of HT_.1 (by kernel_rfl)) (fun _ _ _ h=>h) (Or.inr ⟨by rfl,rfl⟩) ?_ ?_
                   rotate_left;·simp only [Act.put,L_,M_,N_,i64_w,i32_w];rfl
                   refine pure_ (i:=18) (N:=some 79) (v:=undef) (a':=?_) #[T,T,T,T,T,T,T,T,T,T,T,T,T,T,T,T,T,T,T,F,F,F,F,F,F,F] rfl rfl (any_of HT_.1 (by kernel_rfl)) (fun _ _ _ h=>h) (Or.inr ⟨by rfl,rfl⟩) ?_ ?_
                   rotate_left;·simp only [Act.put,L_,M_,N_,i64_w,i32_w];rfl
                   refine pure_ (i:=19) (N:=some 80) (v:=undef) (a':=?_) #[T,T,T,T,T,T,T,T,T,T,T,T,T,T,T,T,T,T,T,T,F,F,F,F,F,F] rfl rfl (any_of HT_.1 (by kernel_rfl)) (fun _ _ _ h=>h) (Or.inr ⟨by rfl,rfl⟩) ?_ ?_
                   rotate_left;·simp only [Act.put,L_,M_,N_,i64_w,i32_w];rfl
                   refine pu_ (i:=20) (N:=81) #[T,T,T,T,T,T,T,T,T,T,T,T,T,T,T,T,T,T,T,T,T,F,F,F,F,F] HT_.1 rfl rfl (fun _ _ _ h=>h) rfl (h:=?_)
                   refine pu_ (i:=21) (N:=82) #[T,T,T,T,T,T,T,T,T,T,T,T,T,T,T,T,T,T,T,T,T,T,F,F,F,F] HT_.1 rfl rfl (fun _ _ _ h=>h) rfl (h:=?_)
                   refine pure_ (i:=22) (N:=some 83) (v:=undef) (a':=?_) #[T,T,T,T,T,T,T,T,T,T,T,T,T,T,T,T,T,T,T,T,T,T,T,F,F,F] rfl rfl (any_of HT_.1 (by kernel_rfl)) (fun _ _ _ h=>h) (Or.inr ⟨by rfl,rfl⟩) ?_ ?_
                   rotate_left;·simp only [Act.put,L_,M_,N_,i64_w,i32_w];rfl
                   refine pure_ (i:=23) (N:=some 84) (v:=undef) (a':=?_) #[T,T,T,T,T,T,T,T,T,T,T,T,T,T,T,T,T,T,T,T,T,T,T,T,F,F] rfl rfl (any_of HT_.1 (by kernel_rfl)) (fun _ _ _ h=>h) (Or.inr ⟨by rfl,rfl⟩) ?_ ?_
                   rotate_left;·simp only [Act.put,L_,M_,N_,i64_w,i32_w];rfl
                   refine pu_ (i:=24) (N:=85) #[T,T,T,T,T,T,T,T,T,T,T,T,T,T,T,T,T,T,T,T,T,T,T,T,T,F] HT_.1 rfl rfl (fun _ _ _ h=>h) rfl (h:=?_)
                   refine pu_ (i:=25) (N:=86) #[T,T,T,T,T,T,T,T,T,T,T,T,T,T,T,T,T,T,T,T,T,T,T,T,T,T] HT_.1 rfl rfl (fun _ _ _ h=>h) rfl (h:=?_)
                   refine done_ (done_of HT_.1 (by kernel_rfl)) ?_
                   try go_wp2
                   go_roundg k3
                   case measure=>have:=HK1.1;have:=HK2.1;have:=HK3.1;omega
                   case rel=>exact ⟨(x8_3),(x9_3),(wrap64 (x13_3 + 1)),(Ah),(Ai),(Ab),(Ak),(by first|rfl|(simp;done)|(simp [*];done)),H',⟨by have:=HK1.1;have:=HK2.1;have:=HK3.1;omega⟩,⟨rl_ HO_8⟩,⟨rl_ HO_9⟩,⟨rl_ Aa⟩,⟨bl_ Ac⟩,⟨bl_ Ad⟩,⟨is_⟩,⟨by repeat (first|(with_reducible first|exact HK.1|apply KeepBut.set_|apply keep_drewN|apply keep_drew|apply keep_alloc|refine keep_far ?_ Af.1 _|refine keep_far ?_ Aj.1 _)|exact HK.1)⟩,⟨by repeat (first|(with_reducible first|exact HB.1|apply below_alloc|apply pw_below_drewN|apply below_drew1|refine below_set ?_ (Aaa.ge HI0.1)|refine below_set ?_ (Aside0.out (by assumption)))|exact HB.1)⟩⟩
                ·rw [if_neg c37] at H;exact absurd H (by simp)
               ·rw [if_neg c36] at H;exact absurd H (by simp)
              ·rw [if_neg c35] at H;exact absurd H (by simp)
             ·rw [if_neg c34] at H;exact absurd H (by simp)
            ·rw [if_neg c33] at H;have c33b0 : decide (0 < Ag) = false:=decide_eq_false c33;clear c33;by_cases c74 : Ag = 0
             ·rw [if_pos c74] at H;have c74b0 : (Ag == 0) = true:=beq_iff_eq.mpr c74;have c74b1 : (Ag != 0) = false:=bne_eq_false_iff_eq.mpr c74;clear c74;by_cases c75 : x12_2 < x13_3
              ·rw [if_pos c75] at H;have c75b0 : decide (x12_2 < x13_3) = true:=decide_eq_true c75;clear c75;replace H:=Option.bind_eq_some_iff.mp H;obtain ⟨⟨C7,Bl,Bm⟩,C8,H⟩:=H;replace H : (if C7 = true then (if 0 ≤ x12_2 then (if x12_2 < (Ab.length : Int) then (if 0 ≤ x13_3 then (Aac.l2 k3 Ae Ag x8_3 x9_3 x12_2 (wrap64 (x13_3 + 1)) s0_0 Bl Bm Ae (Ab.set (x12_2 : Int).toNat (Go.bits .or .i64 (rd Ab x12_2) (shl .i64 1 x13_3)))) else (none)) else (none)) else (none)) else (Aac.l2 k3 Ae Ag x8_3 x9_3 x12_2 (wrap64 (x13_3 + 1)) s0_0 Bl Bm Ae Ab)) = some (r1,r2,r3,r4):=H;have A76:=A_ C8;clear C8;by_cases c77 : C7 = true
               ·subst c77;have H1 : (if 0 ≤ x12_2 then (if x12_2 < (Ab.length : Int) then (if 0 ≤ x13_3 then (Aac.l2 k3 Ae Ag x8_3 x9_3 x12_2 (wrap64 (x13_3 + 1)) s0_0 Bl Bm Ae (Ab.set (x12_2 : Int).toNat (Go.bits .or .i64 (rd Ab x12_2) (shl .i64 1 x13_3)))) else (none)) else (none)) else (none)) = some (r1,r2,r3,r4):=by rw [if_pos rfl] at H;exact H
                clear H;have H:=H1;clear H1;by_cases c78 : 0 ≤ x12_2
                ·rw [if_pos c78] at H;have c78b0 : decide (0 ≤ x12_2) = true:=decide_eq_true c78;clear c78;by_cases c79 : x12_2 < (Ab.length : Int)
                 ·rw [if_pos c79] at H;have c79b0 : decide (x12_2 < (Ab.length : Int)) = true:=decide_eq_true c79;clear c79;by_cases c80 : 0 ≤ x13_3
                  ·rw [if_pos c80] at H;have c80b0:=eq_true c80;have c80b1 : decide (0 ≤ x13_3) = true:=decide_eq_true c80;clear c80;obtain ⟨ji81,hji81⟩ : ∃ j_ : Int,(shl .i64 1 x13_3) = j_:=⟨_,rfl⟩;replace H : (Aac.l2 k3 Ae Ag x8_3 x9_3 x12_2 (wrap64 (x13_3 + 1)) s0_0 Bl Bm Ae (Ab.set (x12_2 : Int).toNat (Go.bits .or .i64 (rd Ab x12_2) (ji81)))) = some (r1,r2,r3,r4):=by first|(rw [hji81] at H;exact H)|(simp only [hji81] at H ⊢;exact H)
                   (try rw [hji81] at A76);have hji81_ : (IntKind.i64.wrap (1 * 2 ^ min x13_3.toNat 64)) = ji81:=hji81;have hji81z : x13_3 ≤ 64 → (IntKind.i64.wrap (1 * 2 ^ x13_3.toNat)) = ji81:=shl_small hji81;have hji81u : (IntKind.i64.wrap (2 ^ min x13_3.toNat 64)) = ji81:=by have h_:=hji81_;rw [Int.one_mul] at h_;exact h_
                   have hji81v : x13_3 ≤ 64 → (IntKind.i64.wrap (2 ^ x13_3.toNat)) = ji81:=fun hle_=>by have h_:=hji81z hle_;rw [Int.one_mul] at h_;exact h_
                   have hji81y : (wrap64 (1 * 2 ^ min x13_3.toNat 64)) = ji81:=(i64_w _).symm.trans hji81_;have hji81x : x13_3 ≤ 64 → (wrap64 (1 * 2 ^ x13_3.toNat)) = ji81:=fun h_=>(i64_w _).symm.trans (hji81z h_)
                   obtain ⟨C9,B6⟩ : ∃ y_ : List Int,y_ = (Ab.set (x12_2 : Int).toNat (Go.bits .or .i64 (rd Ab x12_2) (ji81))):=⟨_,rfl⟩;replace H : (Aac.l2 k3 Ae Ag x8_3 x9_3 x12_2 (wrap64 (x13_3 + 1)) s0_0 Bl Bm Ae C9) = some (r1,r2,r3,r4):=by first|(rw [B6];with_reducible exact H)|(have H2_:=(Option.bind_some _ _).symm.trans H;rw [B6];with_reducible exact H2_)|(have H2_:=(Option.bind_some _ _).symm.trans H;with_reducible exact H2_)|with_reducible exact H|(rw [B6];exact H)|exact H
                   have Dh:=A_ B6;clear B6;have H':=A_ H;clear H;try go_wp2
                   replace HO_8:=A_ (Kd.R_drew HO_8.1);replace HO_9:=A_ (Kd.R_drew HO_9.1);replace Aa:=A_ (Kd.R_drew Aa.1);replace Ac:=A_ (blk_drew Ac.1);replace Ad:=A_ (blk_drew Ad.1);replace HI0:=A_ (Aaa.drew HI0.1);replace HK:=A_ (keep_drew HK.1);replace HB:=A_ (below_drew1 HB.1);refine start_ (n:=26) (S:=fun w'=>True) (ds:=[]) #[F,F,F,F,F,F,F,F,F,F,F,F,F,F,F,F,F,F,F,F,F,F,F,F,F,F] (by kernel_rfl) rfl rfl trivial (fun hHeld=>?_);refine with_tabW Aac.tab19 Aac.bits19 (fun HT_ HW_=>?_)
                   generalize wr.drew = w83 at HO_8 HO_9 Aa Ac Ad HI0 HK HB hHeld ⊢
                   refine pu_ (i:=0) (N:=61) #[T,F,F,F,F,F,F,F,F,F,F,F,F,F,F,F,F,F,F,F,F,F,F,F,F,F] HT_.1 rfl rfl (fun _ _ _ h=>h) rfl (h:=?_)
                   refine pu_ (i:=1) (N:=62) #[T,T,F,F,F,F,F,F,F,F,F,F,F,F,F,F,F,F,F,F,F,F,F,F,F,F] HT_.1 rfl rfl (fun _ _ _ h=>h) rfl (h:=?_)
                   refine pu_ (i:=2) (N:=63) #[T,T,T,F,F,F,F,F,F,F,F,F,F,F,F,F,F,F,F,F,F,F,F,F,F,F] HT_.1 rfl rfl (fun _ _ _ h=>h) rfl (h:=?_)
                   refine pure_ (i:=3) (N:=some 64) (v:=undef) (a':=?_) #[T,T,T,T,F,F,F,F,F,F,F,F,F,F,F,F,F,F,F,F,F,F,F,F,F,F] rfl rfl (any_of HT_.1 (by kernel_rfl)) (fun _ _ _ h=>h) (Or.inr ⟨by rfl,rfl⟩) ?_ ?_
                   rotate_left;·simp only [Act.put,L_,M_,N_,i64_w,i32_w];rfl
                   refine pure_ (i:=4) (N:=some 65) (v:=undef) (a':=?_) #[T,T,T,T,T,F,F,F,F,F,F,F,F,F,F,F,F,F,F,F,F,F,F,F,F,F] rfl rfl (any_of HT_.1 (by kernel_rfl)) (fun _ _ _ h=>h) (Or.inr ⟨by rfl,rfl⟩) ?_ ?_
                   rotate_left;·simp only [Act.put,L_,M_,N_,i64_w,i32_w];rfl
                   refine pure_ (i:=5) (N:=some 66) (v:=undef) (a':=?_) #[T,T,T,T,T,T,F,F,F,F,F,F,F,F,F,F,F,F,F,F,F,F,F,F,F,F] rfl rfl (any_of HT_.1 (by kernel_rfl)) (fun _ _ _ h=>h) (Or.inr ⟨by rfl,rfl⟩) ?_ ?_
                   rotate_left;·simp only [Act.put,L_,M_,N_,i64_w,i32_w];rfl
                   refine pure_ (i:=6) (N:=some 67) (v:=undef) (a':=?_) #[T,T,T,T,T,T,T,F,F,F,F,F,F,F,F,F,F,F,F,F,F,F,F,F,F,F] rfl rfl (any_of HT_.1 (by kernel_rfl)) (fun _ _ _ h=>h) (Or.inr ⟨by rfl,rfl⟩) ?_ ?_
                   rotate_left;·simp only [Act.put,L_,M_,N_,i64_w,i32_w];rfl
                   refine pure_ (i:=7) (N:=some 68) (v:=undef) (a':=?_) #[T,T,T,T,T,T,T,T,F,F,F,F,F,F,F,F,F,F,F,F,F,F,F,F,F,F] rfl rfl (any_of HT_.1 (by kernel_rfl)) (fun _ _ _ h=>h) (Or.inr ⟨by rfl,rfl⟩) ?_ ?_
                   rotate_left;·simp only [Act.put,L_,M_,N_,i64_w,i32_w];rfl
                   refine pure_ (i:=8) (N:=some 69) (v:=undef) (a':=?_) #[T,T,T,T,T,T,T,T,T,F,F,F,F,F,F,F,F,F,F,F,F,F,F,F,F,F] rfl rfl (any_of HT_.1 (by kernel_rfl)) (fun _ _ _ h=>h) (Or.inr ⟨by rfl,rfl⟩) ?_ ?_
                   rotate_left;·simp only [Act.put,L_,M_,N_,i64_w,i32_w];rfl
                   refine pure_ (i:=9) (N:=some 70) (v:=undef) (a':=?_) #[T,T,T,T,T,T,T,T,T,T,F,F,F,F,F,F,F,F,F,F,F,F,F,F,F,F] rfl rfl (any_of HT_.1 (by kernel_rfl)) (fun _ _ _ h=>h) (Or.inr ⟨by rfl,rfl⟩) ?_ ?_
                   rotate_left;·simp only [Act.put,L_,M_,N_,i64_w,i32_w];rfl
                   refine pure_ (i:=10) (N:=some 71) (v:=undef) (a':=?_) #[T,T,T,T,T,T,T,T,T,T,T,F,F,F,F,F,F,F,F,F,F,F,F,F,F,F] rfl rfl (any_of HT_.1 (by kernel_rfl)) (fun _ _ _ h=>h) (Or.inr ⟨by rfl,rfl⟩) ?_ ?_
                   rotate_left;·simp only [Act.put,L_,M_,N_,i64_w,i32_w];rfl
                   refine pure_ (i:=11) (N:=some 72) (v:=undef) (a':=?_) #[T,T,T,T,T,T,T,T,T,T,T,T,F,F,F,F,F,F,F,F,F,F,F,F,F,F] rfl rfl (any_of HT_.1 (by kernel_rfl)) (fun _ _ _ h=>h) (Or.inr ⟨by rfl,rfl⟩) ?_ ?_
                   rotate_left;·simp only [Act.put,L_,M_,N_,i64_w,i32_w];rfl
                   refine pu_ (i:=12) (N:=73) #[T,T,T,T,T,T,T,T,T,T,T,T,T,F,F,F,F,F,F,F,F,F,F,F,F,F] HT_.1 rfl rfl (fun _ _ _ h=>h) rfl (h:=?_)
                   refine pu_ (i:=13) (N:=74) #[T,T,T,T,T,T,T,T,T,T,T,T,T,T,F,F,F,F,F,F,F,F,F,F,F,F] HT_.1 rfl rfl (fun _ _ _ h=>h) rfl (h:=?_)
                   refine pu_ (i:=14) (N:=75) #[T,T,T,T,T,T,T,T,T,T,T,T,T,T,T,F,F,F,F,F,F,F,F,F,F,F] HT_.1 rfl rfl (fun _ _ _ h=>h) rfl (h:=?_)
                   refine pu_ (i:=15) (N:=76) #[T,T,T,T,T,T,T,T,T,T,T,T,T,T,T,T,F,F,F,F,F,F,F,F,F,F] HT_.1 rfl rfl (fun _ _ _ h=>h) rfl (h:=?_)
                   refine pu_ (i:=16) (N:=77) #[T,T,T,T,T,T,T,T,T,T,T,T,T,T,T,T,T,F,F,F,F,F,F,F,F,F] HT_.1 rfl rfl (fun _ _ _ h=>h) rfl (h:=?_)
                   refine pu_ (i:=17) (N:=78) #[T,T,T,T,T,T,T,T,T,T,T,T,T,T,T,T,T,T,F,F,F,F,F,F,F,F] HT_.1 rfl rfl (fun _ _ _ h=>h) rfl (h:=?_)
                   refine pu_ (i:=18) (N:=79) #[T,T,T,T,T,T,T,T,T,T,T,T,T,T,T,T,T,T,T,F,F,F,F,F,F,F] HT_.1 rfl rfl (fun _ _ _ h=>h) rfl (h:=?_)
                   refine pu_ (i:=19) (N:=80) #[T,T,T,T,T,T,T,T,T,T,T,T,T,T,T,T,T,T,T,T,F,F,F,F,F,F] HT_.1 rfl rfl (fun _ _ _ h=>h) rfl (h:=?_)
                   refine pu_ (i:=20) (N:=81) #[T,T,T,T,T,T,T,T,T,T,T,T,T,T,T,T,T,T,T,T,T,F,F,F,F,F] HT_.1 rfl rfl (fun _ _ _ h=>h) rfl (h:=?_)
                   refine pu_ (i:=21) (N:=82) #[T,T,T,T,T,T,T,T,T,T,T,T,T,T,T,T,T,T,T,T,T,T,F,F,F,F] HT_.1 rfl rfl (fun _ _ _ h=>h) rfl (h:=?_)
                   refine pu_ (i:=22) (N:=83) #[T,T,T,T,T,T,T,T,T,T,T,T,T,T,T,T,T,T,T,T,T,T,T,F,F,F] HT_.1 rfl rfl (fun _ _ _ h=>h) rfl (h:=?_)
                   refine one_ (i:=23) (N:=some 84) #[T,T,T,T,T,T,T,T,T,T,T,T,T,T,T,T,T,T,T,T,T,T,T,T,F,F] rfl rfl (one_of HT_.1 (by kernel_rfl)) (by decide) (fun K hK=>?_)
                   refine goes_ Tryd.func58 (by kernel_rfl) rfl #[.pointer (some ⟨g,0,none⟩),.int .i64 3] (by rfl) rfl rfl au_ ?_
                   with_reducible refine (Aau.calls g s0_0 Ah Ai 3 true Bl Bm w0 _ ?side1 ?side2 A76.1).mono ?_
                   (case side1=>exact is_)
                   (case side2=>repeat (first|(with_reducible first|exact HB.1|apply below_alloc|apply pw_below_drewN|apply below_drew1|refine below_set ?_ (Aaa.ge HI0.1)|refine below_set ?_ (Aside0.out (by assumption)))|exact HB.1))
                   rintro e w84 ⟨rfl,hi,hb,hk⟩
                   refine ⟨_,rfl,?_⟩
                   replace HO_8:=A_ (Kd.R_mono (Kd.R_keep (Aaa.apart (show Aaa w0 _ g s0_0 Ah Ai from is_) (rl_ HO_8) (by decide)) hk (fun _ h=>h.2)) (fun _ h=>h.1));replace HO_9:=A_ (Kd.R_mono (Kd.R_keep (Aaa.apart (show Aaa w0 _ g s0_0 Ah Ai from is_) (rl_ HO_9) (by decide)) hk (fun _ h=>h.2)) (fun _ h=>h.1));replace Aa:=A_ (Kd.R_mono (Kd.R_keep (Aaa.apart (show Aaa w0 _ g s0_0 Ah Ai from is_) (rl_ Aa) (by decide)) hk (fun _ h=>h.2)) (fun _ h=>h.1));replace Ac:=A_ (KeepBut.blk hk (g':=Am) (o:=.cells #[.int .i64 0,.slice none 0 0] 26 (0,0)) (bl_ Ac) As.1 (by simp));replace Ad:=A_ (KeepBut.blk hk (g':=An) (o:=.cells #[.int .i64 Ae,Ak] 26 (0,0)) (bl_ Ad) At.1 (by simp));replace HK:=A_ (KeepBut.trans (by repeat (with_reducible first|exact HK.1|apply KeepBut.set_|apply keep_drewN|apply keep_drew|apply keep_alloc|refine keep_far ?_ Af.1 _|refine keep_far ?_ Aj.1 _)) hk (.inl rfl));replace HB:=A_ (hb);replace HI0:=A_ (hi);(try clear hb);(try clear hb2);(try clear hk);(try clear hi);refine hK.out _ _ trivial (fun hHeld=>?_)
                   clear hK K;refine norm_ (a':=?_) ?_ ?_
                   rotate_left
                   ·show Act.put _ (some 84) _ = _
                    simp only [Act.put,L_,M_,N_,i64_w,i32_w]
                    rfl
                   refine pu_ (i:=24) (N:=85) #[T,T,T,T,T,T,T,T,T,T,T,T,T,T,T,T,T,T,T,T,T,T,T,T,T,F] HT_.1 rfl rfl (fun _ _ _ h=>h) rfl (h:=?_)
                   refine pu_ (i:=25) (N:=86) #[T,T,T,T,T,T,T,T,T,T,T,T,T,T,T,T,T,T,T,T,T,T,T,T,T,T] HT_.1 rfl rfl (fun _ _ _ h=>h) rfl (h:=?_)
                   refine done_ (done_of HT_.1 (by kernel_rfl)) ?_
                   try go_wp2
                   replace HO_8:=A_ (Kd.R_drew HO_8.1);replace HO_9:=A_ (Kd.R_drew HO_9.1);replace Aa:=A_ (Kd.R_drew Aa.1);replace Ac:=A_ (blk_drew Ac.1);replace Ad:=A_ (blk_drew Ad.1);replace HI0:=A_ (Aaa.drew HI0.1);replace HK:=A_ (keep_drew HK.1);replace HB:=A_ (below_drew1 HB.1);obtain ⟨Ao86,co86,eo86⟩:=Kd.R_slice Aa.1;(first|subst eo86|(injection eo86 with f1_ f2_ f3_;have f4_:=f1_.symm;have f5_:=f3_.symm;clear f1_ f2_ f3_;subst f4_;subst f5_))
                   have Ct : 0 ≤ (x12_2 : Int):=of_decide_eq_true (by first|(with_reducible assumption)|assumption);have Cu : x12_2 < (Ab.length : Int):=of_decide_eq_true (by first|(with_reducible assumption)|assumption);obtain ⟨Dv,Dp,Ca⟩:=Kd.at_int (Kd.R_reads' Aa.1).2.2 x12_2 Ct Cu;cases Dp
                   replace Ct:=eq_true Ct;replace Cu:=eq_true Cu;have p82 : 0 ≤ (x12_2 : Int):=of_decide_eq_true (by first|(with_reducible assumption)|assumption);have q82 : (x12_2 : Int) < ((Ab.length : Int) : Int):=of_decide_eq_true (by first|(with_reducible assumption)|assumption);obtain ⟨go82,co82,eo82,gb82,gl82,cl82,HG82⟩:=Kd.R_form Aa.1 (by omega);(first|cases eo82|(injection eo82 with ea_ en_ ec_;(first|subst ea_|(injection ea_ with ea_;subst ea_));subst ec_;clear en_))
                   have GB82:=A_ gb82;have GG82:=A_ HG82;clear gb82 gl82 HG82;(first|simp only [add_plain] at Ca|skip)
                   obtain ⟨hx82_0,hf82_0⟩:=Kd.R_celln 0 Aa.1 (x12_2 : Int) p82 q82;replace p82:=eq_true p82;replace q82:=eq_true q82;have HN0_go82:=A_ (show g ≠ go82 from by have h_:=Aaa.own_ne HI0.1 Aa.1 (by decide);intro e_;exact h_ (by rw [e_];rfl));have HP87:=Kd.R_putn Aa.1 (x12_2 : Int) (Go.bits .or .i64 (rd Ab x12_2) (ji81));rw [← Dh.1] at HP87;have HQ87:=A_ HP87;clear HP87;refine start_ (n:=10) (S:=fun w'=>w'.cell? ⟨An,0,none⟩ = some (.int .i64 Ae) ∧ w'.cell? ⟨An,1,none⟩ = some (.slice (some ⟨go82,0,none⟩) Ab.length co86) ∧ w'.cell? ⟨go82,(x12_2).toNat,none⟩ = some (.int .i64 (rd Ab x12_2))) (ds:=[9]) #[F,F,F,F,F,F,F,F,F,F] (by kernel_rfl) rfl rfl ⟨blk_cell Ad.1 0,blk_cell Ad.1 1,Ca⟩ (fun hHeld=>?_);refine with_tabW Aac.tab20 Aac.bits20 (fun HT_ HW_=>?_)
                   generalize w84.drew = w85 at HO_8 HO_9 Aa Ac Ad HI0 HK HB GG82 HQ87 hf82_0 Ca hx82_0 hHeld ⊢
                   refine pu_ (i:=0) (N:=87) #[T,F,F,F,F,F,F,F,F,F] HT_.1 rfl rfl (fun _ _ _ h=>h) rfl (h:=?_)
                   refine pu_ (i:=2) (N:=89) #[T,F,T,F,F,F,F,F,F,F] HT_.1 rfl rfl (fun _ _ _ h=>h) rfl (h:=?_)
                   refine pu_ (i:=5) (N:=92) #[T,F,T,F,F,T,F,F,F,F] HT_.1 rfl rfl (fun _ _ _ h=>h) rfl (h:=?_)
                   refine pu_ (i:=6) (N:=93) #[T,F,T,F,F,T,T,F,F,F] HT_.1 rfl rfl (fun _ _ _ h=>h) rfl (h:=?_)
                   refine take_ (i:=1) (N:=some 88) (v:=?_) (a':=?_) #[T,T,T,F,F,T,T,F,F,F] rfl rfl (take_ofW HT_.1 HW_.1 (by kernel_rfl)) (fun _ _ _ h=>h) (Or.inl ⟨by rfl,?_⟩) hHeld ?_ ?_
                   rotate_left
                   ·rintro w' ⟨s0,s1,s2⟩
                    go_simp
                    with_reducible rfl
                   rotate_left;·simp only [Act.put,L_,M_,N_,i64_w,i32_w];rfl
                   refine pu_ (i:=3) (N:=90) #[T,T,T,T,F,T,T,F,F,F] HT_.1 rfl rfl (fun _ _ _ h=>h) rfl (h:=?_)
                   refine take_ (i:=4) (N:=some 91) (v:=?_) (a':=?_) #[T,T,T,T,T,T,T,F,F,F] rfl rfl (take_ofW HT_.1 HW_.1 (by kernel_rfl)) (fun _ _ _ h=>h) (Or.inl ⟨by rfl,?_⟩) hHeld ?_ ?_
                   rotate_left
                   ·rintro w' ⟨s0,s1,s2⟩
                    go_simp
                    with_reducible rfl
                   rotate_left;·simp only [Act.put,L_,M_,N_,i64_w,i32_w];rfl
                   refine pu_ (i:=7) (N:=94) #[T,T,T,T,T,T,T,T,F,F] HT_.1 rfl rfl (fun _ _ _ h=>h) rfl (h:=?_)
                   refine pu_ (i:=8) (N:=95) #[T,T,T,T,T,T,T,T,T,F] HT_.1 rfl rfl (fun _ _ _ h=>h) rfl (h:=?_)
                   refine last_ (i:=9) (N:=none) #[T,T,T,T,T,T,T,T,T,T] rfl rfl (one_of HT_.1 (by kernel_rfl)) (by decide) (fun K hK=>?_)
                   refine skip_ (w1:=?_) (by rfl) rfl ?_ ?_
                   rotate_left
                   ·go_simp
                    rfl
                   refine hK.out _ _ ?_
                   clear hK K;refine done_ (done_of HT_.1 (by kernel_rfl)) ?_
                   try go_wp2
                   go_roundg k3
                   case measure=>have:=HK1.1;have:=HK2.1;have:=HK3.1;omega
                   case rel=>exact ⟨(x8_3),(x9_3),(wrap64 (x13_3 + 1)),(Bl),(Bm),(C9),(.slice (some ⟨go82,0,none⟩) Ab.length co86),(by first|rfl|(simp;done)|(simp [*];done)),H',⟨by have:=HK1.1;have:=HK2.1;have:=HK3.1;omega⟩,⟨rq_ (Kd.R_mono (Kd.R_far (p:=⟨go82,(x12_2 : Int).toNat,none⟩) (Kd.R_mono HO_8.1 (fun k_ hk=>(⟨hk,fun e_=>hk.2 (by rw [e_];rfl)⟩ : _ ∧ k_ ≠ go82))) (fun _ hk=>hk.2) (.int .i64 (Go.bits .or .i64 (rd Ab x12_2) (ji81)))) (fun _ hk=>⟨hk.1.1,hk.1.2⟩))⟩,⟨rq_ (Kd.R_mono (Kd.R_far (p:=⟨go82,(x12_2 : Int).toNat,none⟩) (Kd.R_mono HO_9.1 (fun k_ hk=>(⟨hk,fun e_=>hk.2 (by rw [e_];rfl)⟩ : _ ∧ k_ ≠ go82))) (fun _ hk=>hk.2) (.int .i64 (Go.bits .or .i64 (rd Ab x12_2) (ji81)))) (fun _ hk=>⟨hk.1.1,hk.1.2⟩))⟩,⟨rl_ HQ87⟩,⟨by (with_reducible repeat (first|refine blk_drewN ?_ _|refine blk_drew ?_|refine blk_alloc ?_ _));refine blk_far ?_ (by have h_:=Kd.R_ne Aa.1 Ac.1 (by decide);intro e_;exact h_ (by rw [e_];rfl)) _;(with_reducible repeat (first|refine blk_drewN ?_ _|refine blk_drew ?_|refine blk_alloc ?_ _));exact Ac.1⟩,⟨by (with_reducible repeat (first|refine blk_drewN ?_ _|refine blk_drew ?_|refine blk_alloc ?_ _));refine blk_far ?_ (by have h_:=Kd.R_ne Aa.1 Ad.1 (by decide);intro e_;exact h_ (by rw [e_];rfl)) _;(with_reducible repeat (first|refine blk_drewN ?_ _|refine blk_drew ?_|refine blk_alloc ?_ _));exact Ad.1⟩,⟨by repeat (first|(with_reducible first|exact HI0.1|apply Aaa.alloc|apply Aaa.drewN|apply Aaa.drew|apply Aaa.set_1|apply Aaa.set_2|refine Aaa.far ?_ HN0_go82.1 _|refine Aaa.far ?_ (Aside0.out (by assumption)) _)|exact HI0.1)⟩,⟨by repeat (first|(with_reducible first|exact HK.1|apply KeepBut.set_|apply keep_drewN|apply keep_drew|apply keep_alloc|refine keep_far ?_ GB82.1 _|refine keep_far ?_ Af.1 _|refine keep_far ?_ Aj.1 _)|exact HK.1)⟩,⟨by repeat (first|(with_reducible first|exact HB.1|apply below_alloc|apply pw_below_drewN|apply below_drew1|refine below_set ?_ (Nat.le_trans HL.1 GB82.1)|refine below_set ?_ (Aaa.ge HI0.1)|refine below_set ?_ (Aside0.out (by assumption)))|exact HB.1)⟩⟩
                  ·rw [if_neg c80] at H;exact absurd H (by simp)
                 ·rw [if_neg c79] at H;exact absurd H (by simp)
                ·rw [if_neg c78] at H;exact absurd H (by simp)
               ·replace c77:=Bool.eq_false_iff.mpr c77;subst c77;have H1 : (Aac.l2 k3 Ae Ag x8_3 x9_3 x12_2 (wrap64 (x13_3 + 1)) s0_0 Bl Bm Ae Ab) = some (r1,r2,r3,r4):=by rw [if_neg (show ¬ (false = true) by decide)] at H;exact H
                clear H;have H:=H1;clear H1;have H':=A_ H;clear H;try go_wp2
                replace HO_8:=A_ (Kd.R_drew HO_8.1);replace HO_9:=A_ (Kd.R_drew HO_9.1);replace Aa:=A_ (Kd.R_drew Aa.1);replace Ac:=A_ (blk_drew Ac.1);replace Ad:=A_ (blk_drew Ad.1);replace HI0:=A_ (Aaa.drew HI0.1);replace HK:=A_ (keep_drew HK.1);replace HB:=A_ (below_drew1 HB.1);refine start_ (n:=26) (S:=fun w'=>True) (ds:=[]) #[F,F,F,F,F,F,F,F,F,F,F,F,F,F,F,F,F,F,F,F,F,F,F,F,F,F] (by kernel_rfl) rfl rfl trivial (fun hHeld=>?_);refine with_tabW Aac.tab19 Aac.bits19 (fun HT_ HW_=>?_)
                generalize wr.drew = w88 at HO_8 HO_9 Aa Ac Ad HI0 HK HB hHeld ⊢
                refine pu_ (i:=0) (N:=61) #[T,F,F,F,F,F,F,F,F,F,F,F,F,F,F,F,F,F,F,F,F,F,F,F,F,F] HT_.1 rfl rfl (fun _ _ _ h=>h) rfl (h:=?_)
                refine pu_ (i:=1) (N:=62) #[T,T,F,F,F,F,F,F,F,F,F,F,F,F,F,F,F,F,F,F,F,F,F,F,F,F] HT_.1 rfl rfl (fun _ _ _ h=>h) rfl (h:=?_)
                refine pu_ (i:=2) (N:=63) #[T,T,T,F,F,F,F,F,F,F,F,F,F,F,F,F,F,F,F,F,F,F,F,F,F,F] HT_.1 rfl rfl (fun _ _ _ h=>h) rfl (h:=?_)
                refine pure_ (i:=3) (N:=some 64) (v:=undef) (a':=?_) #[T,T,T,T,F,F,F,F,F,F,F,F,F,F,F,F,F,F,F,F,F,F,F,F,F,F] rfl rfl (any_of HT_.1 (by kernel_rfl)) (fun _ _ _ h=>h) (Or.inr ⟨by rfl,rfl⟩) ?_ ?_
                rotate_left;·simp only [Act.put,L_,M_,N_,i64_w,i32_w];rfl
                refine pure_ (i:=4) (N:=some 65) (v:=undef) (a':=?_) #[T,T,T,T,T,F,F,F,F,F,F,F,F,F,F,F,F,F,F,F,F,F,F,F,F,F] rfl rfl (any_of HT_.1 (by kernel_rfl)) (fun _ _ _ h=>h) (Or.inr ⟨by rfl,rfl⟩) ?_ ?_
                rotate_left;·simp only [Act.put,L_,M_,N_,i64_w,i32_w];rfl
                refine pure_ (i:=5) (N:=some 66) (v:=undef) (a':=?_) #[T,T,T,T,T,T,F,F,F,F,F,F,F,F,F,F,F,F,F,F,F,F,F,F,F,F] rfl rfl (any_of HT_.1 (by kernel_rfl)) (fun _ _ _ h=>h) (Or.inr ⟨by rfl,rfl⟩) ?_ ?_
                rotate_left;·simp only [Act.put,L_,M_,N_,i64_w,i32_w];rfl
                refine pure_ (i:=6) (N:=some 67) (v:=undef) (a':=?_) #[T,T,T,T,T,T,T,F,F,F,F,F,F,F,F,F,F,F,F,F,F,F,F,F,F,F] rfl rfl (any_of HT_.1 (by kernel_rfl)) (fun _ _ _ h=>h) (Or.inr ⟨by rfl,rfl⟩) ?_ ?_
                rotate_left;·simp only [Act.put,L_,M_,N_,i64_w,i32_w];rfl
                refine pure_ (i:=7) (N:=some 68) (v:=undef) (a':=?_) #[T,T,T,T,T,T,T,T,F,F,F,F,F,F,F,F,F,F,F,F,F,F,F,F,F,F] rfl rfl (any_of HT_.1 (by kernel_rfl)) (fun _ _ _ h=>h) (Or.inr ⟨by rfl,rfl⟩) ?_ ?_
                rotate_left;·simp only [Act.put,L_,M_,N_,i64_w,i32_w];rfl
                refine pure_ (i:=8) (N:=some 69) (v:=undef) (a':=?_) #[T,T,T,T,T,T,T,T,T,F,F,F,F,F,F,F,F,F,F,F,F,F,F,F,F,F] rfl rfl (any_of HT_.1 (by kernel_rfl)) (fun _ _ _ h=>h) (Or.inr ⟨by rfl,rfl⟩) ?_ ?_
                rotate_left;·simp only [Act.put,L_,M_,N_,i64_w,i32_w];rfl
                refine pure_ (i:=9) (N:=some 70) (v:=undef) (a':=?_) #[T,T,T,T,T,T,T,T,T,T,F,F,F,F,F,F,F,F,F,F,F,F,F,F,F,F] rfl rfl (any_of HT_.1 (by kernel_rfl)) (fun _ _ _ h=>h) (Or.inr ⟨by rfl,rfl⟩) ?_ ?_
                rotate_left;·simp only [Act.put,L_,M_,N_,i64_w,i32_w];rfl
                refine pure_ (i:=10) (N:=some 71) (v:=undef) (a':=?_) #[T,T,T,T,T,T,T,T,T,T,T,F,F,F,F,F,F,F,F,F,F,F,F,F,F,F] rfl rfl (any_of HT_.1 (by kernel_rfl)) (fun _ _ _ h=>h) (Or.inr ⟨by rfl,rfl⟩) ?_ ?_
                rotate_left;·simp only [Act.put,L_,M_,N_,i64_w,i32_w];rfl
                refine pure_ (i:=11) (N:=some 72) (v:=undef) (a':=?_) #[T,T,T,T,T,T,T,T,T,T,T,T,F,F,F,F,F,F,F,F,F,F,F,F,F,F] rfl rfl (any_of HT_.1 (by kernel_rfl)) (fun _ _ _ h=>h) (Or.inr ⟨by rfl,rfl⟩) ?_ ?_
                rotate_left;·simp only [Act.put,L_,M_,N_,i64_w,i32_w];rfl
                refine pu_ (i:=12) (N:=73) #[T,T,T,T,T,T,T,T,T,T,T,T,T,F,F,F,F,F,F,F,F,F,F,F,F,F] HT_.1 rfl rfl (fun _ _ _ h=>h) rfl (h:=?_)
                refine pu_ (i:=13) (N:=74) #[T,T,T,T,T,T,T,T,T,T,T,T,T,T,F,F,F,F,F,F,F,F,F,F,F,F] HT_.1 rfl rfl (fun _ _ _ h=>h) rfl (h:=?_)
                refine pu_ (i:=14) (N:=75) #[T,T,T,T,T,T,T,T,T,T,T,T,T,T,T,F,F,F,F,F,F,F,F,F,F,F] HT_.1 rfl rfl (fun _ _ _ h=>h) rfl (h:=?_)
                refine pu_ (i:=15) (N:=76) #[T,T,T,T,T,T,T,T,T,T,T,T,T,T,T,T,F,F,F,F,F,F,F,F,F,F] HT_.1 rfl rfl (fun _ _ _ h=>h) rfl (h:=?_)
                refine pu_ (i:=16) (N:=77) #[T,T,T,T,T,T,T,T,T,T,T,T,T,T,T,T,T,F,F,F,F,F,F,F,F,F] HT_.1 rfl rfl (fun _ _ _ h=>h) rfl (h:=?_)
                refine pu_ (i:=17) (N:=78) #[T,T,T,T,T,T,T,T,T,T,T,T,T,T,T,T,T,T,F,F,F,F,F,F,F,F] HT_.1 rfl rfl (fun _ _ _ h=>h) rfl (h:=?_)
                refine pu_ (i:=18) (N:=79) #[T,T,T,T,T,T,T,T,T,T,T,T,T,T,T,T,T,T,T,F,F,F,F,F,F,F] HT_.1 rfl rfl (fun _ _ _ h=>h) rfl (h:=?_)
                refine pu_ (i:=19) (N:=80) #[T,T,T,T,T,T,T,T,T,T,T,T,T,T,T,T,T,T,T,T,F,F,F,F,F,F] HT_.1 rfl rfl (fun _ _ _ h=>h) rfl (h:=?_)
                refine pu_ (i:=20) (N:=81) #[T,T,T,T,T,T,T,T,T,T,T,T,T,T,T,T,T,T,T,T,T,F,F,F,F,F] HT_.1 rfl rfl (fun _ _ _ h=>h) rfl (h:=?_)
                refine pu_ (i:=21) (N:=82) #[T,T,T,T,T,T,T,T,T,T,T,T,T,T,T,T,T,T,T,T,T,T,F,F,F,F] HT_.1 rfl rfl (fun _ _ _ h=>h) rfl (h:=?_)
                refine pu_ (i:=22) (N:=83) #[T,T,T,T,T,T,T,T,T,T,T,T,T,T,T,T,T,T,T,T,T,T,T,F,F,F] HT_.1 rfl rfl (fun _ _ _ h=>h) rfl (h:=?_)
                refine one_ (i:=23) (N:=some 84) #[T,T,T,T,T,T,T,T,T,T,T,T,T,T,T,T,T,T,T,T,T,T,T,T,F,F] rfl rfl (one_of HT_.1 (by kernel_rfl)) (by decide) (fun K hK=>?_)
                refine goes_ Tryd.func58 (by kernel_rfl) rfl #[.pointer (some ⟨g,0,none⟩),.int .i64 3] (by rfl) rfl rfl au_ ?_
                with_reducible refine (Aau.calls g s0_0 Ah Ai 3 false Bl Bm w0 _ ?side1 ?side2 A76.1).mono ?_
                (case side1=>exact is_)
                (case side2=>repeat (first|(with_reducible first|exact HB.1|apply below_alloc|apply pw_below_drewN|apply below_drew1|refine below_set ?_ (Aaa.ge HI0.1)|refine below_set ?_ (Aside0.out (by assumption)))|exact HB.1))
                rintro e w89 ⟨rfl,hi,hb,hk⟩
                refine ⟨_,rfl,?_⟩
                replace HO_8:=A_ (Kd.R_mono (Kd.R_keep (Aaa.apart (show Aaa w0 _ g s0_0 Ah Ai from is_) (rl_ HO_8) (by decide)) hk (fun _ h=>h.2)) (fun _ h=>h.1));replace HO_9:=A_ (Kd.R_mono (Kd.R_keep (Aaa.apart (show Aaa w0 _ g s0_0 Ah Ai from is_) (rl_ HO_9) (by decide)) hk (fun _ h=>h.2)) (fun _ h=>h.1));replace Aa:=A_ (Kd.R_mono (Kd.R_keep (Aaa.apart (show Aaa w0 _ g s0_0 Ah Ai from is_) (rl_ Aa) (by decide)) hk (fun _ h=>h.2)) (fun _ h=>h.1));replace Ac:=A_ (KeepBut.blk hk (g':=Am) (o:=.cells #[.int .i64 0,.slice none 0 0] 26 (0,0)) (bl_ Ac) As.1 (by simp));replace Ad:=A_ (KeepBut.blk hk (g':=An) (o:=.cells #[.int .i64 Ae,Ak] 26 (0,0)) (bl_ Ad) At.1 (by simp));replace HK:=A_ (KeepBut.trans (by repeat (with_reducible first|exact HK.1|apply KeepBut.set_|apply keep_drewN|apply keep_drew|apply keep_alloc|refine keep_far ?_ Af.1 _|refine keep_far ?_ Aj.1 _)) hk (.inl rfl));replace HB:=A_ (hb);replace HI0:=A_ (hi);(try clear hb);(try clear hb2);(try clear hk);(try clear hi);refine hK.out _ _ trivial (fun hHeld=>?_)
                clear hK K;refine norm_ (a':=?_) ?_ ?_
                rotate_left
                ·show Act.put _ (some 84) _ = _
                 simp only [Act.put,L_,M_,N_,i64_w,i32_w]
                 rfl
                refine pu_ (i:=24) (N:=85) #[T,T,T,T,T,T,T,T,T,T,T,T,T,T,T,T,T,T,T,T,T,T,T,T,T,F] HT_.1 rfl rfl (fun _ _ _ h=>h) rfl (h:=?_)
                refine pu_ (i:=25) (N:=86) #[T,T,T,T,T,T,T,T,T,T,T,T,T,T,T,T,T,T,T,T,T,T,T,T,T,T] HT_.1 rfl rfl (fun _ _ _ h=>h) rfl (h:=?_)
                refine done_ (done_of HT_.1 (by kernel_rfl)) ?_
                try go_wp2
                go_roundg k3
                case measure=>have:=HK1.1;have:=HK2.1;have:=HK3.1;omega
                case rel=>exact ⟨(x8_3),(x9_3),(wrap64 (x13_3 + 1)),(Bl),(Bm),(Ab),(Ak),(by first|rfl|(simp;done)|(simp [*];done)),H',⟨by have:=HK1.1;have:=HK2.1;have:=HK3.1;omega⟩,⟨rl_ HO_8⟩,⟨rl_ HO_9⟩,⟨rl_ Aa⟩,⟨bl_ Ac⟩,⟨bl_ Ad⟩,⟨is_⟩,⟨by repeat (first|(with_reducible first|exact HK.1|apply KeepBut.set_|apply keep_drewN|apply keep_drew|apply keep_alloc|refine keep_far ?_ Af.1 _|refine keep_far ?_ Aj.1 _)|exact HK.1)⟩,⟨by repeat (first|(with_reducible first|exact HB.1|apply below_alloc|apply pw_below_drewN|apply below_drew1|refine below_set ?_ (Aaa.ge HI0.1)|refine below_set ?_ (Aside0.out (by assumption)))|exact HB.1)⟩⟩
              ·rw [if_neg c75] at H;have c75b0 : decide (x12_2 < x13_3) = false:=decide_eq_false c75;clear c75;have H':=A_ H;clear H;try go_wp2
               replace HO_8:=A_ (Kd.R_drew HO_8.1);replace HO_9:=A_ (Kd.R_drew HO_9.1);replace Aa:=A_ (Kd.R_drew Aa.1);replace Ac:=A_ (blk_drew Ac.1);replace Ad:=A_ (blk_drew Ad.1);replace HI0:=A_ (Aaa.drew HI0.1);replace HK:=A_ (keep_drew HK.1);replace HB:=A_ (below_drew1 HB.1);refine start_ (n:=26) (S:=fun w'=>True) (ds:=[]) #[F,F,F,F,F,F,F,F,F,F,F,F,F,F,F,F,F,F,F,F,F,F,F,F,F,F] (by kernel_rfl) rfl rfl trivial (fun hHeld=>?_);refine with_tabW Aac.tab19 Aac.bits19 (fun HT_ HW_=>?_)
               generalize wr.drew = w90 at HO_8 HO_9 Aa Ac Ad HI0 HK HB hHeld ⊢
               refine pu_ (i:=0) (N:=61) #[T,F,F,F,F,F,F,F,F,F,F,F,F,F,F,F,F,F,F,F,F,F,F,F,F,F] HT_.1 rfl rfl (fun _ _ _ h=>h) rfl (h:=?_)
               refine pu_ (i:=1) (N:=62) #[T,T,F,F,F,F,F,F,F,F,F,F,F,F,F,F,F,F,F,F,F,F,F,F,F,F] HT_.1 rfl rfl (fun _ _ _ h=>h) rfl (h:=?_)
               refine pu_ (i:=2) (N:=63) #[T,T,T,F,F,F,F,F,F,F,F,F,F,F,F,F,F,F,F,F,F,F,F,F,F,F] HT_.1 rfl rfl (fun _ _ _ h=>h) rfl (h:=?_)
               refine pure_ (i:=3) (N:=some 64) (v:=undef) (a':=?_) #[T,T,T,T,F,F,F,F,F,F,F,F,F,F,F,F,F,F,F,F,F,F,F,F,F,F] rfl rfl (any_of HT_.1 (by kernel_rfl)) (fun _ _ _ h=>h) (Or.inr ⟨by rfl,rfl⟩) ?_ ?_
               rotate_left;·simp only [Act.put,L_,M_,N_,i64_w,i32_w];rfl
               refine pure_ (i:=4) (N:=some 65) (v:=undef) (a':=?_) #[T,T,T,T,T,F,F,F,F,F,F,F,F,F,F,F,F,F,F,F,F,F,F,F,F,F] rfl rfl (any_of HT_.1 (by kernel_rfl)) (fun _ _ _ h=>h) (Or.inr ⟨by rfl,rfl⟩) ?_ ?_
               rotate_left;·simp only [Act.put,L_,M_,N_,i64_w,i32_w];rfl
               refine pure_ (i:=5) (N:=some 66) (v:=undef) (a':=?_) #[T,T,T,T,T,T,F,F,F,F,F,F,F,F,F,F,F,F,F,F,F,F,F,F,F,F] rfl rfl (any_of HT_.1 (by kernel_rfl)) (fun _ _ _ h=>h) (Or.inr ⟨by rfl,rfl⟩) ?_ ?_
               rotate_left;·simp only [Act.put,L_,M_,N_,i64_w,i32_w];rfl
               refine pure_ (i:=6) (N:=some 67) (v:=undef) (a':=?_) #[T,T,T,T,T,T,T,F,F,F,F,F,F,F,F,F,F,F,F,F,F,F,F,F,F,F] rfl rfl (any_of HT_.1 (by kernel_rfl)) (fun _ _ _ h=>h) (Or.inr ⟨by rfl,rfl⟩) ?_ ?_
               rotate_left;·simp only [Act.put,L_,M_,N_,i64_w,i32_w];rfl
               refine pure_ (i:=7) (N:=some 68) (v:=undef) (a':=?_) #[T,T,T,T,T,T,T,T,F,F,F,F,F,F,F,F,F,F,F,F,F,F,F,F,F,F] rfl rfl (any_of HT_.1 (by kernel_rfl)) (fun _ _ _ h=>h) (Or.inr ⟨by rfl,rfl⟩) ?_ ?_
               rotate_left;·simp only [Act.put,L_,M_,N_,i64_w,i32_w];rfl
               refine pure_ (i:=8) (N:=some 69) (v:=undef) (a':=?_) #[T,T,T,T,T,T,T,T,T,F,F,F,F,F,F,F,F,F,F,F,F,F,F,F,F,F] rfl rfl (any_of HT_.1 (by kernel_rfl)) (fun _ _ _ h=>h) (Or.inr ⟨by rfl,rfl⟩) ?_ ?_
               rotate_left;·simp only [Act.put,L_,M_,N_,i64_w,i32_w];rfl
               refine pure_ (i:=9) (N:=some 70) (v:=undef) (a':=?_) #[T,T,T,T,T,T,T,T,T,T,F,F,F,F,F,F,F,F,F,F,F,F,F,F,F,F] rfl rfl (any_of HT_.1 (by kernel_rfl)) (fun _ _ _ h=>h) (Or.inr ⟨by rfl,rfl⟩) ?_ ?_
               rotate_left;·simp only [Act.put,L_,M_,N_,i64_w,i32_w];rfl
               refine pure_ (i:=10) (N:=some 71) (v:=undef) (a':=?_) #[T,T,T,T,T,T,T,T,T,T,T,F,F,F,F,F,F,F,F,F,F,F,F,F,F,F] rfl rfl (any_of HT_.1 (by kernel_rfl)) (fun _ _ _ h=>h) (Or.inr ⟨by rfl,rfl⟩) ?_ ?_
               rotate_left;·simp only [Act.put,L_,M_,N_,i64_w,i32_w];rfl
               refine pure_ (i:=11) (N:=some 72) (v:=undef) (a':=?_) #[T,T,T,T,T,T,T,T,T,T,T,T,F,F,F,F,F,F,F,F,F,F,F,F,F,F] rfl rfl (any_of HT_.1 (by kernel_rfl)) (fun _ _ _ h=>h) (Or.inr ⟨by rfl,rfl⟩) ?_ ?_
               rotate_left;·simp only [Act.put,L_,M_,N_,i64_w,i32_w];rfl
               refine pu_ (i:=12) (N:=73) #[T,T,T,T,T,T,T,T,T,T,T,T,T,F,F,F,F,F,F,F,F,F,F,F,F,F] HT_.1 rfl rfl (fun _ _ _ h=>h) rfl (h:=?_)
               refine pu_ (i:=13) (N:=74) #[T,T,T,T,T,T,T,T,T,T,T,T,T,T,F,F,F,F,F,F,F,F,F,F,F,F] HT_.1 rfl rfl (fun _ _ _ h=>h) rfl (h:=?_)
               refine pu_ (i:=14) (N:=75) #[T,T,T,T,T,T,T,T,T,T,T,T,T,T,T,F,F,F,F,F,F,F,F,F,F,F] HT_.1 rfl rfl (fun _ _ _ h=>h) rfl (h:=?_)
               refine pu_ (i:=15) (N:=76) #[T,T,T,T,T,T,T,T,T,T,T,T,T,T,T,T,F,F,F,F,F,F,F,F,F,F] HT_.1 rfl rfl (fun _ _ _ h=>h) rfl (h:=?_)
               refine pu_ (i:=16) (N:=77) #[T,T,T,T,T,T,T,T,T,T,T,T,T,T,T,T,T,F,F,F,F,F,F,F,F,F] HT_.1 rfl rfl (fun _ _ _ h=>h) rfl (h:=?_)
               refine pu_ (i:=17) (N:=78) #[T,T,T,T,T,T,T,T,T,T,T,T,T,T,T,T,T,T,F,F,F,F,F,F,F,F] HT_.1 rfl rfl (fun _ _ _ h=>h) rfl (h:=?_)
               refine pu_ (i:=18) (N:=79) #[T,T,T,T,T,T,T,T,T,T,T,T,T,T,T,T,T,T,T,F,F,F,F,F,F,F] HT_.1 rfl rfl (fun _ _ _ h=>h) rfl (h:=?_)
               refine pu_ (i:=19) (N:=80) #[T,T,T,T,T,T,T,T,T,T,T,T,T,T,T,T,T,T,T,T,F,F,F,F,F,F] HT_.1 rfl rfl (fun _ _ _ h=>h) rfl (h:=?_)
               refine pu_ (i:=20) (N:=81) #[T,T,T,T,T,T,T,T,T,T,T,T,T,T,T,T,T,T,T,T,T,F,F,F,F,F] HT_.1 rfl rfl (fun _ _ _ h=>h) rfl (h:=?_)
               refine pu_ (i:=21) (N:=82) #[T,T,T,T,T,T,T,T,T,T,T,T,T,T,T,T,T,T,T,T,T,T,F,F,F,F] HT_.1 rfl rfl (fun _ _ _ h=>h) rfl (h:=?_)
               refine pure_ (i:=22) (N:=some 83) (v:=undef) (a':=?_) #[T,T,T,T,T,T,T,T,T,T,T,T,T,T,T,T,T,T,T,T,T,T,T,F,F,F] rfl rfl (any_of HT_.1 (by kernel_rfl)) (fun _ _ _ h=>h) (Or.inr ⟨by rfl,rfl⟩) ?_ ?_
               rotate_left;·simp only [Act.put,L_,M_,N_,i64_w,i32_w];rfl
               refine pure_ (i:=23) (N:=some 84) (v:=undef) (a':=?_) #[T,T,T,T,T,T,T,T,T,T,T,T,T,T,T,T,T,T,T,T,T,T,T,T,F,F] rfl rfl (any_of HT_.1 (by kernel_rfl)) (fun _ _ _ h=>h) (Or.inr ⟨by rfl,rfl⟩) ?_ ?_
               rotate_left;·simp only [Act.put,L_,M_,N_,i64_w,i32_w];rfl
               refine pu_ (i:=24) (N:=85) #[T,T,T,T,T,T,T,T,T,T,T,T,T,T,T,T,T,T,T,T,T,T,T,T,T,F] HT_.1 rfl rfl (fun _ _ _ h=>h) rfl (h:=?_)
               refine pu_ (i:=25) (N:=86) #[T,T,T,T,T,T,T,T,T,T,T,T,T,T,T,T,T,T,T,T,T,T,T,T,T,T] HT_.1 rfl rfl (fun _ _ _ h=>h) rfl (h:=?_)
               refine done_ (done_of HT_.1 (by kernel_rfl)) ?_
               try go_wp2
               go_roundg k3
               case measure=>have:=HK1.1;have:=HK2.1;have:=HK3.1;omega
               case rel=>exact ⟨(x8_3),(x9_3),(wrap64 (x13_3 + 1)),(Ah),(Ai),(Ab),(Ak),(by first|rfl|(simp;done)|(simp [*];done)),H',⟨by have:=HK1.1;have:=HK2.1;have:=HK3.1;omega⟩,⟨rl_ HO_8⟩,⟨rl_ HO_9⟩,⟨rl_ Aa⟩,⟨bl_ Ac⟩,⟨bl_ Ad⟩,⟨is_⟩,⟨by repeat (first|(with_reducible first|exact HK.1|apply KeepBut.set_|apply keep_drewN|apply keep_drew|apply keep_alloc|refine keep_far ?_ Af.1 _|refine keep_far ?_ Aj.1 _)|exact HK.1)⟩,⟨by repeat (first|(with_reducible first|exact HB.1|apply below_alloc|apply pw_below_drewN|apply below_drew1|refine below_set ?_ (Aaa.ge HI0.1)|refine below_set ?_ (Aside0.out (by assumption)))|exact HB.1)⟩⟩
             ·rw [if_neg c74] at H;have c74b0 : (Ag == 0) = false:=beq_eq_false_iff_ne.mpr c74;have c74b1 : (Ag != 0) = true:=bne_iff_ne.mpr c74;have H':=A_ H;clear H;try go_wp2
              replace HO_8:=A_ (Kd.R_drew HO_8.1);replace HO_9:=A_ (Kd.R_drew HO_9.1);replace Aa:=A_ (Kd.R_drew Aa.1);replace Ac:=A_ (blk_drew Ac.1);replace Ad:=A_ (blk_drew Ad.1);replace HI0:=A_ (Aaa.drew HI0.1);replace HK:=A_ (keep_drew HK.1);replace HB:=A_ (below_drew1 HB.1);refine start_ (n:=26) (S:=fun w'=>True) (ds:=[]) #[F,F,F,F,F,F,F,F,F,F,F,F,F,F,F,F,F,F,F,F,F,F,F,F,F,F] (by kernel_rfl) rfl rfl trivial (fun hHeld=>?_);refine with_tabW Aac.tab19 Aac.bits19 (fun HT_ HW_=>?_)
              generalize wr.drew = w91 at HO_8 HO_9 Aa Ac Ad HI0 HK HB hHeld ⊢
              refine pu_ (i:=0) (N:=61) #[T,F,F,F,F,F,F,F,F,F,F,F,F,F,F,F,F,F,F,F,F,F,F,F,F,F] HT_.1 rfl rfl (fun _ _ _ h=>h) rfl (h:=?_)
              refine pu_ (i:=1) (N:=62) #[T,T,F,F,F,F,F,F,F,F,F,F,F,F,F,F,F,F,F,F,F,F,F,F,F,F] HT_.1 rfl rfl (fun _ _ _ h=>h) rfl (h:=?_)
              refine pu_ (i:=2) (N:=63) #[T,T,T,F,F,F,F,F,F,F,F,F,F,F,F,F,F,F,F,F,F,F,F,F,F,F] HT_.1 rfl rfl (fun _ _ _ h=>h) rfl (h:=?_)
              refine pure_ (i:=3) (N:=some 64) (v:=undef) (a':=?_) #[T,T,T,T,F,F,F,F,F,F,F,F,F,F,F,F,F,F,F,F,F,F,F,F,F,F] rfl rfl (any_of HT_.1 (by kernel_rfl)) (fun _ _ _ h=>h) (Or.inr ⟨by rfl,rfl⟩) ?_ ?_
              rotate_left;·simp only [Act.put,L_,M_,N_,i64_w,i32_w];rfl
              refine pure_ (i:=4) (N:=some 65) (v:=undef) (a':=?_) #[T,T,T,T,T,F,F,F,F,F,F,F,F,F,F,F,F,F,F,F,F,F,F,F,F,F] rfl rfl (any_of HT_.1 (by kernel_rfl)) (fun _ _ _ h=>h) (Or.inr ⟨by rfl,rfl⟩) ?_ ?_
              rotate_left;·simp only [Act.put,L_,M_,N_,i64_w,i32_w];rfl
              refine pure_ (i:=5) (N:=some 66) (v:=undef) (a':=?_) #[T,T,T,T,T,T,F,F,F,F,F,F,F,F,F,F,F,F,F,F,F,F,F,F,F,F] rfl rfl (any_of HT_.1 (by kernel_rfl)) (fun _ _ _ h=>h) (Or.inr ⟨by rfl,rfl⟩) ?_ ?_
              rotate_left;·simp only [Act.put,L_,M_,N_,i64_w,i32_w];rfl
              refine pure_ (i:=6) (N:=some 67) (v:=undef) (a':=?_) #[T,T,T,T,T,T,T,F,F,F,F,F,F,F,F,F,F,F,F,F,F,F,F,F,F,F] rfl rfl (any_of HT_.1 (by kernel_rfl)) (fun _ _ _ h=>h) (Or.inr ⟨by rfl,rfl⟩) ?_ ?_
              rotate_left;·simp only [Act.put,L_,M_,N_,i64_w,i32_w];rfl
              refine pure_ (i:=7) (N:=some 68) (v:=undef) (a':=?_) #[T,T,T,T,T,T,T,T,F,F,F,F,F,F,F,F,F,F,F,F,F,F,F,F,F,F] rfl rfl (any_of HT_.1 (by kernel_rfl)) (fun _ _ _ h=>h) (Or.inr ⟨by rfl,rfl⟩) ?_ ?_
              rotate_left;·simp only [Act.put,L_,M_,N_,i64_w,i32_w];rfl
              refine pure_ (i:=8) (N:=some 69) (v:=undef) (a':=?_) #[T,T,T,T,T,T,T,T,T,F,F,F,F,F,F,F,F,F,F,F,F,F,F,F,F,F] rfl rfl (any_of HT_.1 (by kernel_rfl)) (fun _ _ _ h=>h) (Or.inr ⟨by rfl,rfl⟩) ?_ ?_
              rotate_left;·simp only [Act.put,L_,M_,N_,i64_w,i32_w];rfl
              refine pure_ (i:=9) (N:=some 70) (v:=undef) (a':=?_) #[T,T,T,T,T,T,T,T,T,T,F,F,F,F,F,F,F,F,F,F,F,F,F,F,F,F] rfl rfl (any_of HT_.1 (by kernel_rfl)) (fun _ _ _ h=>h) (Or.inr ⟨by rfl,rfl⟩) ?_ ?_
              rotate_left;·simp only [Act.put,L_,M_,N_,i64_w,i32_w];rfl
              refine pure_ (i:=10) (N:=some 71) (v:=undef) (a':=?_) #[T,T,T,T,T,T,T,T,T,T,T,F,F,F,F,F,F,F,F,F,F,F,F,F,F,F] rfl rfl (any_of HT_.1 (by kernel_rfl)) (fun _ _ _ h=>h) (Or.inr ⟨by rfl,rfl⟩) ?_ ?_
              rotate_left;·simp only [Act.put,L_,M_,N_,i64_w,i32_w];rfl
              refine pure_ (i:=11) (N:=some 72) (v:=undef) (a':=?_) #[T,T,T,T,T,T,T,T,T,T,T,T,F,F,F,F,F,F,F,F,F,F,F,F,F,F] rfl rfl (any_of HT_.1 (by kernel_rfl)) (fun _ _ _ h=>h) (Or.inr ⟨by rfl,rfl⟩) ?_ ?_
              rotate_left;·simp only [Act.put,L_,M_,N_,i64_w,i32_w];rfl
              refine pu_ (i:=12) (N:=73) #[T,T,T,T,T,T,T,T,T,T,T,T,T,F,F,F,F,F,F,F,F,F,F,F,F,F] HT_.1 rfl rfl (fun _ _ _ h=>h) rfl (h:=?_)
              refine pu_ (i:=13) (N:=74) #[T,T,T,T,T,T,T,T,T,T,T,T,T,T,F,F,F,F,F,F,F,F,F,F,F,F] HT_.1 rfl rfl (fun _ _ _ h=>h) rfl (h:=?_)
              refine pu_ (i:=14) (N:=75) #[T,T,T,T,T,T,T,T,T,T,T,T,T,T,T,F,F,F,F,F,F,F,F,F,F,F] HT_.1 rfl rfl (fun _ _ _ h=>h) rfl (h:=?_)
              refine pu_ (i:=15) (N:=76) #[T,T,T,T,T,T,T,T,T,T,T,T,T,T,T,T,F,F,F,F,F,F,F,F,F,F] HT_.1 rfl rfl (fun _ _ _ h=>h) rfl (h:=?_)
              refine pu_ (i:=16) (N:=77) #[T,T,T,T,T,T,T,T,T,T,T,T,T,T,T,T,T,F,F,F,F,F,F,F,F,F] HT_.1 rfl rfl (fun _ _ _ h=>h) rfl (h:=?_)
              refine pure_ (i:=17) (N:=some 78) (v:=undef) (a':=?_) #[T,T,T,T,T,T,T,T,T,T,T,T,T,T,T,T,T,T,F,F,F,F,F,F,F,F] rfl rfl (any_of HT_.1 (by kernel_rfl)) (fun _ _ _ h=>h) (Or.inr ⟨by rfl,rfl⟩) ?_ ?_
              rotate_left;·simp only [Act.put,L_,M_,N_,i64_w,i32_w];rfl
              refine pure_ (i:=18) (N:=some 79) (v:=undef) (a':=?_) #[T,T,T,T,T,T,T,T,T,T,T,T,T,T,T,T,T,T,T,F,F,F,F,F,F,F] rfl rfl (any_of HT_.1 (by kernel_rfl)) (fun _ _ _ h=>h) (Or.inr ⟨by rfl,rfl⟩) ?_ ?_
              rotate_left;·simp only [Act.put,L_,M_,N_,i64_w,i32_w];rfl
              refine pure_ (i:=19) (N:=some 80) (v:=undef) (a':=?_) #[T,T,T,T,T,T,T,T,T,T,T,T,T,T,T,T,T,T,T,T,F,F,F,F,F,F] rfl rfl (any_of HT_.1 (by kernel_rfl)) (fun _ _ _ h=>h) (Or.inr ⟨by rfl,rfl⟩) ?_ ?_
              rotate_left;·simp only [Act.put,L_,M_,N_,i64_w,i32_w];rfl
              refine pu_ (i:=20) (N:=81) #[T,T,T,T,T,T,T,T,T,T,T,T,T,T,T,T,T,T,T,T,T,F,F,F,F,F] HT_.1 rfl rfl (fun _ _ _ h=>h) rfl (h:=?_)
              refine pu_ (i:=21) (N:=82) #[T,T,T,T,T,T,T,T,T,T,T,T,T,T,T,T,T,T,T,T,T,T,F,F,F,F] HT_.1 rfl rfl (fun _ _ _ h=>h) rfl (h:=?_)
              refine pure_ (i:=22) (N:=some 83) (v:=undef) (a':=?_) #[T,T,T,T,T,T,T,T,T,T,T,T,T,T,T,T,T,T,T,T,T,T,T,F,F,F] rfl rfl (any_of HT_.1 (by kernel_rfl)) (fun _ _ _ h=>h) (Or.inr ⟨by rfl,rfl⟩) ?_ ?_
              rotate_left;·simp only [Act.put,L_,M_,N_,i64_w,i32_w];rfl
              refine pure_ (i:=23) (N:=some 84) (v:=undef) (a':=?_) #[T,T,T,T,T,T,T,T,T,T,T,T,T,T,T,T,T,T,T,T,T,T,T,T,F,F] rfl rfl (any_of HT_.1 (by kernel_rfl)) (fun _ _ _ h=>h) (Or.inr ⟨by rfl,rfl⟩) ?_ ?_
              rotate_left;·simp only [Act.put,L_,M_,N_,i64_w,i32_w];rfl
              refine pu_ (i:=24) (N:=85) #[T,T,T,T,T,T,T,T,T,T,T,T,T,T,T,T,T,T,T,T,T,T,T,T,T,F] HT_.1 rfl rfl (fun _ _ _ h=>h) rfl (h:=?_)
              refine pu_ (i:=25) (N:=86) #[T,T,T,T,T,T,T,T,T,T,T,T,T,T,T,T,T,T,T,T,T,T,T,T,T,T] HT_.1 rfl rfl (fun _ _ _ h=>h) rfl (h:=?_)
              refine done_ (done_of HT_.1 (by kernel_rfl)) ?_
              try go_wp2
              go_roundg k3
              case measure=>have:=HK1.1;have:=HK2.1;have:=HK3.1;omega
              case rel=>exact ⟨(x8_3),(x9_3),(wrap64 (x13_3 + 1)),(Ah),(Ai),(Ab),(Ak),(by first|rfl|(simp;done)|(simp [*];done)),H',⟨by have:=HK1.1;have:=HK2.1;have:=HK3.1;omega⟩,⟨rl_ HO_8⟩,⟨rl_ HO_9⟩,⟨rl_ Aa⟩,⟨bl_ Ac⟩,⟨bl_ Ad⟩,⟨is_⟩,⟨by repeat (first|(with_reducible first|exact HK.1|apply KeepBut.set_|apply keep_drewN|apply keep_drew|apply keep_alloc|refine keep_far ?_ Af.1 _|refine keep_far ?_ Aj.1 _)|exact HK.1)⟩,⟨by repeat (first|(with_reducible first|exact HB.1|apply below_alloc|apply pw_below_drewN|apply below_drew1|refine below_set ?_ (Aaa.ge HI0.1)|refine below_set ?_ (Aside0.out (by assumption)))|exact HB.1)⟩⟩
           ·rw [if_neg c32] at H;have c32b0 : decide (x13_3 < Ae) = false:=decide_eq_false c32;clear c32;have H':=A_ H;clear H;go_wp2
            go_roundg k3
            case measure=>have:=HK1.1;have:=HK2.1;have:=HK3.1;omega
            case rel=>exact ⟨(x8_3),(x9_3),(wrap64 (x12_2 + 1)),(Ah),(Ai),(Ab),(Ak),(by first|rfl|(simp;done)|(simp [*];done)),H',⟨by have:=HK1.1;have:=HK2.1;have:=HK3.1;omega⟩,⟨rl_ HO_8⟩,⟨rl_ HO_9⟩,⟨rl_ Aa⟩,⟨bl_ Ac⟩,⟨bl_ Ad⟩,⟨is_⟩,⟨by repeat (first|(with_reducible first|exact HK.1|apply KeepBut.set_|apply keep_drewN|apply keep_drew|apply keep_alloc|refine keep_far ?_ Af.1 _|refine keep_far ?_ Aj.1 _)|exact HK.1)⟩,⟨by repeat (first|(with_reducible first|exact HB.1|apply below_alloc|apply pw_below_drewN|apply below_drew1|refine below_set ?_ (Aaa.ge HI0.1)|refine below_set ?_ (Aside0.out (by assumption)))|exact HB.1)⟩⟩
        ·rw [if_neg c31] at H;have c31b0 : decide (x12_2 < Ae) = false:=decide_eq_false c31;clear c31;by_cases c92 : Ag > 0
         ·rw [if_pos c92] at H;have c92b0 : decide (0 < Ag) = true:=decide_eq_true c92;clear c92;simp only [Option.some.injEq,Prod.mk.injEq] at H
          obtain ⟨rfl,rfl,rfl,rfl⟩:=H;have Z:=Bs.1;have Z:=Bd.1;have Z:=At.1;have Z:=NB0_152.1;obtain ⟨Z,Z,Z,Z⟩:=o2_ Ad.1;have Z:=As.1;have Z:=NB0_145.1;obtain ⟨Z,Z,Z,Z⟩:=o2_ Ac.1;obtain ⟨Ao98,co98,eo98⟩:=Kd.R_slice Aa.1;subst eo98;go_wp2
          refine bodyPost_ret (results_cell_row rfl _ _ Am 26 #[.int .i64 Ae,.slice Ao98 Au.length co98] (0,0) _ rfl (by (with_reducible repeat (first|refine blk_drewN ?_ _|refine blk_drew ?_|refine blk_alloc ?_ _));refine blk_put (cs:=#[.int .i64 Ae,.slice none 0 0]) ?_ 1 _ rfl;(with_reducible repeat (first|refine blk_drewN ?_ _|refine blk_drew ?_|refine blk_alloc ?_ _));refine blk_put (cs:=#[.int .i64 0,.slice none 0 0]) ?_ 0 _ rfl;(with_reducible repeat (first|refine blk_drewN ?_ _|refine blk_drew ?_|refine blk_alloc ?_ _));exact Ac.1) Tryd.underlying26 rfl (by kernel_rfl)) rfl ?_
          exact ⟨_,by first|rfl|(simp [errW_none,errW_some] <;> rfl)|(simp [*,errW_none,errW_some] <;> rfl),rq_ (Kd.R_mono (Kd.R_far (p:=⟨Am,1,none⟩) (Kd.R_far (p:=⟨Am,0,none⟩) (Kd.R_types Aa.1 Ac.1 (by decide)) (fun _ hk=>hk.2) (.int .i64 Ae)) (fun _ hk=>hk.2) (.slice Ao98 Au.length co98)) (fun _ hk=>trivial)),is_,by repeat (first|(with_reducible first|exact HB.1|apply below_alloc|apply pw_below_drewN|apply below_drew1|refine below_set ?_ (Aaa.ge HI0.1)|refine below_set ?_ (Aside0.out (by assumption)))|exact HB.1),by repeat (first|(with_reducible first|exact HK.1|apply KeepBut.set_|apply keep_drewN|apply keep_drew|apply keep_alloc|refine keep_far ?_ Af.1 _|refine keep_far ?_ Aj.1 _)|exact HK.1)⟩
         ·rw [if_neg c92] at H;have c92b0 : decide (0 < Ag) = false:=decide_eq_false c92;clear c92;replace H:=Option.bind_eq_some_iff.mp H;obtain ⟨⟨Cb,Cf,Dq⟩,Da,H⟩:=H;replace H : (some (Cb,Cf,Bb,Bc)) = some (r1,r2,r3,r4):=H;have A99:=A_ Da;clear Da;simp only [Option.some.injEq,Prod.mk.injEq] at H
          obtain ⟨rfl,rfl,rfl,rfl⟩:=H;have Z:=Bs.1;have Z:=Bd.1;have Z:=At.1;have Z:=NB0_152.1;obtain ⟨Z,Z,Z,Z⟩:=o2_ Ad.1;obtain ⟨Di,Dj,Dk⟩:=Kd.R_slice Aa.1;subst Dk;go_wp2_with (first|((with_reducible refine gate_callee (f:=12) rfl ?_);refine goesL_ (some 101) rfl rfl Tryd.func12 (by kernel_rfl) rfl #[.agg #[.int .i64 Ae,.slice Di Au.length Dj]] rfl au_ ?_;(with_reducible refine (Aad.calls k2 Ae _ _ Au Cb Cf Dq _ ?side1 ?side2 A99.1).mono ?_);(case side1=>exact cl_ (Kd.R_reads' Aa.1).2.2);(case side2=>exact (Kd.R_reads' Aa.1).2.1);rintro e D0 ⟨D1,rfl,ho0,hb⟩;refine ⟨_,rfl,?_⟩;have Cc:=A_ (Kd.R_lower (Kd.R_new' (Kd.R_new' (Kd.R_new' ho0 (Kd.R_lt (rl_ HO_8))) (Kd.R_lt (rl_ HO_9))) (Kd.R_lt (rl_ Aa))) (keep_size (w:=w) (g:=g) (row:=none) (by repeat (with_reducible first|exact HK.1|apply KeepBut.set_|apply keep_drewN|apply keep_drew|apply keep_alloc|refine keep_far ?_ Af.1 _|refine keep_far ?_ Aj.1 _))));replace HO_8:=A_ (Kd.R_elder' (rl_ HO_8) (Kd.R_base ho0) hb);replace HO_9:=A_ (Kd.R_elder' (rl_ HO_9) (Kd.R_base ho0) hb);replace Aa:=A_ (Kd.R_elder' (rl_ Aa) (Kd.R_base ho0) hb);replace Ac:=bz Ac hb;replace Ad:=bz Ad hb;replace HK:=A_ (KeepBut.trans (by repeat (with_reducible first|exact HK.1|apply KeepBut.set_|apply keep_drewN|apply keep_drew|apply keep_alloc|refine keep_far ?_ Af.1 _|refine keep_far ?_ Aj.1 _)) (KeepBut.of_below hb g none) (.inl rfl));replace HB:=A_ (below_step (by repeat (with_reducible first|exact HB.1|apply below_alloc|apply pw_below_drewN|apply below_drew1|refine below_set ?_ (Aaa.ge HI0.1)|refine below_set ?_ (Aside0.out (by assumption)))) hb);replace HI0:=A_ (Aaa.below (is_) hb);(try clear hb);(try clear hb2);(try clear hk);(try clear hi);(try clear ho0))|((with_reducible refine gate_dst (N:=14) rfl ?_);refine box_event ?hg (N:=14) ?hd (cs:=#[.int .i64 0,.slice none 0 0]) (t:=26) ?hr ?_;(case hd=>rfl);(case hg=>rfl);(case hr=>go_simp;try rfl);intro Br hg D2 hbox hb;replace HO_8:=rb_ HO_8 hb;replace HO_9:=rb_ HO_9 hb;replace Aa:=rb_ Aa hb;replace Cc:=rb_ Cc hb;replace HB:=A_ (below_step (by repeat (with_reducible first|exact HB.1|apply below_alloc|apply pw_below_drewN|apply below_drew1|refine below_set ?_ (Aaa.ge HI0.1)|refine below_set ?_ (Aside0.out (by assumption)))) hb);have Cx:=A_ (hbox);have Dl:=A_ ((by rw [hg];exact (keep_size (w:=w) (g:=g) (row:=none) (by repeat (with_reducible first|exact HK.1|apply KeepBut.set_|apply keep_drewN|apply keep_drew|apply keep_alloc|refine keep_far ?_ Af.1 _|refine keep_far ?_ Aj.1 _))) : w.heap.size ≤ Br));have Dw:=A_ ((Nat.le_trans HW0.1 (by rw [hg];exact (keep_size (w:=w) (g:=g) (row:=none) (by repeat (with_reducible first|exact HK.1|apply KeepBut.set_|apply keep_drewN|apply keep_drew|apply keep_alloc|refine keep_far ?_ Af.1 _|refine keep_far ?_ Aj.1 _))) : w.heap.size ≤ Br) : w0.heap.size ≤ Br));replace HK:=A_ (KeepBut.trans (by repeat (with_reducible first|exact HK.1|apply KeepBut.set_|apply keep_drewN|apply keep_drew|apply keep_alloc|refine keep_far ?_ Af.1 _|refine keep_far ?_ Aj.1 _)) (KeepBut.of_below hb g none) (.inl rfl));have Bt:=A_ (nl_ hg Ac);have Ck:=A_ (ng_ hg Ac);replace Ac:=bz Ac hb;have Cl:=A_ (nl_ hg Ad);have Cm:=A_ (ng_ hg Ad);replace Ad:=bz Ad hb;have NB0_176:=A_ ((by rw [hg];exact Nat.ne_of_lt (Aaa.lt (show Aaa w0 _ g s0_0 Bb Bc from is_)) : g ≠ Br));have Cy:=A_ ((by rw [hg];exact Nat.ne_of_gt (Aaa.lt (show Aaa w0 _ g s0_0 Bb Bc from is_)) : Br ≠ g));replace HI0:=A_ (Aaa.below (is_) hb);clear hb hbox hg;have Z:=Ck.1;have Z:=Bt.1;have Z:=Cm.1;have Z:=Cl.1;have Z:=Cy.1;have Z:=NB0_176.1;obtain ⟨Z,Z,Z,Z⟩:=o2_ Cx.1;obtain ⟨Ci,Cj,Dm⟩:=Kd.R_slice Cc.1;subst Dm;have Z:=As.1;have Z:=NB0_145.1;obtain ⟨Z,Z,Z,Z⟩:=o2_ Ac.1))
          refine bodyPost_ret (results_cell_row rfl _ _ Am 26 #[.int .i64 Cb,.slice Ci Cf.length Cj] (0,0) _ rfl (by (with_reducible repeat (first|refine blk_drewN ?_ _|refine blk_drew ?_|refine blk_alloc ?_ _));refine blk_put (cs:=#[.int .i64 Cb,.slice none 0 0]) ?_ 1 _ rfl;(with_reducible repeat (first|refine blk_drewN ?_ _|refine blk_drew ?_|refine blk_alloc ?_ _));refine blk_put (cs:=#[.int .i64 0,.slice none 0 0]) ?_ 0 _ rfl;(with_reducible repeat (first|refine blk_drewN ?_ _|refine blk_drew ?_|refine blk_alloc ?_ _));refine blk_far ?_ Bt.1 _;(with_reducible repeat (first|refine blk_drewN ?_ _|refine blk_drew ?_|refine blk_alloc ?_ _));refine blk_far ?_ Bt.1 _;(with_reducible repeat (first|refine blk_drewN ?_ _|refine blk_drew ?_|refine blk_alloc ?_ _));exact Ac.1) Tryd.underlying26 rfl (by kernel_rfl)) rfl ?_
          exact ⟨_,by first|rfl|(simp [errW_none,errW_some] <;> rfl)|(simp [*,errW_none,errW_some] <;> rfl),rq_ (Kd.R_mono (Kd.R_far (p:=⟨Am,1,none⟩) (Kd.R_far (p:=⟨Am,0,none⟩) (Kd.R_far (p:=⟨Br,1,none⟩) (Kd.R_far (p:=⟨Br,0,none⟩) (Kd.R_types (Kd.R_types Cc.1 Cx.1 (by decide)) Ac.1 (by decide)) (fun _ hk=>hk.1.2) (.int .i64 Cb)) (fun _ hk=>hk.1.2) (.slice Ci Cf.length Cj)) (fun _ hk=>hk.2) (.int .i64 Cb)) (fun _ hk=>hk.2) (.slice Ci Cf.length Cj)) (fun _ hk=>trivial)),is_,by repeat (first|(with_reducible first|exact HB.1|apply below_alloc|apply pw_below_drewN|apply below_drew1|refine below_set ?_ (Aaa.ge HI0.1)|refine below_set ?_ (Aside0.out (by assumption)))|exact HB.1),by repeat (first|(with_reducible first|exact HK.1|apply KeepBut.set_|apply keep_drewN|apply keep_drew|apply keep_alloc|refine keep_far ?_ Af.1 _|refine keep_far ?_ Aj.1 _|refine keep_far ?_ Dl.1 _)|exact HK.1)⟩
  ·rw [if_neg c5] at H;exact absurd H (by simp)
 ·rw [if_neg c4] at H;exact absurd H (by simp)
def Aaq.f (s0_0 : List Int) (s0_1 : Int) (s0_2 : Int) (l1 : List Int) : Option (Int × Int × Int) := (Aah.f s0_0 s0_1 s0_2 (l1.length : Int)).bind fun bt191 => (if 0 ≤ bt191.1 then (if bt191.1 < (l1.length : Int) then (some (rd l1 bt191.1, bt191.2.1, bt191.2.2)) else (none)) else (none))
set_option maxHeartbeats 8000000 in
set_option maxRecDepth 100000 in
theorem Aaq.calls (g : Nat) (s0_0 : List Int) (s0_1 : Int) (s0_2 : Int) (A1 : Option Addr) (c1 : Nat) (l1 : List Int) (r1 : Int) (r2 : Int) (r3 : Int) (w0 w : World) (hI : Aaa w0 w g s0_0 s0_1 s0_2) (hB : Below w0.heap.size w0 w) (hr1 : Kd.C (Kd.int .i64) w A1 l1.length l1) (hc1 : l1.length ≤ c1) (hf1 : ∀ ad,A1 = some ad → 0 < l1.length → ad.block ≠ g) (h : Aaq.f s0_0 s0_1 s0_2 l1 = some (r1,r2,r3)) :
 Calls Tryd.prog 113 #[.pointer (some ⟨g,0,none⟩),.slice A1 l1.length c1] w fun e w'=>e = .returned (.int .i64 r1) ∧ Aaa w0 w' g s0_0 r2 r3 ∧ Below w0.heap.size w0 w' ∧ KeepBut w w' g none:=by
 have HR1:=A_ hr1;have HC1:=A_ hc1;clear hr1 hc1;have HI0:=A_ hI;have HK:=A_ (KeepBut.refl w g none);have HL:=A_ hB.size;clear hI;have HW0:=A_ hB.size;have HB:=A_ hB;clear hB;have H : ((Aah.f s0_0 s0_1 s0_2 (l1.length : Int)).bind fun Ab=>(if 0 ≤ Ab.1 then (if Ab.1 < (l1.length : Int) then (some (rd l1 Ab.1,Ab.2.1,Ab.2.2)) else (none)) else (none))) = some (r1,r2,r3):=h;clear h;replace H:=Option.bind_eq_some_iff.mp H;obtain ⟨⟨Aa,Af,Ag⟩,A30,H⟩:=H;replace H : (if 0 ≤ Aa then (if Aa < (l1.length : Int) then (some (rd l1 Aa,Af,Ag)) else (none)) else (none)) = some (r1,r2,r3):=H;have A3:=A_ A30;clear A30;by_cases c4 : 0 ≤ Aa
 ·rw [if_pos c4] at H;have c4b0 : decide (0 ≤ Aa) = true:=decide_eq_true c4;clear c4;by_cases c5 : Aa < (l1.length : Int)
  ·rw [if_pos c5] at H;have c5b0 : decide (Aa < (l1.length : Int)) = true:=decide_eq_true c5;clear c5;simp only [Option.some.injEq,Prod.mk.injEq] at H
   obtain ⟨rfl,rfl,rfl⟩:=H;go_enter Tryd.func113,Tryd.ntmps113
   go_wp2_with (first|((with_reducible refine gate_callee (f:=81) rfl ?_);refine goesL_ (some 9) rfl rfl Tryd.func81 (by kernel_rfl) rfl #[.pointer (some ⟨g,0,none⟩),.int .i64 (l1.length : Int)] rfl au_ ?_;(with_reducible refine (Aah.calls g s0_0 s0_1 s0_2 (l1.length : Int) Aa Af Ag w0 _ ?side1 ?side2 A3.1).mono ?_);(case side1=>exact is_);(case side2=>repeat (first|(with_reducible first|exact HB.1|apply below_alloc|apply pw_below_drewN|apply below_drew1|refine below_set ?_ (Aaa.ge HI0.1))|exact HB.1));rintro e w6 ⟨rfl,hi,hb,hk⟩;refine ⟨_,rfl,?_⟩;replace HK:=A_ (KeepBut.trans (by repeat (with_reducible first|exact HK.1|apply KeepBut.set_|apply keep_drewN|apply keep_drew|apply keep_alloc)) hk (.inl rfl));replace HB:=A_ (hb);replace HI0:=A_ (hi);(try clear hb);(try clear hb2);(try clear hk);(try clear hi);have Ad : 0 ≤ (Aa : Int):=of_decide_eq_true (by first|(with_reducible assumption)|assumption);have Ae : Aa < (l1.length : Int):=of_decide_eq_true (by first|(with_reducible assumption)|assumption);obtain ⟨Ah,Ai,Ac⟩:=Kd.at_int HR1.1 Aa Ad Ae;cases Ai;replace Ac:=keep_cell HK.1 Ac (by first|(rw [add_block];exact hf1 _ rfl (by omega))|exact hf1 _ rfl (by omega)|exact hf1 Ah rfl (by omega));replace Ad:=eq_true Ad;replace Ae:=eq_true Ae))
   go_ret
   exact ⟨by first|rfl|(simp [errW_none,errW_some] <;> rfl)|(simp [*,errW_none,errW_some] <;> rfl),is_,by repeat (first|(with_reducible first|exact HB.1|apply below_alloc|apply pw_below_drewN|apply below_drew1|refine below_set ?_ (Aaa.ge HI0.1))|exact HB.1),by repeat (first|(with_reducible first|exact HK.1|apply KeepBut.set_|apply keep_drewN|apply keep_drew|apply keep_alloc)|exact HK.1)⟩
  ·rw [if_neg c5] at H;exact absurd H (by simp)
 ·rw [if_neg c4] at H;exact absurd H (by simp)
end Go.Proofs.YtfjpilcmjabikaaDoor.P

