/- A part of the proof that the law FnPatterns holds at every input. Written by wip/pack.py: the kit's printed words that are used, the functions' walks as wip/gen.py prints them, and hand proofs. -/
import Derived.Test.YtfjpilcmjabikaaDoorKFnPatterns2
namespace Go.Proofs.YtfjpilcmjabikaaDoor.P
open Go.RowKit Go.Proofs.YtfjpilcmjabikaaDoorW.PrintWords Go.Proofs.YtfjpilcmjabikaaDoorW.PrintLast Go.Proofs.YtfjpilcmjabikaaDoorW.PrintMore
open Bool renaming true → T, false → F
open List renaming setIfInBounds_toArray → L_, set_cons_zero → M_, set_cons_succ → N_, map_toArray → P_, map_cons → Q_, map_nil → R_, length_drop → S_, length_take → U_
open Aside0 renaming mk → A_
attribute [local go_sem] max2_int min2_int max_two min_two max_three min_three max_four min_four
set_option linter.unusedVariables false
set_option linter.unusedSimpArgs false
attribute [local go_sem] fldOrder_0 fldOrder_1
def Aah.j0 : Nat → Bool → List Int → Int → Int → Int → List Int → Option (Int × List Int × Int × List Int)
 | 0,_,_,_,_,_,_=>none
 | k + 1,x22,x536000,x536001,x536002,x543000,x543001=>if x22 = true then ((Aaq.f k x536000 x536001 x536002 x543000).bind fun bt547=>((Abf.f k x543000 bt547.1).bind fun t552=>(if t552 = true then ((Aaf.f x536000 bt547.2.1 bt547.2.2 5).bind fun bt553=>((Abb.f bt553.1 x543000).bind fun t556=>(if 0 ≤ t556 then (if t556 ≤ (bt547.1.length : Int) then ((Aar.f k x543000 x543001 (bt547.1.take (t556 : Int).toNat)).bind fun bt561=>(some (x543000,x543001,bt561.1,bt561.2))) else (none)) else (none)))) else ((Aam.f k x536000 bt547.2.1 bt547.2.2 5).bind fun bt565=>(some (x543000,x543001,bt565.1,bt565.2.1)))))) else ((Aam.f k x536000 x536001 x536002 5).bind fun bt571=>(some (x543000,x543001,bt571.1,bt571.2.1)))
def Aah.f (k : Nat) (l0 : List Int) : Option (Int × List Int × Int × List Int) := (Aam.f k l0 0 0 7).bind fun bt536 => ((Aan.f k bt536.1 bt536.2.1).bind fun t543 => (if t543 = true then (if bt536.1 > 0 then ((Aav.f l0 bt536.2.2.1 bt536.2.2.2 2).bind fun bt544 => (Aah.j0 k bt544.1 l0 bt544.2.1 bt544.2.2 bt536.1 bt536.2.1)) else (Aah.j0 k false l0 bt536.2.2.1 bt536.2.2.2 bt536.1 bt536.2.1)) else (Aah.j0 k false l0 bt536.2.2.1 bt536.2.2.2 bt536.1 bt536.2.1)))
def Aah.T6 : Bool × List (List Nat × List Nat) := (true, [([], []), ([], []), ([], []), ([], []), ([3], [3]), ([], []), ([5], [5]), ([4, 6, 4], [4, 6]), ([2, 7], [2, 7]), ([1, 8, 7], [1, 8]), ([0, 9, 0], [0]), ([9, 10, 0, 1, 2, 3, 4, 5, 6, 7, 8, 9, 10], [9])])
def Aah.B6 : List Nat := [0, 0, 0, 0, 8, 0, 32, 120, 252, 510, 1023, 2047]
theorem Aah.tab6 : rtab .any (opsOf Tryd.f22 6) = Aah.T6:=by kernel_rfl
theorem Aah.bits6 : waitsOk Aah.T6.2 Aah.B6 = true:=by kernel_rfl
set_option maxHeartbeats 8000000 in
set_option maxRecDepth 100000 in
theorem Aah.calls (k : Nat) (A0 : Option Addr) (c0 : Nat) (l0 : List Int) (r1 : Int) (r2 : List Int) (r3 : Int) (r4 : List Int) (w : World) (hr0 : Kd.C (Kd.int .u8) w A0 l0.length l0) (hc0 : l0.length ≤ c0) (h : Aah.f k l0 = some (r1,r2,r3,r4)) :
 Calls Tryd.prog 22 #[.slice A0 l0.length c0] w fun e w'=>∃ v1_ v3_ : Value,e = .returned (.tuple #[.agg #[.int .i64 r1,v1_],.agg #[.int .i64 r3,v3_]]) ∧ Kd.R (Kd.int .i64) 3 w' w.heap.size (fun k_=>some k_ ≠ (v3_ : Value).ownBlock) v1_ r2 ∧ Kd.R (Kd.int .i64) 3 w' w.heap.size (fun k_=>some k_ ≠ (v1_ : Value).ownBlock) v3_ r4 ∧ Below w.heap.size w w':=by
 have hu26:=Tryd.underlying26;have hu62:=Tryd.underlying62;have HR0:=A_ hr0;have HC0:=A_ hc0;clear hr0 hc0;have HB:=A_ (Below.refl w.heap.size w);have H : ((Aam.f k l0 0 0 7).bind fun Az=>((Aan.f k Az.1 Az.2.1).bind fun Bm=>(if Bm = true then (if Az.1 > 0 then ((Aav.f l0 Az.2.2.1 Az.2.2.2 2).bind fun A9=>(Aah.j0 k A9.1 l0 A9.2.1 A9.2.2 Az.1 Az.2.1)) else (Aah.j0 k false l0 Az.2.2.1 Az.2.2.2 Az.1 Az.2.1)) else (Aah.j0 k false l0 Az.2.2.1 Az.2.2.2 Az.1 Az.2.1)))) = some (r1,r2,r3,r4):=h;clear h;replace H:=Option.bind_eq_some_iff.mp H;obtain ⟨⟨Ab,Af,Ba,Bb⟩,A20,H⟩:=H;replace H : ((Aan.f k Ab Af).bind fun Bm=>(if Bm = true then (if Ab > 0 then ((Aav.f l0 Ba Bb 2).bind fun A9=>(Aah.j0 k A9.1 l0 A9.2.1 A9.2.2 Ab Af)) else (Aah.j0 k false l0 Ba Bb Ab Af)) else (Aah.j0 k false l0 Ba Bb Ab Af))) = some (r1,r2,r3,r4):=H;have A2:=A_ A20;clear A20;have HC3:=A_ H;clear H;go_enter Tryd.func22,Tryd.ntmps22
 go_upto_region 3 with (first|((with_reducible refine gate_dst (N:=2) rfl ?_);refine box_event ?hg (N:=2) ?hd (cs:=#[.int .i64 0,.slice none 0 0]) (t:=26) ?hr ?_;(case hd=>rfl);(case hg=>rfl);(case hr=>go_simp;try rfl);intro Ah hg w4 hbox hb;have Ac:=A_ (hbox);have Cv:=A_ (gw_ (w:=w) hg bb_);have Cw:=A_ (gw_ (w:=w) hg bb_);replace HB:=A_ (below_step bb_ hb);clear hb hbox hg)|((with_reducible refine gate_dst (N:=3) rfl ?_);refine box_event ?hg (N:=3) ?hd (cs:=#[.int .i64 0,.slice none 0 0]) (t:=26) ?hr ?_;(case hd=>rfl);(case hg=>rfl);(case hr=>go_simp;try rfl);intro Ai hg w5 hbox hb;have Ae:=A_ (hbox);have Cx:=A_ (gw_ (w:=w) hg bb_);have Cy:=A_ (gw_ (w:=w) hg bb_);replace HB:=A_ (below_step bb_ hb);have Al:=A_ (nl_ hg Ac);have Am:=A_ (ng_ hg Ac);replace Ac:=bz Ac hb;clear hb hbox hg)|((with_reducible refine gate_dst (N:=9) rfl ?_);refine box_event ?hg (N:=9) ?hd (cs:=#[.slice A0 l0.length c0,.int .i64 0,.int .u64 0]) (t:=62) ?hr ?_;(case hd=>rfl);(case hg=>rfl);(case hr=>go_simp;try rfl);intro Ap hg w6 hbox hb;have Aa:=A_ ((show Aaa w _ Ap l0 0 0 from ⟨_,_,hbox,(by rw [hg];exact (below_size bb_) : w.heap.size ≤ Ap),HR0.1⟩));have Cz:=A_ (gw_ (w:=w) hg bb_);have C0:=A_ (gw_ (w:=w) hg bb_);replace HB:=A_ (below_step bb_ hb);have Bc:=A_ (nl_ hg Ac);have Cm:=A_ (ng_ hg Ac);replace Ac:=bz Ac hb;have Bd:=A_ (nl_ hg Ae);have Cn:=A_ (ng_ hg Ae);replace Ae:=bz Ae hb;clear hb hbox hg)|((with_reducible refine gate_callee (f:=60) rfl ?_);refine goesL_ (some 11) rfl rfl Tryd.func60 (by kernel_rfl) rfl #[.pointer (some ⟨Ap,0,none⟩),.int .i64 7] rfl au_ ?_;(with_reducible refine (Aam.calls k Ap l0 0 0 7 Ab Af Ba Bb w _ ?side1 ?side2 A2.1).mono ?_);(case side1=>repeat (first|(with_reducible first|exact Aa.1|apply Aaa.alloc|apply Aaa.drewN|apply Aaa.drew|apply Aaa.set_1|apply Aaa.set_2|refine Aaa.far ?_ (Aside0.out (by assumption)) _)|exact Aa.1));(case side2=>repeat (first|(with_reducible first|exact HB.1|apply below_alloc|apply pw_below_drewN|apply below_drew1|refine below_set ?_ (Aaa.ge Aa.1)|refine below_set ?_ (Aside0.out (by assumption)))|exact HB.1));rintro e w7 ⟨C3,rfl,ho0,hi,hb,hk⟩;refine ⟨_,rfl,?_⟩;replace Ac:=A_ (KeepBut.blk hk (g':=Ah) (o:=.cells #[.int .i64 0,.slice none 0 0] 26 (0,0)) (bl_ Ac) Bc.1 (by simp));replace Ae:=A_ (KeepBut.blk hk (g':=Ai) (o:=.cells #[.int .i64 0,.slice none 0 0] 26 (0,0)) (bl_ Ae) Bd.1 (by simp));have Ax:=A_ (Kd.R_lower ho0 (below_size (by repeat (with_reducible first|exact HB.1|apply below_alloc|apply pw_below_drewN|apply below_drew1|refine below_set ?_ (Aaa.ge Aa.1)|refine below_set ?_ (Aside0.out (by assumption))))));replace HB:=A_ (hb);replace Aa:=A_ (hi);(try clear hb);(try clear hb2);(try clear hk);(try clear hi);(try clear ho0))|((with_reducible refine gate_dst (N:=5) rfl ?_);refine box_event ?hg (N:=5) ?hd (cs:=#[.int .i64 0,.slice none 0 0]) (t:=26) ?hr ?_;(case hd=>rfl);(case hg=>rfl);(case hr=>go_simp;try rfl);intro Aq hg w8 hbox hb;replace Ax:=rb_ Ax hb;have Ad:=A_ (hbox);have C1:=A_ ((by rw [hg];exact (below_size (by repeat (with_reducible first|exact HB.1|apply below_alloc|apply pw_below_drewN|apply below_drew1|refine below_set ?_ (Aaa.ge Aa.1)|refine below_set ?_ (Aside0.out (by assumption))))) : w.heap.size ≤ Aq));have C2:=A_ ((by rw [hg];exact (below_size (by repeat (with_reducible first|exact HB.1|apply below_alloc|apply pw_below_drewN|apply below_drew1|refine below_set ?_ (Aaa.ge Aa.1)|refine below_set ?_ (Aside0.out (by assumption))))) : w.heap.size ≤ Aq));replace HB:=A_ (below_step (by repeat (with_reducible first|exact HB.1|apply below_alloc|apply pw_below_drewN|apply below_drew1|refine below_set ?_ (Aaa.ge Aa.1)|refine below_set ?_ (Aside0.out (by assumption)))) hb);have An:=A_ (nl_ hg Ac);have Aj:=A_ (ng_ hg Ac);replace Ac:=bz Ac hb;have Ao:=A_ (nl_ hg Ae);have Ak:=A_ (ng_ hg Ae);replace Ae:=bz Ae hb;have Bg:=A_ ((by rw [hg];exact Nat.ne_of_lt (Aaa.lt (show Aaa w _ Ap l0 Ba Bb from by repeat (first|(with_reducible first|exact Aa.1|apply Aaa.alloc|apply Aaa.drewN|apply Aaa.drew|apply Aaa.set_1|apply Aaa.set_2|refine Aaa.far ?_ (Aside0.out (by assumption)) _)|exact Aa.1))) : Ap ≠ Aq));have Au:=A_ ((by rw [hg];exact Nat.ne_of_gt (Aaa.lt (show Aaa w _ Ap l0 Ba Bb from by repeat (first|(with_reducible first|exact Aa.1|apply Aaa.alloc|apply Aaa.drewN|apply Aaa.drew|apply Aaa.set_1|apply Aaa.set_2|refine Aaa.far ?_ (Aside0.out (by assumption)) _)|exact Aa.1))) : Aq ≠ Ap));replace Aa:=A_ (Aaa.below (by repeat (first|(with_reducible first|exact Aa.1|apply Aaa.alloc|apply Aaa.drewN|apply Aaa.drew|apply Aaa.set_1|apply Aaa.set_2|refine Aaa.far ?_ (Aside0.out (by assumption)) _)|exact Aa.1)) hb);clear hb hbox hg;have Z:=Aj.1;have Z:=An.1;have Z:=Ak.1;have Z:=Ao.1;have Z:=Au.1;have Z:=Bg.1;obtain ⟨Z,Z,Z,Z⟩:=o2_ Ad.1;obtain ⟨Ao13,co13,eo13⟩:=Kd.R_slice Ax.1;subst eo13))
 (try simp only [Act.put,L_,M_,N_]);go_cut [22] (fun v22 wc=>∃ (kq : Nat) (x22_2 : Bool) (Av : Int) (Aw : Int),v22 = .bool x22_2 ∧ Aside0 (Aah.j0 kq x22_2 l0 Av Aw Ab Af = some (r1,r2,r3,r4)) ∧ Aside0 (kq ≤ k) ∧ Aside0 (Kd.R (Kd.int .i64) 3 wc w.heap.size (fun _=>True) (.slice Ao13 Af.length co13) Af) ∧ Aside0 (wc.heap[Ah]? = some (.cells #[.int .i64 0,(.slice none 0 0)] 26 (0,0))) ∧ Aside0 (wc.heap[Ai]? = some (.cells #[.int .i64 0,(.slice none 0 0)] 26 (0,0))) ∧ Aside0 (wc.heap[Aq]? = some (.cells #[.int .i64 Ab,(.slice Ao13 Af.length co13)] 26 (0,0))) ∧ Aside0 (Aaa w wc Ap l0 Av Aw) ∧ Aside0 (Below w.heap.size w wc))
 case first =>
  have H:=HC3.1;clear HC3;replace H:=Option.bind_eq_some_iff.mp H;obtain ⟨Bm,Cc,H⟩:=H;replace H : (if Bm = true then (if Ab > 0 then ((Aav.f l0 Ba Bb 2).bind fun A9=>(Aah.j0 k A9.1 l0 A9.2.1 A9.2.2 Ab Af)) else (Aah.j0 k false l0 Ba Bb Ab Af)) else (Aah.j0 k false l0 Ba Bb Ab Af)) = some (r1,r2,r3,r4):=H;have A14:=A_ Cc;clear Cc;by_cases c15 : Bm = true
  ·subst c15;have H1 : (if Ab > 0 then ((Aav.f l0 Ba Bb 2).bind fun A9=>(Aah.j0 k A9.1 l0 A9.2.1 A9.2.2 Ab Af)) else (Aah.j0 k false l0 Ba Bb Ab Af)) = some (r1,r2,r3,r4):=by rw [if_pos rfl] at H;exact H
   clear H;have H:=H1;clear H1;by_cases c16 : Ab > 0
   ·rw [if_pos c16] at H;have c16b0 : decide (0 < Ab) = true:=decide_eq_true c16;clear c16;(first|rw [c16b0]|(simp only [i64_w,i32_w];rw [c16b0])|skip)
    replace H:=Option.bind_eq_some_iff.mp H;obtain ⟨⟨Bw,Bx,Bz⟩,Cd,H⟩:=H;replace H : (Aah.j0 k Bw l0 Bx Bz Ab Af) = some (r1,r2,r3,r4):=H;have A17:=A_ Cd;clear Cd;have H':=A_ H;clear H;have Z:=Aj.1;have Z:=An.1;have Z:=Ak.1;have Z:=Ao.1;have Z:=Au.1;have Z:=Bg.1;obtain ⟨Z,Z,Z,Z⟩:=o2_ Ad.1;go_wp2_with (first|((with_reducible refine gate_callee (f:=63) rfl ?_);refine goesL_ (some 13) rfl rfl Tryd.func63 (by kernel_rfl) rfl #[.agg #[.int .i64 Ab,.slice Ao13 Af.length co13]] rfl au_ ?_;(with_reducible refine (Aan.calls k Ab _ _ Af true _ ?side1 ?side2 A14.1).mono ?_);(case side1=>refine (Kd.R_reads' (e:=3) (base:=w.heap.size) (ok:=fun k_=>True) (n:=Af.length) (c:=co13) ?_).2.2;exact (rq_ (rf_ Ax Ad (.int .i64 Ab) (.slice Ao13 Af.length co13))));(case side2=>exact (Kd.R_reads' Ax.1).2.1);rintro e w22 ⟨rfl,hb⟩;refine ⟨_,rfl,?_⟩;replace Ax:=A_ (Kd.R_below (rq_ (rf_ Ax Ad (.int .i64 Ab) (.slice Ao13 Af.length co13))) hb);replace Ac:=A_ (blk_below (g:=Ah) (o:=.cells #[.int .i64 0,.slice none 0 0] 26 (0,0)) (by (with_reducible repeat (first|refine blk_drewN ?_ _|refine blk_drew ?_|refine blk_alloc ?_ _));refine blk_far ?_ An.1 _;(with_reducible repeat (first|refine blk_drewN ?_ _|refine blk_drew ?_|refine blk_alloc ?_ _));refine blk_far ?_ An.1 _;(with_reducible repeat (first|refine blk_drewN ?_ _|refine blk_drew ?_|refine blk_alloc ?_ _));exact Ac.1) hb);replace Ae:=A_ (blk_below (g:=Ai) (o:=.cells #[.int .i64 0,.slice none 0 0] 26 (0,0)) (by (with_reducible repeat (first|refine blk_drewN ?_ _|refine blk_drew ?_|refine blk_alloc ?_ _));refine blk_far ?_ Ao.1 _;(with_reducible repeat (first|refine blk_drewN ?_ _|refine blk_drew ?_|refine blk_alloc ?_ _));refine blk_far ?_ Ao.1 _;(with_reducible repeat (first|refine blk_drewN ?_ _|refine blk_drew ?_|refine blk_alloc ?_ _));exact Ae.1) hb);replace Ad:=A_ (blk_below (g:=Aq) (o:=.cells #[.int .i64 Ab,.slice Ao13 Af.length co13] 26 (0,0)) (by (with_reducible repeat (first|refine blk_drewN ?_ _|refine blk_drew ?_|refine blk_alloc ?_ _));refine blk_put (cs:=#[.int .i64 Ab,.slice none 0 0]) ?_ 1 _ rfl;(with_reducible repeat (first|refine blk_drewN ?_ _|refine blk_drew ?_|refine blk_alloc ?_ _));refine blk_put (cs:=#[.int .i64 0,.slice none 0 0]) ?_ 0 _ rfl;(with_reducible repeat (first|refine blk_drewN ?_ _|refine blk_drew ?_|refine blk_alloc ?_ _));exact Ad.1) hb);replace HB:=A_ (below_step (by repeat (with_reducible first|exact HB.1|apply below_alloc|apply pw_below_drewN|apply below_drew1|refine below_set ?_ (Aaa.ge Aa.1)|refine below_set ?_ (Aside0.out (by assumption)))) hb);replace Aa:=A_ (Aaa.below (show Aaa w ((w8.setCell ⟨Aq,0,none⟩ (.int .i64 Ab)).setCell ⟨Aq,1,none⟩ (.slice Ao13 Af.length co13)) Ap l0 Ba Bb from by repeat (first|(with_reducible first|exact Aa.1|apply Aaa.alloc|apply Aaa.drewN|apply Aaa.drew|apply Aaa.set_1|apply Aaa.set_2|refine Aaa.far ?_ (Aside0.out (by assumption)) _)|exact Aa.1)) hb);(try clear hb);(try clear hb2);(try clear hk);(try clear hi);obtain ⟨Z,Z,Z,Z⟩:=o2_ Ad.1)|(go_at_call 58;(with_reducible refine (Aav.calls Ap l0 Ba Bb 2 Bw Bx Bz w _ ?side1 ?side2 A17.1).mono ?_);(case side1=>repeat (first|(with_reducible first|exact Aa.1|apply Aaa.alloc|apply Aaa.drewN|apply Aaa.drew|apply Aaa.set_1|apply Aaa.set_2|refine Aaa.far ?_ (Aside0.out (by assumption)) _)|exact Aa.1));(case side2=>repeat (first|(with_reducible first|exact HB.1|apply below_alloc|apply pw_below_drewN|apply below_drew1|refine below_set ?_ (Aaa.ge Aa.1)|refine below_set ?_ (Aside0.out (by assumption)))|exact HB.1));rintro e w24 ⟨rfl,hi,hb,hk⟩;replace Ac:=A_ (KeepBut.blk hk (g':=Ah) (o:=.cells #[.int .i64 0,.slice none 0 0] 26 (0,0)) (bl_ Ac) Bc.1 (by simp));replace Ae:=A_ (KeepBut.blk hk (g':=Ai) (o:=.cells #[.int .i64 0,.slice none 0 0] 26 (0,0)) (bl_ Ae) Bd.1 (by simp));replace Ax:=A_ (Kd.R_mono (Kd.R_keep (Aaa.apart (show Aaa w _ Ap l0 Ba Bb from by repeat (first|(with_reducible first|exact Aa.1|apply Aaa.alloc|apply Aaa.drewN|apply Aaa.drew|apply Aaa.set_1|apply Aaa.set_2|refine Aaa.far ?_ (Aside0.out (by assumption)) _)|exact Aa.1)) (rl_ Ax) (by decide)) hk (fun _ h=>h.2)) (fun _ h=>h.1));replace Ad:=A_ (KeepBut.blk hk (g':=Aq) (o:=.cells #[.int .i64 Ab,.slice Ao13 Af.length co13] 26 (0,0)) (bl_ Ad) Au.1 (by simp));replace HB:=A_ (hb);replace Aa:=A_ (hi);(try clear hb);(try clear hb2);(try clear hk);(try clear hi)))
    go_meet
    case rel=>exact ⟨_,(Bw),(Bx),(Bz),(by first|rfl|(simp;done)|(simp [*];done)),H',⟨by first|omega|exact Nat.le_refl _⟩,⟨rl_ Ax⟩,⟨bl_ Ac⟩,⟨bl_ Ae⟩,⟨bl_ Ad⟩,⟨by repeat (first|(with_reducible first|exact Aa.1|apply Aaa.alloc|apply Aaa.drewN|apply Aaa.drew|apply Aaa.set_1|apply Aaa.set_2|refine Aaa.far ?_ (Aside0.out (by assumption)) _)|exact Aa.1)⟩,⟨by repeat (first|(with_reducible first|exact HB.1|apply below_alloc|apply pw_below_drewN|apply below_drew1|refine below_set ?_ (Aaa.ge Aa.1)|refine below_set ?_ (Aside0.out (by assumption)))|exact HB.1)⟩⟩
   ·rw [if_neg c16] at H;have c16b0 : decide (0 < Ab) = false:=decide_eq_false c16;clear c16;(first|rw [c16b0]|(simp only [i64_w,i32_w];rw [c16b0])|skip)
    have H':=A_ H;clear H;have Z:=Aj.1;have Z:=An.1;have Z:=Ak.1;have Z:=Ao.1;have Z:=Au.1;have Z:=Bg.1;obtain ⟨Z,Z,Z,Z⟩:=o2_ Ad.1;go_wp2_with (first|((with_reducible refine gate_callee (f:=63) rfl ?_);refine goesL_ (some 13) rfl rfl Tryd.func63 (by kernel_rfl) rfl #[.agg #[.int .i64 Ab,.slice Ao13 Af.length co13]] rfl au_ ?_;(with_reducible refine (Aan.calls k Ab _ _ Af true _ ?side1 ?side2 A14.1).mono ?_);(case side1=>refine (Kd.R_reads' (e:=3) (base:=w.heap.size) (ok:=fun k_=>True) (n:=Af.length) (c:=co13) ?_).2.2;exact (rq_ (rf_ Ax Ad (.int .i64 Ab) (.slice Ao13 Af.length co13))));(case side2=>exact (Kd.R_reads' Ax.1).2.1);rintro e w29 ⟨rfl,hb⟩;refine ⟨_,rfl,?_⟩;replace Ax:=A_ (Kd.R_below (rq_ (rf_ Ax Ad (.int .i64 Ab) (.slice Ao13 Af.length co13))) hb);replace Ac:=A_ (blk_below (g:=Ah) (o:=.cells #[.int .i64 0,.slice none 0 0] 26 (0,0)) (by (with_reducible repeat (first|refine blk_drewN ?_ _|refine blk_drew ?_|refine blk_alloc ?_ _));refine blk_far ?_ An.1 _;(with_reducible repeat (first|refine blk_drewN ?_ _|refine blk_drew ?_|refine blk_alloc ?_ _));refine blk_far ?_ An.1 _;(with_reducible repeat (first|refine blk_drewN ?_ _|refine blk_drew ?_|refine blk_alloc ?_ _));exact Ac.1) hb);replace Ae:=A_ (blk_below (g:=Ai) (o:=.cells #[.int .i64 0,.slice none 0 0] 26 (0,0)) (by (with_reducible repeat (first|refine blk_drewN ?_ _|refine blk_drew ?_|refine blk_alloc ?_ _));refine blk_far ?_ Ao.1 _;(with_reducible repeat (first|refine blk_drewN ?_ _|refine blk_drew ?_|refine blk_alloc ?_ _));refine blk_far ?_ Ao.1 _;(with_reducible repeat (first|refine blk_drewN ?_ _|refine blk_drew ?_|refine blk_alloc ?_ _));exact Ae.1) hb);replace Ad:=A_ (blk_below (g:=Aq) (o:=.cells #[.int .i64 Ab,.slice Ao13 Af.length co13] 26 (0,0)) (by (with_reducible repeat (first|refine blk_drewN ?_ _|refine blk_drew ?_|refine blk_alloc ?_ _));refine blk_put (cs:=#[.int .i64 Ab,.slice none 0 0]) ?_ 1 _ rfl;(with_reducible repeat (first|refine blk_drewN ?_ _|refine blk_drew ?_|refine blk_alloc ?_ _));refine blk_put (cs:=#[.int .i64 0,.slice none 0 0]) ?_ 0 _ rfl;(with_reducible repeat (first|refine blk_drewN ?_ _|refine blk_drew ?_|refine blk_alloc ?_ _));exact Ad.1) hb);replace HB:=A_ (below_step (by repeat (with_reducible first|exact HB.1|apply below_alloc|apply pw_below_drewN|apply below_drew1|refine below_set ?_ (Aaa.ge Aa.1)|refine below_set ?_ (Aside0.out (by assumption)))) hb);replace Aa:=A_ (Aaa.below (show Aaa w ((w8.setCell ⟨Aq,0,none⟩ (.int .i64 Ab)).setCell ⟨Aq,1,none⟩ (.slice Ao13 Af.length co13)) Ap l0 Ba Bb from by repeat (first|(with_reducible first|exact Aa.1|apply Aaa.alloc|apply Aaa.drewN|apply Aaa.drew|apply Aaa.set_1|apply Aaa.set_2|refine Aaa.far ?_ (Aside0.out (by assumption)) _)|exact Aa.1)) hb);(try clear hb);(try clear hb2);(try clear hk);(try clear hi);obtain ⟨Z,Z,Z,Z⟩:=o2_ Ad.1))
    go_meet
    case rel=>exact ⟨_,(false),(Ba),(Bb),(by first|rfl|(simp;done)|(simp [*];done)),H',⟨by first|omega|exact Nat.le_refl _⟩,⟨rl_ Ax⟩,⟨bl_ Ac⟩,⟨bl_ Ae⟩,⟨bl_ Ad⟩,⟨by repeat (first|(with_reducible first|exact Aa.1|apply Aaa.alloc|apply Aaa.drewN|apply Aaa.drew|apply Aaa.set_1|apply Aaa.set_2|refine Aaa.far ?_ (Aside0.out (by assumption)) _)|exact Aa.1)⟩,⟨by repeat (first|(with_reducible first|exact HB.1|apply below_alloc|apply pw_below_drewN|apply below_drew1|refine below_set ?_ (Aaa.ge Aa.1)|refine below_set ?_ (Aside0.out (by assumption)))|exact HB.1)⟩⟩
  ·replace c15:=Bool.eq_false_iff.mpr c15;subst c15;have H1 : (Aah.j0 k false l0 Ba Bb Ab Af) = some (r1,r2,r3,r4):=by rw [if_neg (show ¬ (false = true) by decide)] at H;exact H
   clear H;have H:=H1;clear H1;have H':=A_ H;clear H;have Z:=Aj.1;have Z:=An.1;have Z:=Ak.1;have Z:=Ao.1;have Z:=Au.1;have Z:=Bg.1;obtain ⟨Z,Z,Z,Z⟩:=o2_ Ad.1;go_wp2_with (first|((with_reducible refine gate_callee (f:=63) rfl ?_);refine goesL_ (some 13) rfl rfl Tryd.func63 (by kernel_rfl) rfl #[.agg #[.int .i64 Ab,.slice Ao13 Af.length co13]] rfl au_ ?_;(with_reducible refine (Aan.calls k Ab _ _ Af false _ ?side1 ?side2 A14.1).mono ?_);(case side1=>refine (Kd.R_reads' (e:=3) (base:=w.heap.size) (ok:=fun k_=>True) (n:=Af.length) (c:=co13) ?_).2.2;exact (rq_ (rf_ Ax Ad (.int .i64 Ab) (.slice Ao13 Af.length co13))));(case side2=>exact (Kd.R_reads' Ax.1).2.1);rintro e w35 ⟨rfl,hb⟩;refine ⟨_,rfl,?_⟩;replace Ax:=A_ (Kd.R_below (rq_ (rf_ Ax Ad (.int .i64 Ab) (.slice Ao13 Af.length co13))) hb);replace Ac:=A_ (blk_below (g:=Ah) (o:=.cells #[.int .i64 0,.slice none 0 0] 26 (0,0)) (by (with_reducible repeat (first|refine blk_drewN ?_ _|refine blk_drew ?_|refine blk_alloc ?_ _));refine blk_far ?_ An.1 _;(with_reducible repeat (first|refine blk_drewN ?_ _|refine blk_drew ?_|refine blk_alloc ?_ _));refine blk_far ?_ An.1 _;(with_reducible repeat (first|refine blk_drewN ?_ _|refine blk_drew ?_|refine blk_alloc ?_ _));exact Ac.1) hb);replace Ae:=A_ (blk_below (g:=Ai) (o:=.cells #[.int .i64 0,.slice none 0 0] 26 (0,0)) (by (with_reducible repeat (first|refine blk_drewN ?_ _|refine blk_drew ?_|refine blk_alloc ?_ _));refine blk_far ?_ Ao.1 _;(with_reducible repeat (first|refine blk_drewN ?_ _|refine blk_drew ?_|refine blk_alloc ?_ _));refine blk_far ?_ Ao.1 _;(with_reducible repeat (first|refine blk_drewN ?_ _|refine blk_drew ?_|refine blk_alloc ?_ _));exact Ae.1) hb);replace Ad:=A_ (blk_below (g:=Aq) (o:=.cells #[.int .i64 Ab,.slice Ao13 Af.length co13] 26 (0,0)) (by (with_reducible repeat (first|refine blk_drewN ?_ _|refine blk_drew ?_|refine blk_alloc ?_ _));refine blk_put (cs:=#[.int .i64 Ab,.slice none 0 0]) ?_ 1 _ rfl;(with_reducible repeat (first|refine blk_drewN ?_ _|refine blk_drew ?_|refine blk_alloc ?_ _));refine blk_put (cs:=#[.int .i64 0,.slice none 0 0]) ?_ 0 _ rfl;(with_reducible repeat (first|refine blk_drewN ?_ _|refine blk_drew ?_|refine blk_alloc ?_ _));exact Ad.1) hb);replace HB:=A_ (below_step (by repeat (with_reducible first|exact HB.1|apply below_alloc|apply pw_below_drewN|apply below_drew1|refine below_set ?_ (Aaa.ge Aa.1)|refine below_set ?_ (Aside0.out (by assumption)))) hb);replace Aa:=A_ (Aaa.below (show Aaa w ((w8.setCell ⟨Aq,0,none⟩ (.int .i64 Ab)).setCell ⟨Aq,1,none⟩ (.slice Ao13 Af.length co13)) Ap l0 Ba Bb from by repeat (first|(with_reducible first|exact Aa.1|apply Aaa.alloc|apply Aaa.drewN|apply Aaa.drew|apply Aaa.set_1|apply Aaa.set_2|refine Aaa.far ?_ (Aside0.out (by assumption)) _)|exact Aa.1)) hb);(try clear hb);(try clear hb2);(try clear hk);(try clear hi)))
   go_meet
   case rel=>exact ⟨_,(false),(Ba),(Bb),(by first|rfl|(simp;done)|(simp [*];done)),H',⟨by first|omega|exact Nat.le_refl _⟩,⟨rl_ Ax⟩,⟨bl_ Ac⟩,⟨bl_ Ae⟩,⟨bl_ Ad⟩,⟨by repeat (first|(with_reducible first|exact Aa.1|apply Aaa.alloc|apply Aaa.drewN|apply Aaa.drew|apply Aaa.set_1|apply Aaa.set_2|refine Aaa.far ?_ (Aside0.out (by assumption)) _)|exact Aa.1)⟩,⟨by repeat (first|(with_reducible first|exact HB.1|apply below_alloc|apply pw_below_drewN|apply below_drew1|refine below_set ?_ (Aaa.ge Aa.1)|refine below_set ?_ (Aside0.out (by assumption)))|exact HB.1)⟩⟩
 case rest =>
  clear HC3;try clear c1
  try clear c2
  try clear p2
  try clear c3
  try clear c6
  try clear c9
  try clear c10
  try clear c11
  try clear c15
  try clear c16
  try clear c16b0
  try clear c18
  try clear c19
  try clear c20
  try clear c22
  try clear c25
  try clear c26
  try clear c27
  try clear c31
  try clear c32
  try clear c33
  repeat clear Z
  obtain ⟨kq,x22_2,Av,Aw,rfl,HA,HJ2,Ag,Ac,Ae,Ad,Aa,HB⟩:=hcut;cases kq with
  | zero => exact absurd HA.1 (by simp [Aah.j0])
  | succ kj2 =>
   have H:=HA.1;clear HA;simp only [Aah.j0] at H
   by_cases c36 : x22_2 = true
   ·subst c36;have H1 : ((Aaq.f kj2 l0 Av Aw Ab).bind fun Bi=>((Abf.f kj2 Ab Bi.1).bind fun Bn=>(if Bn = true then ((Aaf.f l0 Bi.2.1 Bi.2.2 5).bind fun Bj=>((Abb.f Bj.1 Ab).bind fun As=>(if 0 ≤ As then (if As ≤ (Bi.1.length : Int) then ((Aar.f kj2 Ab Af (Bi.1.take (As : Int).toNat)).bind fun Ay=>(some (Ab,Af,Ay.1,Ay.2))) else (none)) else (none)))) else ((Aam.f kj2 l0 Bi.2.1 Bi.2.2 5).bind fun Bh=>(some (Ab,Af,Bh.1,Bh.2.1)))))) = some (r1,r2,r3,r4):=by rw [if_pos rfl] at H;exact H
    clear H;have H:=H1;clear H1;replace H:=Option.bind_eq_some_iff.mp H;obtain ⟨⟨At,Be,Bf⟩,Ce,H⟩:=H;replace H : ((Abf.f kj2 Ab At).bind fun Bn=>(if Bn = true then ((Aaf.f l0 Be Bf 5).bind fun Bj=>((Abb.f Bj.1 Ab).bind fun As=>(if 0 ≤ As then (if As ≤ (At.length : Int) then ((Aar.f kj2 Ab Af (At.take (As : Int).toNat)).bind fun Ay=>(some (Ab,Af,Ay.1,Ay.2))) else (none)) else (none)))) else ((Aam.f kj2 l0 Be Bf 5).bind fun Bh=>(some (Ab,Af,Bh.1,Bh.2.1))))) = some (r1,r2,r3,r4):=H;have A37:=A_ Ce;clear Ce;replace H:=Option.bind_eq_some_iff.mp H;obtain ⟨Bn,Cf,H⟩:=H;replace H : (if Bn = true then ((Aaf.f l0 Be Bf 5).bind fun Bj=>((Abb.f Bj.1 Ab).bind fun As=>(if 0 ≤ As then (if As ≤ (At.length : Int) then ((Aar.f kj2 Ab Af (At.take (As : Int).toNat)).bind fun Ay=>(some (Ab,Af,Ay.1,Ay.2))) else (none)) else (none)))) else ((Aam.f kj2 l0 Be Bf 5).bind fun Bh=>(some (Ab,Af,Bh.1,Bh.2.1)))) = some (r1,r2,r3,r4):=H;have A38:=A_ Cf;clear Cf;by_cases c39 : Bn = true
    ·subst c39;have H1 : ((Aaf.f l0 Be Bf 5).bind fun Bj=>((Abb.f Bj.1 Ab).bind fun As=>(if 0 ≤ As then (if As ≤ (At.length : Int) then ((Aar.f kj2 Ab Af (At.take (As : Int).toNat)).bind fun Ay=>(some (Ab,Af,Ay.1,Ay.2))) else (none)) else (none)))) = some (r1,r2,r3,r4):=by rw [if_pos rfl] at H;exact H
     clear H;have H:=H1;clear H1;replace H:=Option.bind_eq_some_iff.mp H;obtain ⟨⟨Bv,Co,Cp⟩,Cg,H⟩:=H;replace H : ((Abb.f Bv Ab).bind fun As=>(if 0 ≤ As then (if As ≤ (At.length : Int) then ((Aar.f kj2 Ab Af (At.take (As : Int).toNat)).bind fun Ay=>(some (Ab,Af,Ay.1,Ay.2))) else (none)) else (none))) = some (r1,r2,r3,r4):=H;have A40:=A_ Cg;clear Cg;replace H:=Option.bind_eq_some_iff.mp H;obtain ⟨As,Ch,H⟩:=H;replace H : (if 0 ≤ As then (if As ≤ (At.length : Int) then ((Aar.f kj2 Ab Af (At.take (As : Int).toNat)).bind fun Ay=>(some (Ab,Af,Ay.1,Ay.2))) else (none)) else (none)) = some (r1,r2,r3,r4):=H;have A41:=A_ Ch;clear Ch;by_cases c42 : 0 ≤ As
     ·rw [if_pos c42] at H;have c42b0:=eq_true c42;have c42b1 : decide (0 ≤ As) = true:=decide_eq_true c42;clear c42;by_cases c43 : As ≤ (At.length : Int)
      ·rw [if_pos c43] at H;have c43b0:=eq_true c43;have c43b1 : decide (As ≤ (At.length : Int)) = true:=decide_eq_true c43;clear c43;obtain ⟨Br,Bk⟩ : ∃ y_ : List Int,y_ = (At.take (As : Int).toNat):=⟨_,rfl⟩;replace H : ((Aar.f kj2 Ab Af Br).bind fun Ay=>(some (Ab,Af,Ay.1,Ay.2))) = some (r1,r2,r3,r4):=by first|(rw [Bk];with_reducible exact H)|(have H2_:=(Option.bind_some _ _).symm.trans H;rw [Bk];with_reducible exact H2_)|(have H2_:=(Option.bind_some _ _).symm.trans H;with_reducible exact H2_)|with_reducible exact H|(rw [Bk];exact H)|exact H
       have B0:=A_ Bk;clear Bk;replace H:=Option.bind_eq_some_iff.mp H;obtain ⟨⟨Bo,Bs⟩,Ci,H⟩:=H;replace H : (some (Ab,Af,Bo,Bs)) = some (r1,r2,r3,r4):=H;have A44:=A_ Ci;clear Ci;simp only [Option.some.injEq,Prod.mk.injEq] at H
       obtain ⟨rfl,rfl,rfl,rfl⟩:=H;have Z:=Aj.1;have Z:=An.1;have Z:=Ak.1;have Z:=Ao.1;have Z:=Au.1;have Z:=Bg.1;obtain ⟨Z,Z,Z,Z⟩:=o2_ Ad.1;try go_wp2_with (first|((with_reducible refine gate_callee (f:=77) rfl ?_);refine goesL_ (some 26) rfl rfl Tryd.func77 (by kernel_rfl) rfl #[.pointer (some ⟨Ap,0,none⟩),.int .i64 Ab] rfl au_ ?_;(with_reducible refine (Aaq.calls kj2 Ap l0 Av Aw Ab At Be Bf w _ ?side1 ?side2 A37.1).mono ?_);(case side1=>repeat (first|(with_reducible first|exact Aa.1|apply Aaa.alloc|apply Aaa.drewN|apply Aaa.drew|apply Aaa.set_1|apply Aaa.set_2|refine Aaa.far ?_ (Aside0.out (by assumption)) _)|exact Aa.1));(case side2=>repeat (first|(with_reducible first|exact HB.1|apply below_alloc|apply pw_below_drewN|apply below_drew1|refine below_set ?_ (Aaa.ge Aa.1)|refine below_set ?_ (Aside0.out (by assumption)))|exact HB.1));rintro e w49 ⟨Cq,rfl,ho0,hi,hb,hk⟩;refine ⟨_,rfl,?_⟩;replace Ac:=A_ (KeepBut.blk hk (g':=Ah) (o:=.cells #[.int .i64 0,.slice none 0 0] 26 (0,0)) (bl_ Ac) Bc.1 (by simp));replace Ae:=A_ (KeepBut.blk hk (g':=Ai) (o:=.cells #[.int .i64 0,.slice none 0 0] 26 (0,0)) (bl_ Ae) Bd.1 (by simp));replace Ad:=A_ (KeepBut.blk hk (g':=Aq) (o:=.cells #[.int .i64 Ab,.slice Ao13 Af.length co13] 26 (0,0)) (bl_ Ad) Au.1 (by simp));have Ar:=A_ (Kd.R_lower (Kd.R_new' ho0 (Kd.R_lt (rl_ Ag))) (below_size (by repeat (with_reducible first|exact HB.1|apply below_alloc|apply pw_below_drewN|apply below_drew1|refine below_set ?_ (Aaa.ge Aa.1)|refine below_set ?_ (Aside0.out (by assumption))))));replace Ag:=A_ (Kd.R_mono (Kd.R_told (Kd.R_oldK (Aaa.apart (show Aaa w _ Ap l0 Av Aw from by repeat (first|(with_reducible first|exact Aa.1|apply Aaa.alloc|apply Aaa.drewN|apply Aaa.drew|apply Aaa.set_1|apply Aaa.set_2|refine Aaa.far ?_ (Aside0.out (by assumption)) _)|exact Aa.1)) (rl_ Ag) (by decide)) hk) (Kd.R_base ho0)) (fun _ h_=>h_.1));replace HB:=A_ (hb);replace Aa:=A_ (hi);(try clear hb);(try clear hb2);(try clear hk);(try clear hi);(try clear ho0);obtain ⟨Z,Z,Z,Z⟩:=o2_ Ad.1;obtain ⟨Ao51,co51,eo51⟩:=Kd.R_slice Ar.1;subst eo51)|((with_reducible refine gate_callee (f:=78) rfl ?_);refine goesL_ (some 30) rfl rfl Tryd.func78 (by kernel_rfl) rfl #[.int .i64 Ab,.slice Ao51 At.length co51] rfl au_ ?_;(with_reducible refine (Abf.calls kj2 Ab _ _ At true _ ?side1 ?side2 A38.1).mono ?_);(case side1=>exact cl_ (Kd.R_reads' Ar.1).2.2);(case side2=>exact (Kd.R_reads' Ar.1).2.1);rintro e w' ⟨rfl,⟨nd,rfl⟩⟩;refine ⟨_,rfl,?_⟩;(try (rw [drewN_self w49];generalize hq_ : World.drewN w49 _ = w49;have n0_ : Aside0 (Kd.R (Kd.int .i64) 3 w49 w.heap.size (fun k_=>some k_ ≠ (.slice Ao13 Af.length co13 : Value).ownBlock) (.slice Ao51 At.length co51) At):=⟨by rw [← hq_];exact (rq_ (Kd.R_mono Ar.1 (fun _ hk=>hk.2)))⟩;have n1_ : Aside0 (Kd.R (Kd.int .i64) 3 w49 w.heap.size (fun k_=>some k_ ≠ (.slice Ao51 At.length co51 : Value).ownBlock) (.slice Ao13 Af.length co13) Af):=⟨by rw [← hq_];exact (rq_ (Kd.R_mono Ag.1 (fun _ hk=>hk.2)))⟩;have n2_ : Aside0 (w49.heap[Ah]? = some (.cells #[.int .i64 0,.slice none 0 0] 26 (0,0))):=⟨by rw [← hq_];exact (bl_ Ac)⟩;have n3_ : Aside0 (w49.heap[Ai]? = some (.cells #[.int .i64 0,.slice none 0 0] 26 (0,0))):=⟨by rw [← hq_];exact (bl_ Ae)⟩;have n4_ : Aside0 (w49.heap[Aq]? = some (.cells #[.int .i64 Ab,.slice Ao13 Af.length co13] 26 (0,0))):=⟨by rw [← hq_];exact (bl_ Ad)⟩;have n5_ : Aside0 (Aaa w w49 Ap l0 Be Bf):=⟨by rw [← hq_];exact (by repeat (first|(with_reducible first|exact Aa.1|apply Aaa.alloc|apply Aaa.drewN|apply Aaa.drew|apply Aaa.set_1|apply Aaa.set_2|refine Aaa.far ?_ (Aside0.out (by assumption)) _)|exact Aa.1))⟩;have n6_ : Aside0 (Below w.heap.size w w49):=⟨by rw [← hq_];exact (by repeat (with_reducible first|exact HB.1|apply below_alloc|apply pw_below_drewN|apply below_drew1|refine below_set ?_ (Aaa.ge Aa.1)|refine below_set ?_ (Aside0.out (by assumption))))⟩;clear Ar Ag Ac Ae Ad Aa HB hq_;have Ar:=n0_;have Ag:=n1_;have Ac:=n2_;have Ae:=n3_;have Ad:=n4_;have Aa:=n5_;have HB:=n6_;clear n0_ n1_ n2_ n3_ n4_ n5_ n6_;have Z : w49.cell? ⟨Ah,0,none⟩ = some (.int .i64 0):=blk_cell Ac.1 0;have Z:=blk_frozen Ac.1 0;have Z : w49.cell? ⟨Ah,1,none⟩ = some (.slice none 0 0):=blk_cell Ac.1 1;have Z:=blk_frozen Ac.1 1;have Z : w49.cell? ⟨Ai,0,none⟩ = some (.int .i64 0):=blk_cell Ae.1 0;have Z:=blk_frozen Ae.1 0;have Z : w49.cell? ⟨Ai,1,none⟩ = some (.slice none 0 0):=blk_cell Ae.1 1;have Z:=blk_frozen Ae.1 1;have Z : w49.cell? ⟨Aq,0,none⟩ = some (.int .i64 Ab):=blk_cell Ad.1 0;have Z:=blk_frozen Ad.1 0;have Z : w49.cell? ⟨Aq,1,none⟩ = some (.slice Ao13 Af.length co13):=blk_cell Ad.1 1;have Z:=blk_frozen Ad.1 1))))
       replace Ag:=A_ (Kd.R_drew Ag.1);replace Ar:=A_ (Kd.R_drew Ar.1);replace Ac:=A_ (blk_drew Ac.1);replace Ae:=A_ (blk_drew Ae.1);replace Ad:=A_ (blk_drew Ad.1);replace Aa:=A_ (Aaa.drew Aa.1);replace HB:=A_ (below_drew1 HB.1);refine start_ (n:=12) (S:=fun w'=>w'.cell? ⟨Aq,0,none⟩ = some (.int .i64 Ab) ∧ w'.cell? ⟨Aq,1,none⟩ = some (.slice Ao13 Af.length co13)) (ds:=[]) #[F,F,F,F,F,F,F,F,F,F,F,F] (by kernel_rfl) rfl rfl ⟨blk_cell Ad.1 0,blk_cell Ad.1 1⟩ (fun hHeld=>?_);refine with_tabW Aah.tab6 Aah.bits6 (fun HT_ HW_=>?_)
       generalize w49.drew = w52 at Ag Ar Ac Ae Ad Aa HB hHeld ⊢
       refine pu_ (i:=2) (N:=33) #[F,F,T,F,F,F,F,F,F,F,F,F] HT_.1 rfl rfl (fun _ _ _ h=>h) rfl (h:=?_)
       refine pu_ (i:=3) (N:=34) #[F,F,T,T,F,F,F,F,F,F,F,F] HT_.1 rfl rfl (fun _ _ _ h=>h) rfl (h:=?_)
       refine pu_ (i:=5) (N:=36) #[F,F,T,T,F,T,F,F,F,F,F,F] HT_.1 rfl rfl (fun _ _ _ h=>h) rfl (h:=?_)
       refine take_ (i:=0) (N:=some 31) (v:=?_) (a':=?_) #[T,F,T,T,F,T,F,F,F,F,F,F] rfl rfl (take_ofW HT_.1 HW_.1 (by kernel_rfl)) (fun _ _ _ h=>h) (Or.inl ⟨by rfl,?_⟩) hHeld ?_ ?_
       rotate_left
       ·rintro w' ⟨s0,s1⟩
        go_simp
        with_reducible rfl
       rotate_left;·simp only [Act.put,L_,M_,N_,i64_w,i32_w];rfl
       refine take_ (i:=1) (N:=some 32) (v:=?_) (a':=?_) #[T,T,T,T,F,T,F,F,F,F,F,F] rfl rfl (take_ofW HT_.1 HW_.1 (by kernel_rfl)) (fun _ _ _ h=>h) (Or.inl ⟨by rfl,?_⟩) hHeld ?_ ?_
       rotate_left
       ·rintro w' ⟨s0,s1⟩
        go_simp
        with_reducible rfl
       rotate_left;·simp only [Act.put,L_,M_,N_,i64_w,i32_w];rfl
       refine take_ (i:=6) (N:=some 37) (v:=?_) (a':=?_) #[T,T,T,T,F,T,T,F,F,F,F,F] rfl rfl (take_ofW HT_.1 HW_.1 (by kernel_rfl)) (fun _ _ _ h=>h) (Or.inl ⟨by rfl,?_⟩) hHeld ?_ ?_
       rotate_left
       ·rintro w' ⟨s0,s1⟩
        go_simp
        with_reducible rfl
       rotate_left;·simp only [Act.put,L_,M_,N_,i64_w,i32_w];rfl
       refine one_ (i:=4) (N:=some 35) #[T,T,T,T,T,T,T,F,F,F,F,F] rfl rfl (one_of HT_.1 (by kernel_rfl)) (by decide) (fun K hK=>?_)
       refine goes_ Tryd.func81 (by kernel_rfl) rfl #[.pointer (some ⟨Ap,0,none⟩),.int .i64 5] (by rfl) rfl rfl au_ ?_
       with_reducible refine (Aaf.calls Ap l0 Be Bf 5 Bv Co Cp w _ ?side1 ?side2 A40.1).mono ?_
       (case side1=>repeat (first|(with_reducible first|exact Aa.1|apply Aaa.alloc|apply Aaa.drewN|apply Aaa.drew|apply Aaa.set_1|apply Aaa.set_2|refine Aaa.far ?_ (Aside0.out (by assumption)) _)|exact Aa.1))
       (case side2=>repeat (first|(with_reducible first|exact HB.1|apply below_alloc|apply pw_below_drewN|apply below_drew1|refine below_set ?_ (Aaa.ge Aa.1)|refine below_set ?_ (Aside0.out (by assumption)))|exact HB.1))
       rintro e w53 ⟨rfl,hi,hb,hk⟩
       refine ⟨_,rfl,?_⟩
       replace Ag:=A_ (Kd.R_mono (Kd.R_keep (Aaa.apart (show Aaa w _ Ap l0 Be Bf from by repeat (first|(with_reducible first|exact Aa.1|apply Aaa.alloc|apply Aaa.drewN|apply Aaa.drew|apply Aaa.set_1|apply Aaa.set_2|refine Aaa.far ?_ (Aside0.out (by assumption)) _)|exact Aa.1)) (rl_ Ag) (by decide)) hk (fun _ h=>h.2)) (fun _ h=>h.1));replace Ac:=A_ (KeepBut.blk hk (g':=Ah) (o:=.cells #[.int .i64 0,.slice none 0 0] 26 (0,0)) (bl_ Ac) Bc.1 (by simp));replace Ae:=A_ (KeepBut.blk hk (g':=Ai) (o:=.cells #[.int .i64 0,.slice none 0 0] 26 (0,0)) (bl_ Ae) Bd.1 (by simp));replace Ad:=A_ (KeepBut.blk hk (g':=Aq) (o:=.cells #[.int .i64 Ab,.slice Ao13 Af.length co13] 26 (0,0)) (bl_ Ad) Au.1 (by simp));replace Ar:=A_ (Kd.R_mono (Kd.R_keep (Aaa.apart (show Aaa w _ Ap l0 Be Bf from by repeat (first|(with_reducible first|exact Aa.1|apply Aaa.alloc|apply Aaa.drewN|apply Aaa.drew|apply Aaa.set_1|apply Aaa.set_2|refine Aaa.far ?_ (Aside0.out (by assumption)) _)|exact Aa.1)) (rl_ Ar) (by decide)) hk (fun _ h=>h.2)) (fun _ h=>h.1));replace HB:=A_ (hb);replace Aa:=A_ (hi);(try clear hb);(try clear hb2);(try clear hk);(try clear hi);refine hK.out _ _ ⟨blk_cell Ad.1 0,blk_cell Ad.1 1⟩ (fun hHeld=>?_)
       clear hK K;refine norm_ (a':=?_) ?_ ?_
       rotate_left
       ·show Act.put _ (some 35) _ = _
        simp only [Act.put,L_,M_,N_,i64_w,i32_w]
        rfl
       refine one_ (i:=7) (N:=some 38) #[T,T,T,T,T,T,T,T,F,F,F,F] rfl rfl (one_of HT_.1 (by kernel_rfl)) (by decide) (fun K hK=>?_)
       refine goes_ Tryd.func80 (by kernel_rfl) rfl #[.int .i64 Bv,.int .i64 Ab] (by rfl) rfl rfl au_ ?_
       with_reducible refine (Abb.calls Bv Ab As _ A41.1).mono ?_
       rintro e w' ⟨rfl,⟨nd,rfl⟩⟩
       refine ⟨_,rfl,?_⟩
       have q54 : (As : Int) ≤ ((At.length : Int) : Int):=of_decide_eq_true (by first|(with_reducible assumption)|assumption);obtain ⟨C4,B1,_,hsz54,_⟩:=info_parts info3;have hroom54 : At.length ≤ co51:=(Kd.R_reads' Ar.1).2.1;have hC54 : Kd.C (Kd.int .i64) _ Ao51 At.length At:=(Kd.R_reads' Ar.1).2.2;have hcut54:=cut_to (P:=Tryd.prog) 24 3 .i64 Tryd.underlying24 B1 Ao51 At.length co51 As (of_decide_eq_true (by first|(with_reducible assumption)|assumption)) q54 hroom54;have hr54:=Kd.C_take (m:=(As : Int).toNat) hC54 (by omega);have hy54 : Br.length = (As : Int).toNat:=(by rw [B0.1,U_];omega);rw [← B0.1] at hr54;rw [← hy54] at hcut54;have Bl:=A_ hr54;have Cl:=A_ (show Br.length ≤ co51 from by omega);clear hr54 hC54 hroom54 B1 hsz54;have KY54:=A_ hy54;clear hy54;have KL54:=A_ (show (As : Int).toNat ≤ At.length from by omega);replace q54:=eq_true q54;refine hK.out _ _ ⟨blk_cell Ad.1 0,blk_cell Ad.1 1⟩ (fun hHeld=>?_)
       clear hK K;refine norm_ (a':=?_) ?_ ?_
       rotate_left
       ·show Act.put _ (some 38) _ = _
        simp only [Act.put,L_,M_,N_,i64_w,i32_w]
        rfl
       refine pu_ (i:=8) (N:=39) #[T,T,T,T,T,T,T,T,T,F,F,F] HT_.1 rfl rfl (fun _ _ _ h=>h) rfl (h:=?_)
       refine one_ (i:=9) (N:=some 40) #[T,T,T,T,T,T,T,T,T,T,F,F] rfl rfl (one_of HT_.1 (by kernel_rfl)) (by decide) (fun K hK=>?_)
       refine goes_ Tryd.func79 (by kernel_rfl) rfl #[.agg #[.int .i64 Ab,.slice Ao13 Af.length co13],.slice Ao51 Br.length co51] (by rfl) rfl rfl au_ ?_
       with_reducible refine (Aar.calls kj2 Ab _ _ Af _ _ Br Bo Bs _ ?side1 ?side2 ?side3 ?side4 A44.1).mono ?_
       (case side1=>exact cl_ (Kd.R_reads' Ag.1).2.2)
       (case side2=>exact (Kd.R_reads' Ag.1).2.1)
       (case side3=>repeat (first|exact (by repeat (first|(with_reducible exact Bl.1)|(with_reducible refine Kd.C_alloc ?_ _)|(with_reducible refine Kd.C_drewN ?_ _)|(with_reducible refine Kd.C_drew ?_)|exact Bl.1))|(with_reducible refine Kd.C_alloc ?_ _)|(with_reducible refine Kd.C_drewN ?_ _)|(with_reducible refine Kd.C_drew ?_)))
       (case side4=>exact Cl.1)
       rintro e w55 ⟨C5,rfl,ho0,hb⟩
       refine ⟨_,rfl,?_⟩
       have B2:=A_ (Kd.R_lower (Kd.R_new' (Kd.R_new' ho0 (Kd.R_lt (rl_ Ag))) (Kd.R_lt (rl_ Ar))) (below_size (by repeat (with_reducible first|exact HB.1|apply below_alloc|apply pw_below_drewN|apply below_drew1|refine below_set ?_ (Aaa.ge Aa.1)|refine below_set ?_ (Aside0.out (by assumption))))));replace Ag:=A_ (Kd.R_elder' (rl_ Ag) (Kd.R_base ho0) hb);replace Ar:=A_ (Kd.R_elder' (rl_ Ar) (Kd.R_base ho0) hb);replace Ac:=bz Ac hb;replace Ae:=bz Ae hb;replace Ad:=bz Ad hb;replace Bl:=A_ (Kd.C_below (by repeat (first|(with_reducible exact Bl.1)|(with_reducible refine Kd.C_alloc ?_ _)|(with_reducible refine Kd.C_drewN ?_ _)|(with_reducible refine Kd.C_drew ?_)|exact Bl.1)) hb);replace HB:=A_ (below_step (by repeat (with_reducible first|exact HB.1|apply below_alloc|apply pw_below_drewN|apply below_drew1|refine below_set ?_ (Aaa.ge Aa.1)|refine below_set ?_ (Aside0.out (by assumption)))) hb);replace Aa:=A_ (Aaa.below (by repeat (first|(with_reducible first|exact Aa.1|apply Aaa.alloc|apply Aaa.drewN|apply Aaa.drew|apply Aaa.set_1|apply Aaa.set_2|refine Aaa.far ?_ (Aside0.out (by assumption)) _)|exact Aa.1)) hb);(try clear hb);(try clear hb2);(try clear hk);(try clear hi);(try clear ho0);obtain ⟨Ao59,co59,eo59⟩:=Kd.R_slice B2.1;(first|subst eo59|(injection eo59 with f1_ f2_ f3_;have f4_:=f1_.symm;have f5_:=f3_.symm;clear f1_ f2_ f3_;subst f4_;subst f5_))
       refine hK.out _ _ ⟨blk_cell Ad.1 0,blk_cell Ad.1 1⟩ (fun hHeld=>?_)
       clear hK K;refine norm_ (a':=?_) ?_ ?_
       rotate_left
       ·show Act.put _ (some 40) _ = _
        simp only [Act.put,L_,M_,N_,i64_w,i32_w]
        rfl
       refine one_ (i:=10) (N:=none) #[T,T,T,T,T,T,T,T,T,T,T,F] rfl rfl (one_of HT_.1 (by kernel_rfl)) (by decide) (fun K hK=>?_)
       have Z : w55.cell? ⟨Ah,0,none⟩ = some (.int .i64 0):=blk_cell Ac.1 0;have Z:=blk_frozen Ac.1 0;have Z:=Am.1;have Z:=Aj.1;have Z:=Al.1;have Z:=An.1;have Z : w55.cell? ⟨Ah,1,none⟩ = some (.slice none 0 0):=blk_cell Ac.1 1;have Z:=blk_frozen Ac.1 1;have Z:=Am.1;have Z:=Aj.1;have Z:=Al.1;have Z:=An.1;refine skip_ (w1:=?_) (by rfl) rfl ?_ ?_
       rotate_left
       ·go_simp
        rfl
       refine hK.out _ _ ⟨((cell_far (p:=⟨Ah,_,none⟩) Aj.1 _).trans (((cell_far (p:=⟨Ah,_,none⟩) Aj.1 _).trans (hHeld.1)))),((cell_far (p:=⟨Ah,_,none⟩) Aj.1 _).trans (((cell_far (p:=⟨Ah,_,none⟩) Aj.1 _).trans (hHeld.2))))⟩ (fun hHeld=>?_)
       clear hK K;refine one_ (i:=11) (N:=none) #[T,T,T,T,T,T,T,T,T,T,T,T] rfl rfl (one_of HT_.1 (by kernel_rfl)) (by decide) (fun K hK=>?_)
       have Z : w55.cell? ⟨Ai,0,none⟩ = some (.int .i64 0):=blk_cell Ae.1 0;have Z:=blk_frozen Ae.1 0;have Z:=Al.1;have Z:=Ak.1;have Z:=Am.1;have Z:=Ao.1;have Z : w55.cell? ⟨Ai,1,none⟩ = some (.slice none 0 0):=blk_cell Ae.1 1;have Z:=blk_frozen Ae.1 1;have Z:=Al.1;have Z:=Ak.1;have Z:=Am.1;have Z:=Ao.1;refine skip_ (w1:=?_) (by rfl) rfl ?_ ?_
       rotate_left
       ·go_simp
        rfl
       refine hK.out _ _ ⟨((cell_far (p:=⟨Ai,_,none⟩) Ak.1 _).trans (((cell_far (p:=⟨Ai,_,none⟩) Ak.1 _).trans (hHeld.1)))),((cell_far (p:=⟨Ai,_,none⟩) Ak.1 _).trans (((cell_far (p:=⟨Ai,_,none⟩) Ak.1 _).trans (hHeld.2))))⟩ (fun hHeld=>?_)
       clear hK K;refine done_ (done_of HT_.1 (by kernel_rfl)) ?_
       try go_wp2
       refine bodyPost_ret (results_cc rfl _ _ Ah Ai 26 26 #[.int .i64 Ab,.slice Ao13 Af.length co13] #[.int .i64 Bo,.slice Ao59 Bs.length co59] (0,0) (0,0) _ _ rfl (by (with_reducible repeat (first|refine blk_drewN ?_ _|refine blk_drew ?_|refine blk_alloc ?_ _));refine blk_far ?_ Al.1 _;(with_reducible repeat (first|refine blk_drewN ?_ _|refine blk_drew ?_|refine blk_alloc ?_ _));refine blk_far ?_ Al.1 _;(with_reducible repeat (first|refine blk_drewN ?_ _|refine blk_drew ?_|refine blk_alloc ?_ _));refine blk_put (cs:=#[.int .i64 Ab,.slice none 0 0]) ?_ 1 _ rfl;(with_reducible repeat (first|refine blk_drewN ?_ _|refine blk_drew ?_|refine blk_alloc ?_ _));refine blk_put (cs:=#[.int .i64 0,.slice none 0 0]) ?_ 0 _ rfl;(with_reducible repeat (first|refine blk_drewN ?_ _|refine blk_drew ?_|refine blk_alloc ?_ _));exact Ac.1) Tryd.underlying26 rfl (by kernel_rfl) rfl (by (with_reducible repeat (first|refine blk_drewN ?_ _|refine blk_drew ?_|refine blk_alloc ?_ _));refine blk_put (cs:=#[.int .i64 Bo,.slice none 0 0]) ?_ 1 _ rfl;(with_reducible repeat (first|refine blk_drewN ?_ _|refine blk_drew ?_|refine blk_alloc ?_ _));refine blk_put (cs:=#[.int .i64 0,.slice none 0 0]) ?_ 0 _ rfl;(with_reducible repeat (first|refine blk_drewN ?_ _|refine blk_drew ?_|refine blk_alloc ?_ _));refine blk_far ?_ Am.1 _;(with_reducible repeat (first|refine blk_drewN ?_ _|refine blk_drew ?_|refine blk_alloc ?_ _));refine blk_far ?_ Am.1 _;(with_reducible repeat (first|refine blk_drewN ?_ _|refine blk_drew ?_|refine blk_alloc ?_ _));exact Ae.1) Tryd.underlying26 rfl (by kernel_rfl)) rfl ?_
       exact ⟨_,_,by first|rfl|(simp [errW_none,errW_some] <;> rfl)|(simp [*,errW_none,errW_some] <;> rfl),rq_ (Kd.R_mono (Kd.R_far (p:=⟨Ai,1,none⟩) (Kd.R_far (p:=⟨Ai,0,none⟩) (Kd.R_far (p:=⟨Ah,1,none⟩) (Kd.R_far (p:=⟨Ah,0,none⟩) (Kd.R_types (Kd.R_types Ag.1 Ac.1 (by decide)) Ae.1 (by decide)) (fun _ hk=>hk.1.2) (.int .i64 Ab)) (fun _ hk=>hk.1.2) (.slice Ao13 Af.length co13)) (fun _ hk=>hk.2) (.int .i64 Bo)) (fun _ hk=>hk.2) (.slice Ao59 Bs.length co59)) (fun _ hk=>hk.1.1.2)),rq_ (Kd.R_mono (Kd.R_far (p:=⟨Ai,1,none⟩) (Kd.R_far (p:=⟨Ai,0,none⟩) (Kd.R_far (p:=⟨Ah,1,none⟩) (Kd.R_far (p:=⟨Ah,0,none⟩) (Kd.R_types (Kd.R_types B2.1 Ac.1 (by decide)) Ae.1 (by decide)) (fun _ hk=>hk.1.2) (.int .i64 Ab)) (fun _ hk=>hk.1.2) (.slice Ao13 Af.length co13)) (fun _ hk=>hk.2) (.int .i64 Bo)) (fun _ hk=>hk.2) (.slice Ao59 Bs.length co59)) (fun _ hk=>hk.1.1.1.2)),by repeat (first|(with_reducible first|exact HB.1|apply below_alloc|apply pw_below_drewN|apply below_drew1|refine below_set ?_ (Aaa.ge Aa.1)|refine below_set ?_ (Aside0.out (by assumption)))|exact HB.1)⟩
      ·rw [if_neg c43] at H;exact absurd H (by simp)
     ·rw [if_neg c42] at H;exact absurd H (by simp)
    ·replace c39:=Bool.eq_false_iff.mpr c39;subst c39;have H1 : ((Aam.f kj2 l0 Be Bf 5).bind fun Bh=>(some (Ab,Af,Bh.1,Bh.2.1))) = some (r1,r2,r3,r4):=by rw [if_neg (show ¬ (false = true) by decide)] at H;exact H
     clear H;have H:=H1;clear H1;replace H:=Option.bind_eq_some_iff.mp H;obtain ⟨⟨Bp,Bt,Cr,Cs⟩,Cj,H⟩:=H;replace H : (some (Ab,Af,Bp,Bt)) = some (r1,r2,r3,r4):=H;have A61:=A_ Cj;clear Cj;simp only [Option.some.injEq,Prod.mk.injEq] at H
     obtain ⟨rfl,rfl,rfl,rfl⟩:=H;have Z:=Aj.1;have Z:=An.1;have Z:=Ak.1;have Z:=Ao.1;have Z:=Au.1;have Z:=Bg.1;obtain ⟨Z,Z,Z,Z⟩:=o2_ Ad.1;try go_wp2_with (first|((with_reducible refine gate_callee (f:=77) rfl ?_);refine goesL_ (some 26) rfl rfl Tryd.func77 (by kernel_rfl) rfl #[.pointer (some ⟨Ap,0,none⟩),.int .i64 Ab] rfl au_ ?_;(with_reducible refine (Aaq.calls kj2 Ap l0 Av Aw Ab At Be Bf w _ ?side1 ?side2 A37.1).mono ?_);(case side1=>repeat (first|(with_reducible first|exact Aa.1|apply Aaa.alloc|apply Aaa.drewN|apply Aaa.drew|apply Aaa.set_1|apply Aaa.set_2|refine Aaa.far ?_ (Aside0.out (by assumption)) _)|exact Aa.1));(case side2=>repeat (first|(with_reducible first|exact HB.1|apply below_alloc|apply pw_below_drewN|apply below_drew1|refine below_set ?_ (Aaa.ge Aa.1)|refine below_set ?_ (Aside0.out (by assumption)))|exact HB.1));rintro e w66 ⟨Cq,rfl,ho0,hi,hb,hk⟩;refine ⟨_,rfl,?_⟩;replace Ac:=A_ (KeepBut.blk hk (g':=Ah) (o:=.cells #[.int .i64 0,.slice none 0 0] 26 (0,0)) (bl_ Ac) Bc.1 (by simp));replace Ae:=A_ (KeepBut.blk hk (g':=Ai) (o:=.cells #[.int .i64 0,.slice none 0 0] 26 (0,0)) (bl_ Ae) Bd.1 (by simp));replace Ad:=A_ (KeepBut.blk hk (g':=Aq) (o:=.cells #[.int .i64 Ab,.slice Ao13 Af.length co13] 26 (0,0)) (bl_ Ad) Au.1 (by simp));have Ar:=A_ (Kd.R_lower (Kd.R_new' ho0 (Kd.R_lt (rl_ Ag))) (below_size (by repeat (with_reducible first|exact HB.1|apply below_alloc|apply pw_below_drewN|apply below_drew1|refine below_set ?_ (Aaa.ge Aa.1)|refine below_set ?_ (Aside0.out (by assumption))))));replace Ag:=A_ (Kd.R_mono (Kd.R_told (Kd.R_oldK (Aaa.apart (show Aaa w _ Ap l0 Av Aw from by repeat (first|(with_reducible first|exact Aa.1|apply Aaa.alloc|apply Aaa.drewN|apply Aaa.drew|apply Aaa.set_1|apply Aaa.set_2|refine Aaa.far ?_ (Aside0.out (by assumption)) _)|exact Aa.1)) (rl_ Ag) (by decide)) hk) (Kd.R_base ho0)) (fun _ h_=>h_.1));replace HB:=A_ (hb);replace Aa:=A_ (hi);(try clear hb);(try clear hb2);(try clear hk);(try clear hi);(try clear ho0);obtain ⟨Z,Z,Z,Z⟩:=o2_ Ad.1;obtain ⟨Ao68,co68,eo68⟩:=Kd.R_slice Ar.1;subst eo68)|((with_reducible refine gate_callee (f:=78) rfl ?_);refine goesL_ (some 30) rfl rfl Tryd.func78 (by kernel_rfl) rfl #[.int .i64 Ab,.slice Ao68 At.length co68] rfl au_ ?_;(with_reducible refine (Abf.calls kj2 Ab _ _ At false _ ?side1 ?side2 A38.1).mono ?_);(case side1=>exact cl_ (Kd.R_reads' Ar.1).2.2);(case side2=>exact (Kd.R_reads' Ar.1).2.1);rintro e w' ⟨rfl,⟨nd,rfl⟩⟩;refine ⟨_,rfl,?_⟩;(try (rw [drewN_self w66];generalize hq_ : World.drewN w66 _ = w66;have n0_ : Aside0 (Kd.R (Kd.int .i64) 3 w66 w.heap.size (fun k_=>some k_ ≠ (.slice Ao13 Af.length co13 : Value).ownBlock) (.slice Ao68 At.length co68) At):=⟨by rw [← hq_];exact (rq_ (Kd.R_mono Ar.1 (fun _ hk=>hk.2)))⟩;have n1_ : Aside0 (Kd.R (Kd.int .i64) 3 w66 w.heap.size (fun k_=>some k_ ≠ (.slice Ao68 At.length co68 : Value).ownBlock) (.slice Ao13 Af.length co13) Af):=⟨by rw [← hq_];exact (rq_ (Kd.R_mono Ag.1 (fun _ hk=>hk.2)))⟩;have n2_ : Aside0 (w66.heap[Ah]? = some (.cells #[.int .i64 0,.slice none 0 0] 26 (0,0))):=⟨by rw [← hq_];exact (bl_ Ac)⟩;have n3_ : Aside0 (w66.heap[Ai]? = some (.cells #[.int .i64 0,.slice none 0 0] 26 (0,0))):=⟨by rw [← hq_];exact (bl_ Ae)⟩;have n4_ : Aside0 (w66.heap[Aq]? = some (.cells #[.int .i64 Ab,.slice Ao13 Af.length co13] 26 (0,0))):=⟨by rw [← hq_];exact (bl_ Ad)⟩;have n5_ : Aside0 (Aaa w w66 Ap l0 Be Bf):=⟨by rw [← hq_];exact (by repeat (first|(with_reducible first|exact Aa.1|apply Aaa.alloc|apply Aaa.drewN|apply Aaa.drew|apply Aaa.set_1|apply Aaa.set_2|refine Aaa.far ?_ (Aside0.out (by assumption)) _)|exact Aa.1))⟩;have n6_ : Aside0 (Below w.heap.size w w66):=⟨by rw [← hq_];exact (by repeat (with_reducible first|exact HB.1|apply below_alloc|apply pw_below_drewN|apply below_drew1|refine below_set ?_ (Aaa.ge Aa.1)|refine below_set ?_ (Aside0.out (by assumption))))⟩;clear Ar Ag Ac Ae Ad Aa HB hq_;have Ar:=n0_;have Ag:=n1_;have Ac:=n2_;have Ae:=n3_;have Ad:=n4_;have Aa:=n5_;have HB:=n6_;clear n0_ n1_ n2_ n3_ n4_ n5_ n6_;have Z : w66.cell? ⟨Ah,0,none⟩ = some (.int .i64 0):=blk_cell Ac.1 0;have Z:=blk_frozen Ac.1 0;have Z : w66.cell? ⟨Ah,1,none⟩ = some (.slice none 0 0):=blk_cell Ac.1 1;have Z:=blk_frozen Ac.1 1;have Z : w66.cell? ⟨Ai,0,none⟩ = some (.int .i64 0):=blk_cell Ae.1 0;have Z:=blk_frozen Ae.1 0;have Z : w66.cell? ⟨Ai,1,none⟩ = some (.slice none 0 0):=blk_cell Ae.1 1;have Z:=blk_frozen Ae.1 1;have Z : w66.cell? ⟨Aq,0,none⟩ = some (.int .i64 Ab):=blk_cell Ad.1 0;have Z:=blk_frozen Ad.1 0;have Z : w66.cell? ⟨Aq,1,none⟩ = some (.slice Ao13 Af.length co13):=blk_cell Ad.1 1;have Z:=blk_frozen Ad.1 1))))
     replace Ag:=A_ (Kd.R_drew Ag.1);replace Ar:=A_ (Kd.R_drew Ar.1);replace Ac:=A_ (blk_drew Ac.1);replace Ae:=A_ (blk_drew Ae.1);replace Ad:=A_ (blk_drew Ad.1);replace Aa:=A_ (Aaa.drew Aa.1);replace HB:=A_ (below_drew1 HB.1);refine start_ (n:=5) (S:=fun w'=>w'.cell? ⟨Aq,0,none⟩ = some (.int .i64 Ab) ∧ w'.cell? ⟨Aq,1,none⟩ = some (.slice Ao13 Af.length co13)) (ds:=[]) #[F,F,F,F,F] (by kernel_rfl) rfl rfl ⟨blk_cell Ad.1 0,blk_cell Ad.1 1⟩ (fun hHeld=>?_)
     generalize w66.drew = w69 at Ag Ar Ac Ae Ad Aa HB hHeld ⊢
     refine pure_ (i:=1) (N:=some 42) (v:=?_) (a':=?_) #[F,T,F,F,F] rfl rfl (by kernel_rfl) (fun _ _ _ h=>h) (Or.inl ⟨by rfl,?_⟩) ?_ ?_
     rotate_left;·intro w';go_simp;with_reducible rfl
     rotate_left;·simp only [Act.put,L_,M_,N_,i64_w,i32_w];rfl
     refine take_ (i:=0) (N:=some 41) (v:=?_) (a':=?_) #[T,T,F,F,F] rfl rfl (by kernel_rfl) (fun _ _ _ h=>h) (Or.inl ⟨by rfl,?_⟩) hHeld ?_ ?_
     rotate_left
     ·rintro w' ⟨s0,s1⟩
      go_simp
      with_reducible rfl
     rotate_left;·simp only [Act.put,L_,M_,N_,i64_w,i32_w];rfl
     refine one_ (i:=2) (N:=some 43) #[T,T,T,F,F] rfl rfl (by kernel_rfl) (by decide) (fun K hK=>?_)
     refine goes_ Tryd.func60 (by kernel_rfl) rfl #[.pointer (some ⟨Ap,0,none⟩),.int .i64 5] (by rfl) rfl rfl au_ ?_
     with_reducible refine (Aam.calls kj2 Ap l0 Be Bf 5 Bp Bt Cr Cs w _ ?side1 ?side2 A61.1).mono ?_
     (case side1=>repeat (first|(with_reducible first|exact Aa.1|apply Aaa.alloc|apply Aaa.drewN|apply Aaa.drew|apply Aaa.set_1|apply Aaa.set_2|refine Aaa.far ?_ (Aside0.out (by assumption)) _)|exact Aa.1))
     (case side2=>repeat (first|(with_reducible first|exact HB.1|apply below_alloc|apply pw_below_drewN|apply below_drew1|refine below_set ?_ (Aaa.ge Aa.1)|refine below_set ?_ (Aside0.out (by assumption)))|exact HB.1))
     rintro e w70 ⟨C6,rfl,ho0,hi,hb,hk⟩
     refine ⟨_,rfl,?_⟩
     replace Ac:=A_ (KeepBut.blk hk (g':=Ah) (o:=.cells #[.int .i64 0,.slice none 0 0] 26 (0,0)) (bl_ Ac) Bc.1 (by simp));replace Ae:=A_ (KeepBut.blk hk (g':=Ai) (o:=.cells #[.int .i64 0,.slice none 0 0] 26 (0,0)) (bl_ Ae) Bd.1 (by simp));replace Ad:=A_ (KeepBut.blk hk (g':=Aq) (o:=.cells #[.int .i64 Ab,.slice Ao13 Af.length co13] 26 (0,0)) (bl_ Ad) Au.1 (by simp));have B4:=A_ (Kd.R_lower (Kd.R_new' (Kd.R_new' ho0 (Kd.R_lt (rl_ Ag))) (Kd.R_lt (rl_ Ar))) (below_size (by repeat (with_reducible first|exact HB.1|apply below_alloc|apply pw_below_drewN|apply below_drew1|refine below_set ?_ (Aaa.ge Aa.1)|refine below_set ?_ (Aside0.out (by assumption))))));replace Ag:=A_ (Kd.R_mono (Kd.R_told (Kd.R_oldK (Aaa.apart (show Aaa w _ Ap l0 Be Bf from by repeat (first|(with_reducible first|exact Aa.1|apply Aaa.alloc|apply Aaa.drewN|apply Aaa.drew|apply Aaa.set_1|apply Aaa.set_2|refine Aaa.far ?_ (Aside0.out (by assumption)) _)|exact Aa.1)) (rl_ Ag) (by decide)) hk) (Kd.R_base ho0)) (fun _ h_=>h_.1));replace Ar:=A_ (Kd.R_mono (Kd.R_told (Kd.R_oldK (Aaa.apart (show Aaa w _ Ap l0 Be Bf from by repeat (first|(with_reducible first|exact Aa.1|apply Aaa.alloc|apply Aaa.drewN|apply Aaa.drew|apply Aaa.set_1|apply Aaa.set_2|refine Aaa.far ?_ (Aside0.out (by assumption)) _)|exact Aa.1)) (rl_ Ar) (by decide)) hk) (Kd.R_base ho0)) (fun _ h_=>h_.1));replace HB:=A_ (hb);replace Aa:=A_ (hi);(try clear hb);(try clear hb2);(try clear hk);(try clear hi);(try clear ho0);obtain ⟨Ao74,co74,eo74⟩:=Kd.R_slice B4.1;(first|subst eo74|(injection eo74 with f1_ f2_ f3_;have f4_:=f1_.symm;have f5_:=f3_.symm;clear f1_ f2_ f3_;subst f4_;subst f5_))
     refine hK.out _ _ ⟨blk_cell Ad.1 0,blk_cell Ad.1 1⟩ (fun hHeld=>?_)
     clear hK K;refine norm_ (a':=?_) ?_ ?_
     rotate_left
     ·show Act.put _ (some 43) _ = _
      simp only [Act.put,L_,M_,N_,i64_w,i32_w]
      rfl
     refine one_ (i:=3) (N:=none) #[T,T,T,T,F] rfl rfl (by kernel_rfl) (by decide) (fun K hK=>?_)
     have Z : w70.cell? ⟨Ah,0,none⟩ = some (.int .i64 0):=blk_cell Ac.1 0;have Z:=blk_frozen Ac.1 0;have Z:=Am.1;have Z:=Aj.1;have Z:=Al.1;have Z:=An.1;have Z : w70.cell? ⟨Ah,1,none⟩ = some (.slice none 0 0):=blk_cell Ac.1 1;have Z:=blk_frozen Ac.1 1;have Z:=Am.1;have Z:=Aj.1;have Z:=Al.1;have Z:=An.1;refine skip_ (w1:=?_) (by rfl) rfl ?_ ?_
     rotate_left
     ·go_simp
      rfl
     refine hK.out _ _ ⟨((cell_far (p:=⟨Ah,_,none⟩) Aj.1 _).trans (((cell_far (p:=⟨Ah,_,none⟩) Aj.1 _).trans (hHeld.1)))),((cell_far (p:=⟨Ah,_,none⟩) Aj.1 _).trans (((cell_far (p:=⟨Ah,_,none⟩) Aj.1 _).trans (hHeld.2))))⟩ (fun hHeld=>?_)
     clear hK K;refine one_ (i:=4) (N:=none) #[T,T,T,T,T] rfl rfl (by kernel_rfl) (by decide) (fun K hK=>?_)
     have Z : w70.cell? ⟨Ai,0,none⟩ = some (.int .i64 0):=blk_cell Ae.1 0;have Z:=blk_frozen Ae.1 0;have Z:=Al.1;have Z:=Ak.1;have Z:=Am.1;have Z:=Ao.1;have Z : w70.cell? ⟨Ai,1,none⟩ = some (.slice none 0 0):=blk_cell Ae.1 1;have Z:=blk_frozen Ae.1 1;have Z:=Al.1;have Z:=Ak.1;have Z:=Am.1;have Z:=Ao.1;refine skip_ (w1:=?_) (by rfl) rfl ?_ ?_
     rotate_left
     ·go_simp
      rfl
     refine hK.out _ _ ⟨((cell_far (p:=⟨Ai,_,none⟩) Ak.1 _).trans (((cell_far (p:=⟨Ai,_,none⟩) Ak.1 _).trans (hHeld.1)))),((cell_far (p:=⟨Ai,_,none⟩) Ak.1 _).trans (((cell_far (p:=⟨Ai,_,none⟩) Ak.1 _).trans (hHeld.2))))⟩ (fun hHeld=>?_)
     clear hK K;refine done_ (by kernel_rfl) ?_
     try go_wp2
     refine bodyPost_ret (results_cc rfl _ _ Ah Ai 26 26 #[.int .i64 Ab,.slice Ao13 Af.length co13] #[.int .i64 Bp,.slice Ao74 Bt.length co74] (0,0) (0,0) _ _ rfl (by (with_reducible repeat (first|refine blk_drewN ?_ _|refine blk_drew ?_|refine blk_alloc ?_ _));refine blk_far ?_ Al.1 _;(with_reducible repeat (first|refine blk_drewN ?_ _|refine blk_drew ?_|refine blk_alloc ?_ _));refine blk_far ?_ Al.1 _;(with_reducible repeat (first|refine blk_drewN ?_ _|refine blk_drew ?_|refine blk_alloc ?_ _));refine blk_put (cs:=#[.int .i64 Ab,.slice none 0 0]) ?_ 1 _ rfl;(with_reducible repeat (first|refine blk_drewN ?_ _|refine blk_drew ?_|refine blk_alloc ?_ _));refine blk_put (cs:=#[.int .i64 0,.slice none 0 0]) ?_ 0 _ rfl;(with_reducible repeat (first|refine blk_drewN ?_ _|refine blk_drew ?_|refine blk_alloc ?_ _));exact Ac.1) Tryd.underlying26 rfl (by kernel_rfl) rfl (by (with_reducible repeat (first|refine blk_drewN ?_ _|refine blk_drew ?_|refine blk_alloc ?_ _));refine blk_put (cs:=#[.int .i64 Bp,.slice none 0 0]) ?_ 1 _ rfl;(with_reducible repeat (first|refine blk_drewN ?_ _|refine blk_drew ?_|refine blk_alloc ?_ _));refine blk_put (cs:=#[.int .i64 0,.slice none 0 0]) ?_ 0 _ rfl;(with_reducible repeat (first|refine blk_drewN ?_ _|refine blk_drew ?_|refine blk_alloc ?_ _));refine blk_far ?_ Am.1 _;(with_reducible repeat (first|refine blk_drewN ?_ _|refine blk_drew ?_|refine blk_alloc ?_ _));refine blk_far ?_ Am.1 _;(with_reducible repeat (first|refine blk_drewN ?_ _|refine blk_drew ?_|refine blk_alloc ?_ _));exact Ae.1) Tryd.underlying26 rfl (by kernel_rfl)) rfl ?_
     exact ⟨_,_,by first|rfl|(simp [errW_none,errW_some] <;> rfl)|(simp [*,errW_none,errW_some] <;> rfl),rq_ (Kd.R_mono (Kd.R_far (p:=⟨Ai,1,none⟩) (Kd.R_far (p:=⟨Ai,0,none⟩) (Kd.R_far (p:=⟨Ah,1,none⟩) (Kd.R_far (p:=⟨Ah,0,none⟩) (Kd.R_types (Kd.R_types Ag.1 Ac.1 (by decide)) Ae.1 (by decide)) (fun _ hk=>hk.1.2) (.int .i64 Ab)) (fun _ hk=>hk.1.2) (.slice Ao13 Af.length co13)) (fun _ hk=>hk.2) (.int .i64 Bp)) (fun _ hk=>hk.2) (.slice Ao74 Bt.length co74)) (fun _ hk=>hk.1.1.2)),rq_ (Kd.R_mono (Kd.R_far (p:=⟨Ai,1,none⟩) (Kd.R_far (p:=⟨Ai,0,none⟩) (Kd.R_far (p:=⟨Ah,1,none⟩) (Kd.R_far (p:=⟨Ah,0,none⟩) (Kd.R_types (Kd.R_types B4.1 Ac.1 (by decide)) Ae.1 (by decide)) (fun _ hk=>hk.1.2) (.int .i64 Ab)) (fun _ hk=>hk.1.2) (.slice Ao13 Af.length co13)) (fun _ hk=>hk.2) (.int .i64 Bp)) (fun _ hk=>hk.2) (.slice Ao74 Bt.length co74)) (fun _ hk=>hk.1.1.1.2)),by repeat (first|(with_reducible first|exact HB.1|apply below_alloc|apply pw_below_drewN|apply below_drew1|refine below_set ?_ (Aaa.ge Aa.1)|refine below_set ?_ (Aside0.out (by assumption)))|exact HB.1)⟩
   ·replace c36:=Bool.eq_false_iff.mpr c36;subst c36;have H1 : ((Aam.f kj2 l0 Av Aw 5).bind fun Ca=>(some (Ab,Af,Ca.1,Ca.2.1))) = some (r1,r2,r3,r4):=by rw [if_neg (show ¬ (false = true) by decide)] at H;exact H
    clear H;have H:=H1;clear H1;replace H:=Option.bind_eq_some_iff.mp H;obtain ⟨⟨Bq,Bu,Ct,Cu⟩,Ck,H⟩:=H;replace H : (some (Ab,Af,Bq,Bu)) = some (r1,r2,r3,r4):=H;have A76:=A_ Ck;clear Ck;simp only [Option.some.injEq,Prod.mk.injEq] at H
    obtain ⟨rfl,rfl,rfl,rfl⟩:=H;try go_wp2
    replace Ag:=A_ (Kd.R_drew Ag.1);replace Ac:=A_ (blk_drew Ac.1);replace Ae:=A_ (blk_drew Ae.1);replace Ad:=A_ (blk_drew Ad.1);replace Aa:=A_ (Aaa.drew Aa.1);replace HB:=A_ (below_drew1 HB.1);refine start_ (n:=5) (S:=fun w'=>w'.cell? ⟨Aq,0,none⟩ = some (.int .i64 Ab) ∧ w'.cell? ⟨Aq,1,none⟩ = some (.slice Ao13 Af.length co13)) (ds:=[]) #[F,F,F,F,F] (by kernel_rfl) rfl rfl ⟨blk_cell Ad.1 0,blk_cell Ad.1 1⟩ (fun hHeld=>?_)
    generalize wc.drew = w77 at Ag Ac Ae Ad Aa HB hHeld ⊢
    refine pure_ (i:=1) (N:=some 42) (v:=?_) (a':=?_) #[F,T,F,F,F] rfl rfl (by kernel_rfl) (fun _ _ _ h=>h) (Or.inl ⟨by rfl,?_⟩) ?_ ?_
    rotate_left;·intro w';go_simp;with_reducible rfl
    rotate_left;·simp only [Act.put,L_,M_,N_,i64_w,i32_w];rfl
    refine take_ (i:=0) (N:=some 41) (v:=?_) (a':=?_) #[T,T,F,F,F] rfl rfl (by kernel_rfl) (fun _ _ _ h=>h) (Or.inl ⟨by rfl,?_⟩) hHeld ?_ ?_
    rotate_left
    ·rintro w' ⟨s0,s1⟩
     go_simp
     with_reducible rfl
    rotate_left;·simp only [Act.put,L_,M_,N_,i64_w,i32_w];rfl
    refine one_ (i:=2) (N:=some 43) #[T,T,T,F,F] rfl rfl (by kernel_rfl) (by decide) (fun K hK=>?_)
    refine goes_ Tryd.func60 (by kernel_rfl) rfl #[.pointer (some ⟨Ap,0,none⟩),.int .i64 5] (by rfl) rfl rfl au_ ?_
    with_reducible refine (Aam.calls kj2 Ap l0 Av Aw 5 Bq Bu Ct Cu w _ ?side1 ?side2 A76.1).mono ?_
    (case side1=>repeat (first|(with_reducible first|exact Aa.1|apply Aaa.alloc|apply Aaa.drewN|apply Aaa.drew|apply Aaa.set_1|apply Aaa.set_2|refine Aaa.far ?_ (Aside0.out (by assumption)) _)|exact Aa.1))
    (case side2=>repeat (first|(with_reducible first|exact HB.1|apply below_alloc|apply pw_below_drewN|apply below_drew1|refine below_set ?_ (Aaa.ge Aa.1)|refine below_set ?_ (Aside0.out (by assumption)))|exact HB.1))
    rintro e w78 ⟨C7,rfl,ho0,hi,hb,hk⟩
    refine ⟨_,rfl,?_⟩
    replace Ac:=A_ (KeepBut.blk hk (g':=Ah) (o:=.cells #[.int .i64 0,.slice none 0 0] 26 (0,0)) (bl_ Ac) Bc.1 (by simp));replace Ae:=A_ (KeepBut.blk hk (g':=Ai) (o:=.cells #[.int .i64 0,.slice none 0 0] 26 (0,0)) (bl_ Ae) Bd.1 (by simp));replace Ad:=A_ (KeepBut.blk hk (g':=Aq) (o:=.cells #[.int .i64 Ab,.slice Ao13 Af.length co13] 26 (0,0)) (bl_ Ad) Au.1 (by simp));have Cb:=A_ (Kd.R_lower (Kd.R_new' ho0 (Kd.R_lt (rl_ Ag))) (below_size (by repeat (with_reducible first|exact HB.1|apply below_alloc|apply pw_below_drewN|apply below_drew1|refine below_set ?_ (Aaa.ge Aa.1)|refine below_set ?_ (Aside0.out (by assumption))))));replace Ag:=A_ (Kd.R_mono (Kd.R_told (Kd.R_oldK (Aaa.apart (show Aaa w _ Ap l0 Av Aw from by repeat (first|(with_reducible first|exact Aa.1|apply Aaa.alloc|apply Aaa.drewN|apply Aaa.drew|apply Aaa.set_1|apply Aaa.set_2|refine Aaa.far ?_ (Aside0.out (by assumption)) _)|exact Aa.1)) (rl_ Ag) (by decide)) hk) (Kd.R_base ho0)) (fun _ h_=>h_.1));replace HB:=A_ (hb);replace Aa:=A_ (hi);(try clear hb);(try clear hb2);(try clear hk);(try clear hi);(try clear ho0);obtain ⟨Ao82,co82,eo82⟩:=Kd.R_slice Cb.1;(first|subst eo82|(injection eo82 with f1_ f2_ f3_;have f4_:=f1_.symm;have f5_:=f3_.symm;clear f1_ f2_ f3_;subst f4_;subst f5_))
    refine hK.out _ _ ⟨blk_cell Ad.1 0,blk_cell Ad.1 1⟩ (fun hHeld=>?_)
    clear hK K;refine norm_ (a':=?_) ?_ ?_
    rotate_left
    ·show Act.put _ (some 43) _ = _
     simp only [Act.put,L_,M_,N_,i64_w,i32_w]
     rfl
    refine one_ (i:=3) (N:=none) #[T,T,T,T,F] rfl rfl (by kernel_rfl) (by decide) (fun K hK=>?_)
    have Z : w78.cell? ⟨Ah,0,none⟩ = some (.int .i64 0):=blk_cell Ac.1 0;have Z:=blk_frozen Ac.1 0;have Z:=Am.1;have Z:=Aj.1;have Z:=Al.1;have Z:=An.1;have Z : w78.cell? ⟨Ah,1,none⟩ = some (.slice none 0 0):=blk_cell Ac.1 1;have Z:=blk_frozen Ac.1 1;have Z:=Am.1;have Z:=Aj.1;have Z:=Al.1;have Z:=An.1;refine skip_ (w1:=?_) (by rfl) rfl ?_ ?_
    rotate_left
    ·go_simp
     rfl
    refine hK.out _ _ ⟨((cell_far (p:=⟨Ah,_,none⟩) Aj.1 _).trans (((cell_far (p:=⟨Ah,_,none⟩) Aj.1 _).trans (hHeld.1)))),((cell_far (p:=⟨Ah,_,none⟩) Aj.1 _).trans (((cell_far (p:=⟨Ah,_,none⟩) Aj.1 _).trans (hHeld.2))))⟩ (fun hHeld=>?_)
    clear hK K;refine one_ (i:=4) (N:=none) #[T,T,T,T,T] rfl rfl (by kernel_rfl) (by decide) (fun K hK=>?_)
    have Z : w78.cell? ⟨Ai,0,none⟩ = some (.int .i64 0):=blk_cell Ae.1 0;have Z:=blk_frozen Ae.1 0;have Z:=Al.1;have Z:=Ak.1;have Z:=Am.1;have Z:=Ao.1;have Z : w78.cell? ⟨Ai,1,none⟩ = some (.slice none 0 0):=blk_cell Ae.1 1;have Z:=blk_frozen Ae.1 1;have Z:=Al.1;have Z:=Ak.1;have Z:=Am.1;have Z:=Ao.1;refine skip_ (w1:=?_) (by rfl) rfl ?_ ?_
    rotate_left
    ·go_simp
     rfl
    refine hK.out _ _ ⟨((cell_far (p:=⟨Ai,_,none⟩) Ak.1 _).trans (((cell_far (p:=⟨Ai,_,none⟩) Ak.1 _).trans (hHeld.1)))),((cell_far (p:=⟨Ai,_,none⟩) Ak.1 _).trans (((cell_far (p:=⟨Ai,_,none⟩) Ak.1 _).trans (hHeld.2))))⟩ (fun hHeld=>?_)
    clear hK K;refine done_ (by kernel_rfl) ?_
    try go_wp2
    refine bodyPost_ret (results_cc rfl _ _ Ah Ai 26 26 #[.int .i64 Ab,.slice Ao13 Af.length co13] #[.int .i64 Bq,.slice Ao82 Bu.length co82] (0,0) (0,0) _ _ rfl (by (with_reducible repeat (first|refine blk_drewN ?_ _|refine blk_drew ?_|refine blk_alloc ?_ _));refine blk_far ?_ Al.1 _;(with_reducible repeat (first|refine blk_drewN ?_ _|refine blk_drew ?_|refine blk_alloc ?_ _));refine blk_far ?_ Al.1 _;(with_reducible repeat (first|refine blk_drewN ?_ _|refine blk_drew ?_|refine blk_alloc ?_ _));refine blk_put (cs:=#[.int .i64 Ab,.slice none 0 0]) ?_ 1 _ rfl;(with_reducible repeat (first|refine blk_drewN ?_ _|refine blk_drew ?_|refine blk_alloc ?_ _));refine blk_put (cs:=#[.int .i64 0,.slice none 0 0]) ?_ 0 _ rfl;(with_reducible repeat (first|refine blk_drewN ?_ _|refine blk_drew ?_|refine blk_alloc ?_ _));exact Ac.1) Tryd.underlying26 rfl (by kernel_rfl) rfl (by (with_reducible repeat (first|refine blk_drewN ?_ _|refine blk_drew ?_|refine blk_alloc ?_ _));refine blk_put (cs:=#[.int .i64 Bq,.slice none 0 0]) ?_ 1 _ rfl;(with_reducible repeat (first|refine blk_drewN ?_ _|refine blk_drew ?_|refine blk_alloc ?_ _));refine blk_put (cs:=#[.int .i64 0,.slice none 0 0]) ?_ 0 _ rfl;(with_reducible repeat (first|refine blk_drewN ?_ _|refine blk_drew ?_|refine blk_alloc ?_ _));refine blk_far ?_ Am.1 _;(with_reducible repeat (first|refine blk_drewN ?_ _|refine blk_drew ?_|refine blk_alloc ?_ _));refine blk_far ?_ Am.1 _;(with_reducible repeat (first|refine blk_drewN ?_ _|refine blk_drew ?_|refine blk_alloc ?_ _));exact Ae.1) Tryd.underlying26 rfl (by kernel_rfl)) rfl ?_
    exact ⟨_,_,by first|rfl|(simp [errW_none,errW_some] <;> rfl)|(simp [*,errW_none,errW_some] <;> rfl),rq_ (Kd.R_mono (Kd.R_far (p:=⟨Ai,1,none⟩) (Kd.R_far (p:=⟨Ai,0,none⟩) (Kd.R_far (p:=⟨Ah,1,none⟩) (Kd.R_far (p:=⟨Ah,0,none⟩) (Kd.R_types (Kd.R_types Ag.1 Ac.1 (by decide)) Ae.1 (by decide)) (fun _ hk=>hk.1.2) (.int .i64 Ab)) (fun _ hk=>hk.1.2) (.slice Ao13 Af.length co13)) (fun _ hk=>hk.2) (.int .i64 Bq)) (fun _ hk=>hk.2) (.slice Ao82 Bu.length co82)) (fun _ hk=>hk.1.1.2)),rq_ (Kd.R_mono (Kd.R_far (p:=⟨Ai,1,none⟩) (Kd.R_far (p:=⟨Ai,0,none⟩) (Kd.R_far (p:=⟨Ah,1,none⟩) (Kd.R_far (p:=⟨Ah,0,none⟩) (Kd.R_types (Kd.R_types Cb.1 Ac.1 (by decide)) Ae.1 (by decide)) (fun _ hk=>hk.1.2) (.int .i64 Ab)) (fun _ hk=>hk.1.2) (.slice Ao13 Af.length co13)) (fun _ hk=>hk.2) (.int .i64 Bq)) (fun _ hk=>hk.2) (.slice Ao82 Bu.length co82)) (fun _ hk=>hk.1.1.2)),by repeat (first|(with_reducible first|exact HB.1|apply below_alloc|apply pw_below_drewN|apply below_drew1|refine below_set ?_ (Aaa.ge Aa.1)|refine below_set ?_ (Aside0.out (by assumption)))|exact HB.1)⟩
def Aba.f (a0 : Int) (a1 : Int) (a2 : Int) : Option (Bool) := if a0 ≥ a1 then (some (decide (a0 ≤ a2))) else (some false)
set_option maxHeartbeats 8000000 in
set_option maxRecDepth 100000 in
theorem Aba.calls (a0 : Int) (a1 : Int) (a2 : Int) (r : Bool) (w : World) (h : Aba.f a0 a1 a2 = some r) :
 Calls Tryd.prog 114 #[.int .i64 a0,.int .i64 a1,.int .i64 a2] w fun e w'=>e = .returned (.bool r) ∧ Drawn0 w w':=by
 have H : (if a0 ≥ a1 then (some (decide (a0 ≤ a2))) else (some false)) = some r:=h;clear h;by_cases c4 : a0 ≥ a1
 ·rw [if_pos c4] at H;have c4b0 : decide (a1 ≤ a0) = true:=decide_eq_true c4;clear c4;obtain rfl:=Option.some.inj H;go_enter Tryd.func114,Tryd.ntmps114
  go_wp2
  go_ret
  exact ⟨by first|rfl|(simp;done)|(simp [*];done),by repeat (first|exact Drawn0.refl _|apply Drawn0.step)⟩
 ·rw [if_neg c4] at H;have c4b0 : decide (a1 ≤ a0) = false:=decide_eq_false c4;clear c4;obtain rfl:=Option.some.inj H;go_enter Tryd.func114,Tryd.ntmps114
  go_wp2
  go_ret
  exact ⟨by first|rfl|(simp;done)|(simp [*];done),by repeat (first|exact Drawn0.refl _|apply Drawn0.step)⟩
def Aaw.l0 : Nat → Int → Int → List Int → Int → Int → Option (Bool)
 | 0,_,_,_,_,_=>none
 | k + 1,x1,x2,x9,x10,x11=>if x11 < x10 then (if 0 ≤ x11 then (if x11 < (x9.length : Int) then ((Aba.f (rd x9 x11) x1 x2).bind fun t252=>(if t252 = true then (Aaw.l0 k x1 x2 x9 x10 (wrap64 (x11 + 1))) else (some false))) else (none)) else (none)) else (some true)
def Aaw.f (k : Nat) (l0 : List Int) (a1 : Int) (a2 : Int) : Option (Bool) := Aaw.l0 k a1 a2 l0 (l0.length : Int) 0
set_option maxHeartbeats 8000000 in
set_option maxRecDepth 100000 in
theorem Aaw.calls (k : Nat) (A0 : Option Addr) (c0 : Nat) (l0 : List Int) (a1 : Int) (a2 : Int) (r : Bool) (w : World) (hr0 : Kd.C (Kd.int .i64) w A0 l0.length l0) (hc0 : l0.length ≤ c0) (h : Aaw.f k l0 a1 a2 = some r) :
 Calls Tryd.prog 115 #[.slice A0 l0.length c0,.int .i64 a1,.int .i64 a2] w fun e w'=>e = .returned (.bool r) ∧ Drawn0 w w':=by
 have HR0:=A_ hr0;have HC0:=A_ hc0;clear hr0 hc0;have H : (Aaw.l0 k a1 a2 l0 (l0.length : Int) 0) = some r:=h;clear h;have H':=A_ H;clear H;go_enter Tryd.func115,Tryd.ntmps115
 go_wp2
 go_loopg [11] k (fun kq v11 w'=>∃ (x11_1 : Int),v11 = .int .i64 x11_1 ∧ Aside0 (Aaw.l0 kq a1 a2 l0 (l0.length : Int) x11_1 = some r) ∧ Aside0 (kq ≤ k) ∧ Drawn0 w w')
 case atStart=>exact ⟨(0),(by first|rfl|(simp;done)|(simp [*];done)),H',⟨Nat.le_refl _⟩,by repeat (first|exact Drawn0.refl _|apply Drawn0.step)⟩
 case round =>
  clear H';try clear c1
  try clear p2
  obtain ⟨x11_1,rfl,HA,HK1,⟨m1,rfl⟩⟩:=hrel;cases gk with
  | zero => exact absurd HA.1 (by simp [Aaw.l0])
  | succ k1 =>
   have H:=HA.1;clear HA;simp only [Aaw.l0] at H
   by_cases c4 : x11_1 < (l0.length : Int)
   ·rw [if_pos c4] at H;have c4b0 : decide (x11_1 < (l0.length : Int)) = true:=decide_eq_true c4;clear c4;by_cases c5 : 0 ≤ x11_1
    ·rw [if_pos c5] at H;have c5b0 : decide (0 ≤ x11_1) = true:=decide_eq_true c5;clear c5;by_cases c6 : x11_1 < (l0.length : Int)
     ·rw [if_pos c6] at H;have c6b0 : decide (x11_1 < (l0.length : Int)) = true:=decide_eq_true c6;clear c6;replace H:=Option.bind_eq_some_iff.mp H;obtain ⟨Af,A70,H⟩:=H;(try dsimp only at H);have A7:=A_ A70;clear A70;by_cases c8 : Af = true
      ·subst c8;rw [if_pos rfl] at H;have H':=A_ H;clear H;have Aa : 0 ≤ (x11_1 : Int):=of_decide_eq_true (by first|(with_reducible assumption)|assumption);have Ab : x11_1 < (l0.length : Int):=of_decide_eq_true (by first|(with_reducible assumption)|assumption);obtain ⟨Ae,Ac,Ad⟩:=Kd.at_int HR0.1 x11_1 Aa Ab;cases Ac
       replace Aa:=eq_true Aa;replace Ab:=eq_true Ab;go_wp2_with (first|((with_reducible refine gate_callee (f:=114) rfl ?_);refine goesL_ (some 18) rfl rfl Tryd.func114 (by kernel_rfl) rfl #[.int .i64 (rd l0 x11_1),.int .i64 a1,.int .i64 a2] rfl au_ ?_;(with_reducible refine (Aba.calls (rd l0 x11_1) a1 a2 true _ A7.1).mono ?_);rintro e w' ⟨rfl,⟨nd,rfl⟩⟩;refine ⟨_,rfl,?_⟩))
       go_roundg k1
       case measure=>have:=HK1.1;omega
       case rel=>exact ⟨(wrap64 (x11_1 + 1)),(by first|rfl|(simp;done)|(simp [*];done)),H',⟨by have:=HK1.1;omega⟩,by repeat (first|exact Drawn0.refl _|apply Drawn0.step)⟩
      ·replace c8:=Bool.eq_false_iff.mpr c8;subst c8;rw [if_neg nf_] at H;obtain rfl:=Option.some.inj H;have Aa : 0 ≤ (x11_1 : Int):=of_decide_eq_true (by first|(with_reducible assumption)|assumption);have Ab : x11_1 < (l0.length : Int):=of_decide_eq_true (by first|(with_reducible assumption)|assumption);obtain ⟨Ae,Ac,Ad⟩:=Kd.at_int HR0.1 x11_1 Aa Ab;cases Ac
       replace Aa:=eq_true Aa;replace Ab:=eq_true Ab;go_wp2_with (first|((with_reducible refine gate_callee (f:=114) rfl ?_);refine goesL_ (some 18) rfl rfl Tryd.func114 (by kernel_rfl) rfl #[.int .i64 (rd l0 x11_1),.int .i64 a1,.int .i64 a2] rfl au_ ?_;(with_reducible refine (Aba.calls (rd l0 x11_1) a1 a2 false _ A7.1).mono ?_);rintro e w' ⟨rfl,⟨nd,rfl⟩⟩;refine ⟨_,rfl,?_⟩))
       go_ret
       exact ⟨by first|rfl|(simp;done)|(simp [*];done),by repeat (first|exact Drawn0.refl _|apply Drawn0.step)⟩
     ·rw [if_neg c6] at H;exact absurd H (by simp)
    ·rw [if_neg c5] at H;exact absurd H (by simp)
   ·rw [if_neg c4] at H;have c4b0 : decide (x11_1 < (l0.length : Int)) = false:=decide_eq_false c4;clear c4;obtain rfl:=Option.some.inj H;go_wp2
    go_ret
    exact ⟨by first|rfl|(simp;done)|(simp [*];done),by repeat (first|exact Drawn0.refl _|apply Drawn0.step)⟩
def Aal.f (k : Nat) (a0_0 : Int) (l0_1 : List Int) : Option (Bool) := (Aba.f a0_0 0 10).bind fun t254 => (if t254 = true then (if (l0_1.length : Int) = a0_0 then (if 0 ≤ a0_0 then ((Aaw.f k l0_1 0 (wrap64 ((shl .i64 1 a0_0) - 1))).bind fun t255 => (some t255)) else (none)) else (some false)) else (some false))
set_option maxHeartbeats 8000000 in
set_option maxRecDepth 100000 in
theorem Aal.calls (k : Nat) (a0_0 : Int) (A0_1 : Option Addr) (c0_1 : Nat) (l0_1 : List Int) (r : Bool) (w : World) (hr0_1 : Kd.C (Kd.int .i64) w A0_1 l0_1.length l0_1) (hc0_1 : l0_1.length ≤ c0_1) (h : Aal.f k a0_0 l0_1 = some r) :
 Calls Tryd.prog 61 #[.agg #[.int .i64 a0_0,.slice A0_1 l0_1.length c0_1]] w fun e w'=>e = .returned (.bool r) ∧ Below w.heap.size w w':=by
 have hu26:=Tryd.underlying26;have HR0_1:=A_ hr0_1;have HC0_1:=A_ hc0_1;clear hr0_1 hc0_1;have HB:=A_ (Below.refl w.heap.size w);have H : ((Aba.f a0_0 0 10).bind fun Af=>(if Af = true then (if (l0_1.length : Int) = a0_0 then (if 0 ≤ a0_0 then ((Aaw.f k l0_1 0 (wrap64 ((shl .i64 1 a0_0) - 1))).bind fun Ae=>(some Ae)) else (none)) else (some false)) else (some false))) = some r:=h;clear h;replace H:=Option.bind_eq_some_iff.mp H;obtain ⟨Af,A20,H⟩:=H;(try dsimp only at H);have A2:=A_ A20;clear A20;by_cases c3 : Af = true
 ·subst c3;rw [if_pos rfl] at H;by_cases c4 : (l0_1.length : Int) = a0_0
  ·rw [if_pos c4] at H;have c4b0 : ((l0_1.length : Int) == a0_0) = true:=beq_iff_eq.mpr c4;have c4b1 : ((l0_1.length : Int) != a0_0) = false:=bne_eq_false_iff_eq.mpr c4;clear c4;by_cases c5 : 0 ≤ a0_0
   ·rw [if_pos c5] at H;have c5b0:=eq_true c5;have c5b1 : decide (0 ≤ a0_0) = true:=decide_eq_true c5;clear c5;obtain ⟨ji6,hji6⟩ : ∃ j_ : Int,(shl .i64 1 a0_0) = j_:=⟨_,rfl⟩;replace H : ((Aaw.f k l0_1 0 (wrap64 ((ji6) - 1))).bind fun Ae=>(some Ae)) = some r:=by first|(rw [hji6] at H;exact H)|(simp only [hji6] at H ⊢;exact H)
    (try rw [hji6] at A2);have hji6_ : (IntKind.i64.wrap (1 * 2 ^ min a0_0.toNat 64)) = ji6:=hji6;have hji6z : a0_0 ≤ 64 → (IntKind.i64.wrap (1 * 2 ^ a0_0.toNat)) = ji6:=shl_small hji6;have hji6u : (IntKind.i64.wrap (2 ^ min a0_0.toNat 64)) = ji6:=by have h_:=hji6_;rw [Int.one_mul] at h_;exact h_
    have hji6v : a0_0 ≤ 64 → (IntKind.i64.wrap (2 ^ a0_0.toNat)) = ji6:=fun hle_=>by have h_:=hji6z hle_;rw [Int.one_mul] at h_;exact h_
    have hji6y : (wrap64 (1 * 2 ^ min a0_0.toNat 64)) = ji6:=(i64_w _).symm.trans hji6_;have hji6x : a0_0 ≤ 64 → (wrap64 (1 * 2 ^ a0_0.toNat)) = ji6:=fun h_=>(i64_w _).symm.trans (hji6z h_)
    replace H:=Option.bind_eq_some_iff.mp H;obtain ⟨Ae,A70,H⟩:=H;(try dsimp only at H);have A7:=A_ A70;clear A70;obtain rfl:=Option.some.inj H;go_enter Tryd.func61,Tryd.ntmps61
    go_wp2_with (first|((with_reducible refine gate_dst (N:=1) rfl ?_);(try (refine gate_guard (by rfl) ?_;dsimp only));refine box_event ?hg (N:=1) ?hd (cs:=#[.int .i64 a0_0,.slice A0_1 l0_1.length c0_1]) (t:=26) ?hr ?_;(case hd=>rfl);(case hg=>rfl);(case hr=>go_simp;try rfl);intro Ab hg w8 hbox hb;have Aa:=A_ (hbox);have Ac:=A_ (gw_ (w:=w) hg bb_);have Ad:=A_ (gw_ (w:=w) hg bb_);replace HB:=A_ (below_step bb_ hb);clear hb hbox hg;obtain ⟨hcz9_0,hcz9_1,hfz9_0,hfz9_1⟩:=o2_ Aa.1)|(go_at_call 114;(with_reducible refine (Aba.calls a0_0 0 10 true _ A2.1).mono ?_);rintro e w' ⟨rfl,⟨nd,rfl⟩⟩;(try first|exact ⟨rfl,_,World.drewN_drewN _ _ _⟩|exact ⟨rfl,_,Eq.trans (World.drewN_drewN _ _ _) (congrArg (World.drewN _) (Nat.add_assoc _ _ _))⟩))|(go_at_call 115;(with_reducible refine (Aaw.calls k _ _ l0_1 0 (wrap64 ((ji6) - 1)) Ae _ ?side1 ?side2 A7.1).mono ?_);(case side1=>exact cl_ (Kd.C_below HR0_1.1 bb_));(case side2=>exact HC0_1.1);rintro e w' ⟨rfl,⟨nd,rfl⟩⟩;(try first|exact ⟨rfl,_,World.drewN_drewN _ _ _⟩|exact ⟨rfl,_,Eq.trans (World.drewN_drewN _ _ _) (congrArg (World.drewN _) (Nat.add_assoc _ _ _))⟩)))
    repeat (go_quiet (first|((with_reducible refine gate_dst (N:=1) rfl ?_);(try (refine gate_guard (by rfl) ?_;dsimp only));refine box_event ?hg (N:=1) ?hd (cs:=#[.int .i64 a0_0,.slice A0_1 l0_1.length c0_1]) (t:=26) ?hr ?_;(case hd=>rfl);(case hg=>rfl);(case hr=>go_simp;try rfl);intro Ab hg w8 hbox hb;have Aa:=A_ (hbox);have Ac:=A_ (gw_ (w:=w) hg bb_);have Ad:=A_ (gw_ (w:=w) hg bb_);replace HB:=A_ (below_step bb_ hb);clear hb hbox hg;obtain ⟨hcz9_0,hcz9_1,hfz9_0,hfz9_1⟩:=o2_ Aa.1)|(go_at_call 114;(with_reducible refine (Aba.calls a0_0 0 10 true _ A2.1).mono ?_);rintro e w' ⟨rfl,⟨nd,rfl⟩⟩;(try first|exact ⟨rfl,_,World.drewN_drewN _ _ _⟩|exact ⟨rfl,_,Eq.trans (World.drewN_drewN _ _ _) (congrArg (World.drewN _) (Nat.add_assoc _ _ _))⟩))|(go_at_call 115;(with_reducible refine (Aaw.calls k _ _ l0_1 0 (wrap64 ((ji6) - 1)) Ae _ ?side1 ?side2 A7.1).mono ?_);(case side1=>exact cl_ (Kd.C_below HR0_1.1 bb_));(case side2=>exact HC0_1.1);rintro e w' ⟨rfl,⟨nd,rfl⟩⟩;(try first|exact ⟨rfl,_,World.drewN_drewN _ _ _⟩|exact ⟨rfl,_,Eq.trans (World.drewN_drewN _ _ _) (congrArg (World.drewN _) (Nat.add_assoc _ _ _))⟩)));try go_wp2_with (first|((with_reducible refine gate_dst (N:=1) rfl ?_);(try (refine gate_guard (by rfl) ?_;dsimp only));refine box_event ?hg (N:=1) ?hd (cs:=#[.int .i64 a0_0,.slice A0_1 l0_1.length c0_1]) (t:=26) ?hr ?_;(case hd=>rfl);(case hg=>rfl);(case hr=>go_simp;try rfl);intro Ab hg w8 hbox hb;have Aa:=A_ (hbox);have Ac:=A_ (gw_ (w:=w) hg bb_);have Ad:=A_ (gw_ (w:=w) hg bb_);replace HB:=A_ (below_step bb_ hb);clear hb hbox hg;obtain ⟨hcz9_0,hcz9_1,hfz9_0,hfz9_1⟩:=o2_ Aa.1)|(go_at_call 114;(with_reducible refine (Aba.calls a0_0 0 10 true _ A2.1).mono ?_);rintro e w' ⟨rfl,⟨nd,rfl⟩⟩;(try first|exact ⟨rfl,_,World.drewN_drewN _ _ _⟩|exact ⟨rfl,_,Eq.trans (World.drewN_drewN _ _ _) (congrArg (World.drewN _) (Nat.add_assoc _ _ _))⟩))|(go_at_call 115;(with_reducible refine (Aaw.calls k _ _ l0_1 0 (wrap64 ((ji6) - 1)) Ae _ ?side1 ?side2 A7.1).mono ?_);(case side1=>exact cl_ (Kd.C_below HR0_1.1 bb_));(case side2=>exact HC0_1.1);rintro e w' ⟨rfl,⟨nd,rfl⟩⟩;(try first|exact ⟨rfl,_,World.drewN_drewN _ _ _⟩|exact ⟨rfl,_,Eq.trans (World.drewN_drewN _ _ _) (congrArg (World.drewN _) (Nat.add_assoc _ _ _))⟩))))
    go_ret
    exact ⟨by first|rfl|(simp [errW_none,errW_some] <;> rfl)|(simp only [← hji6];first|rfl|(simp [errW_none,errW_some] <;> rfl))|(simp [*,errW_none,errW_some] <;> rfl),bb_⟩
   ·rw [if_neg c5] at H;exact absurd H (by simp)
  ·rw [if_neg c4] at H;have c4b0 : ((l0_1.length : Int) == a0_0) = false:=beq_eq_false_iff_ne.mpr c4;have c4b1 : ((l0_1.length : Int) != a0_0) = true:=bne_iff_ne.mpr c4;obtain rfl:=Option.some.inj H;go_enter Tryd.func61,Tryd.ntmps61
   go_wp2_with (first|((with_reducible refine gate_dst (N:=1) rfl ?_);(try (refine gate_guard (by rfl) ?_;dsimp only));refine box_event ?hg (N:=1) ?hd (cs:=#[.int .i64 a0_0,.slice A0_1 l0_1.length c0_1]) (t:=26) ?hr ?_;(case hd=>rfl);(case hg=>rfl);(case hr=>go_simp;try rfl);intro Ab hg w10 hbox hb;have Aa:=A_ (hbox);have Ac:=A_ (gw_ (w:=w) hg bb_);have Ad:=A_ (gw_ (w:=w) hg bb_);replace HB:=A_ (below_step bb_ hb);clear hb hbox hg;obtain ⟨hcz11_0,hcz11_1,hfz11_0,hfz11_1⟩:=o2_ Aa.1)|(go_at_call 114;(with_reducible refine (Aba.calls a0_0 0 10 true _ A2.1).mono ?_);rintro e w' ⟨rfl,⟨nd,rfl⟩⟩;(try first|exact ⟨rfl,_,World.drewN_drewN _ _ _⟩|exact ⟨rfl,_,Eq.trans (World.drewN_drewN _ _ _) (congrArg (World.drewN _) (Nat.add_assoc _ _ _))⟩)))
   repeat (go_quiet (first|((with_reducible refine gate_dst (N:=1) rfl ?_);(try (refine gate_guard (by rfl) ?_;dsimp only));refine box_event ?hg (N:=1) ?hd (cs:=#[.int .i64 a0_0,.slice A0_1 l0_1.length c0_1]) (t:=26) ?hr ?_;(case hd=>rfl);(case hg=>rfl);(case hr=>go_simp;try rfl);intro Ab hg w10 hbox hb;have Aa:=A_ (hbox);have Ac:=A_ (gw_ (w:=w) hg bb_);have Ad:=A_ (gw_ (w:=w) hg bb_);replace HB:=A_ (below_step bb_ hb);clear hb hbox hg;obtain ⟨hcz11_0,hcz11_1,hfz11_0,hfz11_1⟩:=o2_ Aa.1)|(go_at_call 114;(with_reducible refine (Aba.calls a0_0 0 10 true _ A2.1).mono ?_);rintro e w' ⟨rfl,⟨nd,rfl⟩⟩;(try first|exact ⟨rfl,_,World.drewN_drewN _ _ _⟩|exact ⟨rfl,_,Eq.trans (World.drewN_drewN _ _ _) (congrArg (World.drewN _) (Nat.add_assoc _ _ _))⟩)));try go_wp2_with (first|((with_reducible refine gate_dst (N:=1) rfl ?_);(try (refine gate_guard (by rfl) ?_;dsimp only));refine box_event ?hg (N:=1) ?hd (cs:=#[.int .i64 a0_0,.slice A0_1 l0_1.length c0_1]) (t:=26) ?hr ?_;(case hd=>rfl);(case hg=>rfl);(case hr=>go_simp;try rfl);intro Ab hg w10 hbox hb;have Aa:=A_ (hbox);have Ac:=A_ (gw_ (w:=w) hg bb_);have Ad:=A_ (gw_ (w:=w) hg bb_);replace HB:=A_ (below_step bb_ hb);clear hb hbox hg;obtain ⟨hcz11_0,hcz11_1,hfz11_0,hfz11_1⟩:=o2_ Aa.1)|(go_at_call 114;(with_reducible refine (Aba.calls a0_0 0 10 true _ A2.1).mono ?_);rintro e w' ⟨rfl,⟨nd,rfl⟩⟩;(try first|exact ⟨rfl,_,World.drewN_drewN _ _ _⟩|exact ⟨rfl,_,Eq.trans (World.drewN_drewN _ _ _) (congrArg (World.drewN _) (Nat.add_assoc _ _ _))⟩))))
   go_ret
   exact ⟨by first|rfl|(simp [errW_none,errW_some] <;> rfl)|(simp [*,errW_none,errW_some] <;> rfl),bb_⟩
 ·replace c3:=Bool.eq_false_iff.mpr c3;subst c3;rw [if_neg nf_] at H;obtain rfl:=Option.some.inj H;go_enter Tryd.func61,Tryd.ntmps61
  go_wp2_with (first|((with_reducible refine gate_dst (N:=1) rfl ?_);(try (refine gate_guard (by rfl) ?_;dsimp only));refine box_event ?hg (N:=1) ?hd (cs:=#[.int .i64 a0_0,.slice A0_1 l0_1.length c0_1]) (t:=26) ?hr ?_;(case hd=>rfl);(case hg=>rfl);(case hr=>go_simp;try rfl);intro Ab hg w12 hbox hb;have Aa:=A_ (hbox);have Ac:=A_ (gw_ (w:=w) hg bb_);have Ad:=A_ (gw_ (w:=w) hg bb_);replace HB:=A_ (below_step bb_ hb);clear hb hbox hg;obtain ⟨hcz13_0,hcz13_1,hfz13_0,hfz13_1⟩:=o2_ Aa.1)|(go_at_call 114;(with_reducible refine (Aba.calls a0_0 0 10 false _ A2.1).mono ?_);rintro e w' ⟨rfl,⟨nd,rfl⟩⟩;(try first|exact ⟨rfl,_,World.drewN_drewN _ _ _⟩|exact ⟨rfl,_,Eq.trans (World.drewN_drewN _ _ _) (congrArg (World.drewN _) (Nat.add_assoc _ _ _))⟩)))
  repeat (go_quiet (first|((with_reducible refine gate_dst (N:=1) rfl ?_);(try (refine gate_guard (by rfl) ?_;dsimp only));refine box_event ?hg (N:=1) ?hd (cs:=#[.int .i64 a0_0,.slice A0_1 l0_1.length c0_1]) (t:=26) ?hr ?_;(case hd=>rfl);(case hg=>rfl);(case hr=>go_simp;try rfl);intro Ab hg w12 hbox hb;have Aa:=A_ (hbox);have Ac:=A_ (gw_ (w:=w) hg bb_);have Ad:=A_ (gw_ (w:=w) hg bb_);replace HB:=A_ (below_step bb_ hb);clear hb hbox hg;obtain ⟨hcz13_0,hcz13_1,hfz13_0,hfz13_1⟩:=o2_ Aa.1)|(go_at_call 114;(with_reducible refine (Aba.calls a0_0 0 10 false _ A2.1).mono ?_);rintro e w' ⟨rfl,⟨nd,rfl⟩⟩;(try first|exact ⟨rfl,_,World.drewN_drewN _ _ _⟩|exact ⟨rfl,_,Eq.trans (World.drewN_drewN _ _ _) (congrArg (World.drewN _) (Nat.add_assoc _ _ _))⟩)));try go_wp2_with (first|((with_reducible refine gate_dst (N:=1) rfl ?_);(try (refine gate_guard (by rfl) ?_;dsimp only));refine box_event ?hg (N:=1) ?hd (cs:=#[.int .i64 a0_0,.slice A0_1 l0_1.length c0_1]) (t:=26) ?hr ?_;(case hd=>rfl);(case hg=>rfl);(case hr=>go_simp;try rfl);intro Ab hg w12 hbox hb;have Aa:=A_ (hbox);have Ac:=A_ (gw_ (w:=w) hg bb_);have Ad:=A_ (gw_ (w:=w) hg bb_);replace HB:=A_ (below_step bb_ hb);clear hb hbox hg;obtain ⟨hcz13_0,hcz13_1,hfz13_0,hfz13_1⟩:=o2_ Aa.1)|(go_at_call 114;(with_reducible refine (Aba.calls a0_0 0 10 false _ A2.1).mono ?_);rintro e w' ⟨rfl,⟨nd,rfl⟩⟩;(try first|exact ⟨rfl,_,World.drewN_drewN _ _ _⟩|exact ⟨rfl,_,Eq.trans (World.drewN_drewN _ _ _) (congrArg (World.drewN _) (Nat.add_assoc _ _ _))⟩))))
  go_ret
  exact ⟨by first|rfl|(simp [errW_none,errW_some] <;> rfl)|(simp [*,errW_none,errW_some] <;> rfl),bb_⟩
def Aau.f (a0_0 : Int) (l0_1 : List Int) (a1 : Int) (a2 : Int) : Option (Bool) := if 0 ≤ a1 then (if a1 < (l0_1.length : Int) then (if 0 ≤ a2 then (some ((Go.bits .and .i64 (shr .i64 (rd l0_1 a1) a2) 1) == 1)) else (none)) else (none)) else (none)
set_option maxHeartbeats 8000000 in
set_option maxRecDepth 100000 in
theorem Aau.calls (a0_0 : Int) (A0_1 : Option Addr) (c0_1 : Nat) (l0_1 : List Int) (a1 : Int) (a2 : Int) (r : Bool) (w : World) (hr0_1 : Kd.C (Kd.int .i64) w A0_1 l0_1.length l0_1) (hc0_1 : l0_1.length ≤ c0_1) (h : Aau.f a0_0 l0_1 a1 a2 = some r) :
 Calls Tryd.prog 69 #[.agg #[.int .i64 a0_0,.slice A0_1 l0_1.length c0_1],.int .i64 a1,.int .i64 a2] w fun e w'=>e = .returned (.bool r) ∧ Below w.heap.size w w':=by
 have hu26:=Tryd.underlying26;have HR0_1:=A_ hr0_1;have HC0_1:=A_ hc0_1;clear hr0_1 hc0_1;have HB:=A_ (Below.refl w.heap.size w);have H : (if 0 ≤ a1 then (if a1 < (l0_1.length : Int) then (if 0 ≤ a2 then (some ((Go.bits .and .i64 (shr .i64 (rd l0_1 a1) a2) 1) == 1)) else (none)) else (none)) else (none)) = some r:=h;clear h;by_cases c4 : 0 ≤ a1
 ·rw [if_pos c4] at H;have c4b0 : decide (0 ≤ a1) = true:=decide_eq_true c4;clear c4;by_cases c5 : a1 < (l0_1.length : Int)
  ·rw [if_pos c5] at H;have c5b0 : decide (a1 < (l0_1.length : Int)) = true:=decide_eq_true c5;clear c5;by_cases c6 : 0 ≤ a2
   ·rw [if_pos c6] at H;have c6b0:=eq_true c6;have c6b1 : decide (0 ≤ a2) = true:=decide_eq_true c6;clear c6;obtain ⟨ji7,hji7⟩ : ∃ j_ : Int,(shr .i64 (rd l0_1 a1) a2) = j_:=⟨_,rfl⟩;replace H : (some ((Go.bits .and .i64 (ji7) 1) == 1)) = some r:=by first|(rw [hji7] at H;exact H)|(simp only [hji7] at H ⊢;exact H)
    have hji7_ : ((rd l0_1 a1) / 2 ^ min a2.toNat 64) = ji7:=hji7;have hji7z : a2 ≤ 64 → ((rd l0_1 a1) / 2 ^ a2.toNat) = ji7:=shr_small hji7;obtain rfl:=Option.some.inj H;go_enter Tryd.func69,Tryd.ntmps69
    go_wp2_with (first|((with_reducible refine gate_dst (N:=3) rfl ?_);refine box_event ?hg (N:=3) ?hd (cs:=#[.int .i64 a0_0,.slice A0_1 l0_1.length c0_1]) (t:=26) ?hr ?_;(case hd=>rfl);(case hg=>rfl);(case hr=>go_simp;try rfl);intro Af hg w8 hbox hb;have Ad:=A_ (hbox);have Ag:=A_ (gw_ (w:=w) hg bb_);have Ah:=A_ (gw_ (w:=w) hg bb_);replace HB:=A_ (below_step bb_ hb);clear hb hbox hg;obtain ⟨hcz9_0,hcz9_1,hfz9_0,hfz9_1⟩:=o2_ Ad.1;have Ab : 0 ≤ (a1 : Int):=of_decide_eq_true (by first|(with_reducible assumption)|assumption);have Ac : a1 < (l0_1.length : Int):=of_decide_eq_true (by first|(with_reducible assumption)|assumption);obtain ⟨Ai,Ae,Aa⟩:=Kd.at_int HR0_1.1 a1 Ab Ac;cases Ae;(try replace Aa:=(HB.1.cell (World.block_lt_of_cell? w _ Aa)).trans Aa);replace Ab:=eq_true Ab;replace Ac:=eq_true Ac))
    go_ret
    exact ⟨by first|rfl|(simp [errW_none,errW_some] <;> rfl)|(simp only [← hji7];first|rfl|(simp [errW_none,errW_some] <;> rfl))|(simp [*,errW_none,errW_some] <;> rfl),bb_⟩
   ·rw [if_neg c6] at H;exact absurd H (by simp)
  ·rw [if_neg c5] at H;exact absurd H (by simp)
 ·rw [if_neg c4] at H;exact absurd H (by simp)
theorem Aaz.nilAt {P : Program} (w : World) (d : Nat) (t e : TypeId) (a : Option Addr) (l c : Nat) (h : P.underlying t = some (.slice e)) : (Op.equalIn (d + 1) t (.slice a l c) (.slice none 0 0)).run P w = .ok a.isNone w:=by
 cases a <;> simp [Op.equalIn,run_underlying h]
theorem Aaz.nilOf {P : Program} (w : World) (t e : TypeId) (a : Option Addr) (l c : Nat) (h : P.underlying t = some (.slice e)) : (binOp .eql t (.slice a l c) (.slice none 0 0)).run P w = .ok (.bool a.isNone) w:=by
 have h1 : (Op.equal t (.slice a l c) (.slice none 0 0)).run P w = .ok a.isNone w:=Aaz.nilAt w 9999 t e a l c h;simp [binOp,h1]
theorem Aaz.nil (w : World) (a : Option Addr) (l c : Nat) : (binOp .eql 24 (.slice a l c) (.slice none 0 0)).run Tryd.prog w = .ok (.bool a.isNone) w:=Aaz.nilOf w _ _ a l c Tryd.underlying24
attribute [local go_sem] Aaz.nil
def Aaz.f (l0 : List Int) : Option (List Int) := (some (([] : List Int) : List Int)).bind fun y478 => (if y478.length + l0.length < 17592186044416 then (some (y478 ++ l0)) else (none))
set_option maxHeartbeats 8000000 in
set_option maxRecDepth 100000 in
theorem Aaz.calls (A0 : Option Addr) (c0 : Nat) (l0 : List Int) (r : List Int) (w : World) (hr0 : Kd.C (Kd.int .i64) w A0 l0.length l0) (hc0 : l0.length ≤ c0) (h : Aaz.f l0 = some r) :
 Calls Tryd.prog 100 #[.slice A0 l0.length c0] w fun e w'=>∃ v0_ : Value,e = .returned (v0_) ∧ Kd.R (Kd.int .i64) 3 w' w.heap.size (fun _=>True) v0_ r ∧ Below w.heap.size w w':=by
 cases A0 with
 | none =>
  have hl : l0 = []:=by
   have h2:=hr0.2.2;by_cases h3 : 0 < l0.length
   ·obtain ⟨ad,e,_⟩:=h2 h3;cases e
   ·exact List.eq_nil_of_length_eq_zero (by omega)
  subst hl;have hr : r = []:=by
   have H : some ([] ++ [] : List Int) = some r:=h;exact (Option.some.inj H).symm
  subst hr;go_enter Tryd.func100,Tryd.ntmps100
  go_wp2
  go_ret
  exact ⟨_,rfl,Kd.R_nil _ _ _ _ _,by repeat (first|exact Below.refl _ _|apply below_drew|apply pw_below_drewN)⟩
 | some A0 =>
  have HR0:=A_ hr0;have HC0:=A_ hc0;clear hr0 hc0;have HB:=A_ (Below.refl w.heap.size w);have H : ((some (([] : List Int) : List Int)).bind fun Aa=>(if Aa.length + l0.length < 17592186044416 then (some (Aa ++ l0)) else (none))) = some r:=h;clear h;obtain ⟨Aa,Ab⟩ : ∃ y_ : List Int,y_ = (([] : List Int)):=⟨_,rfl⟩;replace H : (if Aa.length + l0.length < 17592186044416 then (some (Aa ++ l0)) else (none)) = some r:=by first|(rw [Ab];with_reducible exact H)|(have H2_:=(Option.bind_some _ _).symm.trans H;rw [Ab];with_reducible exact H2_)|(have H2_:=(Option.bind_some _ _).symm.trans H;with_reducible exact H2_)|with_reducible exact H|(rw [Ab];exact H)|exact H
  have Ad:=A_ Ab;clear Ab;by_cases c2 : Aa.length + l0.length < 17592186044416
  ·rw [if_pos c2] at H;have LMc2:=A_ c2;clear c2;obtain ⟨Ah,Ac⟩ : ∃ y_ : List Int,y_ = (Aa ++ l0):=⟨_,rfl⟩;replace H : (some Ah) = some r:=by first|(rw [Ac];with_reducible exact H)|(have H2_:=(Option.bind_some _ _).symm.trans H;rw [Ac];with_reducible exact H2_)|(have H2_:=(Option.bind_some _ _).symm.trans H;with_reducible exact H2_)|with_reducible exact H|(rw [Ac];exact H)|exact H
   have Af:=A_ Ac;clear Ac;obtain rfl:=Option.some.inj H;go_enter Tryd.func100,Tryd.ntmps100
   go_wp2_with (first|((with_reducible refine gate_dst (N:=5) rfl ?_);refine Kd.R_lit (Kd.int .i64) _ 3 ?hg (N:=5) ?hd (xs:=([] : List Int)) (inner:=[]) (ok:=fun _=>True) (okp:=fun _=>True) ?hr ?hp (fun _ hk=>hk) trivial (Below.refl _ _) (Nat.le_refl _) (by simp) ?_;(case hd=>rfl);(case hg=>rfl);(case hr=>go_simp;try rfl);(case hp=>exact (Reps.none _ _));intro Ai w3 ho4 hb hg_ hnew_;clear hg_ hnew_;(first|rw [← Ad.1] at ho4|(simp only [Int.reduceToNat] at ho4;rw [← Ad.1] at ho4));have Ae:=A_ (Kd.R_lower ho4 (below_size bb_));replace HB:=A_ (below_step bb_ hb);clear hb ho4)|((with_reducible refine gate_builtin (b:=.append) (xs:=#[.tmp 5,.tmp 6]) rfl ?_);at_builtin;refine Kd.R_append_rows (Kd.int .i64) (w0:=w) w.heap.size rfl (.tmp 5) (.tmp 6) 24 3 (.int .i64 0) 8 rfl Tryd.underlying24 info3 rfl (by decide) (by omega) Ai Aa l0 _ _ _ (fun _=>True) (fun _=>False) rfl rfl ?aO ?aR (fun _ _ h=>h) (fun _ h=>h.elim) ?aF ?aB ?aS ?aL ?_;(case aR=>exact cl_ (Kd.C_below HR0.1 HB.1));(case aB=>exact bb_);(case aF=>exact (fun _ _=>trivial));(case aO=>exact (rl_ Ae));(case aS=>exact (below_size bb_));(case aL=>have:=LMc2.1;omega);intro Aj w5 ho hb hg hat;rw [← Af.1] at ho;replace HB:=A_ (hb);have Ag:=A_ (ho);clear Ae;clear ho hb hg hat))
   go_ret
   exact ⟨_,by first|rfl|(simp [errW_none,errW_some] <;> rfl)|(simp [*,errW_none,errW_some] <;> rfl),rl_ Ag,bb_⟩
  ·rw [if_neg c2] at H;exact absurd H (by simp)
def Aai.l0 : Nat → List Int → Int → Int → Int → Option (Int)
 | 0,_,_,_,_=>none
 | k + 1,x0,x1,x7,x8=>if x8 < x7 then (if 0 ≤ x8 then (if x8 < (x0.length : Int) then (if x1 = (rd x0 x8) then (some x8) else (Aai.l0 k x0 x1 x7 (wrap64 (x8 + 1)))) else (none)) else (none)) else (some (-1))
def Aai.f (k : Nat) (l0 : List Int) (a1 : Int) : Option (Int) := Aai.l0 k l0 a1 (l0.length : Int) 0
theorem Aai.mono_l : ∀ k,(∀ y0 y1 y2 y3,LeO (Aai.l0 k y0 y1 y2 y3) (Aai.l0 (k + 1) y0 y1 y2 y3))
 | 0=>fun _ _ _ _ r h=>by simp [Aai.l0] at h
 | k + 1=>by
  have ih0:=Aai.mono_l k
  ·intro y0 y1 y2 y3
   unfold Aai.l0
   repeat' first
   | (with_reducible exact ih0 _ _ _ _)
   | (with_reducible exact LeO.refl _)
   | (with_reducible exact LeO.none _)
   | (with_reducible refine LeO.ite ?_ ?_)
   | (with_reducible refine LeO.bind ?_ (fun _=>?_))
   | exact ih0 _ _ _ _
   | exact LeO.none _
   | refine LeO.ite ?_ ?_
   | refine LeO.bind ?_ (fun _=>?_)
theorem Aai.mono : ∀ a0 a1 k,LeO (Aai.f k a0 a1) (Aai.f (k + 1) a0 a1):=by
 intro a0 a1 k
 have ih0:=Aai.mono_l k;unfold Aai.f
 repeat' first
  | (with_reducible exact ih0 _ _ _ _)
  | (with_reducible exact LeO.refl _)
  | (with_reducible exact LeO.none _)
  | (with_reducible refine LeO.ite ?_ ?_)
  | (with_reducible refine LeO.bind ?_ (fun _ => ?_))
  | exact ih0 _ _ _ _
  | exact LeO.none _
  | refine LeO.ite ?_ ?_
  | refine LeO.bind ?_ (fun _ => ?_)
set_option maxHeartbeats 8000000 in
set_option maxRecDepth 100000 in
theorem Aai.calls (k : Nat) (A0 : Option Addr) (c0 : Nat) (l0 : List Int) (a1 : Int) (r : Int) (w : World) (hr0 : Kd.C (Kd.int .i64) w A0 l0.length l0) (hc0 : l0.length ≤ c0) (h : Aai.f k l0 a1 = some r) :
 Calls Tryd.prog 149 #[.slice A0 l0.length c0,.int .i64 a1] w fun e w'=>e = .returned (.int .i64 r) ∧ Drawn0 w w':=by
 have HR0:=A_ hr0;have HC0:=A_ hc0;clear hr0 hc0;have H : (Aai.l0 k l0 a1 (l0.length : Int) 0) = some r:=h;clear h;have H':=A_ H;clear H;go_enter Tryd.func149,Tryd.ntmps149
 go_wp2
 go_loopg [8] k (fun kq v8 w'=>∃ (x8_1 : Int),v8 = .int .i64 x8_1 ∧ Aside0 (Aai.l0 kq l0 a1 (l0.length : Int) x8_1 = some r) ∧ Aside0 (kq ≤ k) ∧ Drawn0 w w')
 case atStart=>exact ⟨(0),(by first|rfl|(simp;done)|(simp [*];done)),H',⟨Nat.le_refl _⟩,by repeat (first|exact Drawn0.refl _|apply Drawn0.step)⟩
 case round =>
  clear H';try clear c1
  try clear p2
  obtain ⟨x8_1,rfl,HA,HK1,⟨m1,rfl⟩⟩:=hrel;cases gk with
  | zero => exact absurd HA.1 (by simp [Aai.l0])
  | succ k1 =>
   have H:=HA.1;clear HA;simp only [Aai.l0] at H
   by_cases c3 : x8_1 < (l0.length : Int)
   ·rw [if_pos c3] at H;have c3b0 : decide (x8_1 < (l0.length : Int)) = true:=decide_eq_true c3;clear c3;by_cases c4 : 0 ≤ x8_1
    ·rw [if_pos c4] at H;have c4b0 : decide (0 ≤ x8_1) = true:=decide_eq_true c4;clear c4;by_cases c5 : x8_1 < (l0.length : Int)
     ·rw [if_pos c5] at H;have c5b0 : decide (x8_1 < (l0.length : Int)) = true:=decide_eq_true c5;clear c5;by_cases c6 : a1 = (rd l0 x8_1)
      ·rw [if_pos c6] at H;have c6b0 : (a1 == (rd l0 x8_1)) = true:=beq_iff_eq.mpr c6;have c6b1 : (a1 != (rd l0 x8_1)) = false:=bne_eq_false_iff_eq.mpr c6;clear c6;obtain rfl:=Option.some.inj H;have Aa : 0 ≤ (x8_1 : Int):=of_decide_eq_true (by first|(with_reducible assumption)|assumption);have Ab : x8_1 < (l0.length : Int):=of_decide_eq_true (by first|(with_reducible assumption)|assumption);obtain ⟨Ae,Ac,Ad⟩:=Kd.at_int HR0.1 x8_1 Aa Ab;cases Ac
       replace Aa:=eq_true Aa;replace Ab:=eq_true Ab;go_wp2
       go_ret
       exact ⟨by first|rfl|(simp;done)|(simp [*];done),by repeat (first|exact Drawn0.refl _|apply Drawn0.step)⟩
      ·rw [if_neg c6] at H;have c6b0 : (a1 == (rd l0 x8_1)) = false:=beq_eq_false_iff_ne.mpr c6;have c6b1 : (a1 != (rd l0 x8_1)) = true:=bne_iff_ne.mpr c6;have H':=A_ H;clear H;have Aa : 0 ≤ (x8_1 : Int):=of_decide_eq_true (by first|(with_reducible assumption)|assumption);have Ab : x8_1 < (l0.length : Int):=of_decide_eq_true (by first|(with_reducible assumption)|assumption);obtain ⟨Ae,Ac,Ad⟩:=Kd.at_int HR0.1 x8_1 Aa Ab;cases Ac
       replace Aa:=eq_true Aa;replace Ab:=eq_true Ab;go_wp2
       go_roundg k1
       case measure=>have:=HK1.1;omega
       case rel=>exact ⟨(wrap64 (x8_1 + 1)),(by first|rfl|(simp;done)|(simp [*];done)),H',⟨by have:=HK1.1;omega⟩,by repeat (first|exact Drawn0.refl _|apply Drawn0.step)⟩
     ·rw [if_neg c5] at H;exact absurd H (by simp)
    ·rw [if_neg c4] at H;exact absurd H (by simp)
   ·rw [if_neg c3] at H;have c3b0 : decide (x8_1 < (l0.length : Int)) = false:=decide_eq_false c3;clear c3;obtain rfl:=Option.some.inj H;go_wp2
    go_ret
    exact ⟨by first|rfl|(simp;done)|(simp [*];done),by repeat (first|exact Drawn0.refl _|apply Drawn0.step)⟩
def Aas.f (k : Nat) (l0 : List Int) (a1 : Int) : Option (Bool) := (Aai.f k l0 a1).bind fun t578 => (some (decide (t578 ≥ 0)))
theorem Aas.mono : ∀ a0 a1 k,LeO (Aas.f k a0 a1) (Aas.f (k + 1) a0 a1):=by
 intro a0 a1 k
 unfold Aas.f
 repeat' first
  | (with_reducible exact Aai.mono _ _ _)
  | (with_reducible exact LeO.refl _)
  | (with_reducible exact LeO.none _)
  | (with_reducible refine LeO.ite ?_ ?_)
  | (with_reducible refine LeO.bind ?_ (fun _ => ?_))
  | exact Aai.mono _ _ _
  | exact LeO.none _
  | refine LeO.ite ?_ ?_
  | refine LeO.bind ?_ (fun _ => ?_)
set_option maxHeartbeats 8000000 in
set_option maxRecDepth 100000 in
theorem Aas.calls (k : Nat) (A0 : Option Addr) (c0 : Nat) (l0 : List Int) (a1 : Int) (r : Bool) (w : World) (hr0 : Kd.C (Kd.int .i64) w A0 l0.length l0) (hc0 : l0.length ≤ c0) (h : Aas.f k l0 a1 = some r) :
 Calls Tryd.prog 129 #[.slice A0 l0.length c0,.int .i64 a1] w fun e w'=>e = .returned (.bool r) ∧ Drawn0 w w':=by
 have HR0:=A_ hr0;have HC0:=A_ hc0;clear hr0 hc0;have H : ((Aai.f k l0 a1).bind fun Aa=>(some (decide (Aa ≥ 0)))) = some r:=h;clear h;replace H:=Option.bind_eq_some_iff.mp H;obtain ⟨Aa,A30,H⟩:=H;(try dsimp only at H);have A3:=A_ A30;clear A30;obtain rfl:=Option.some.inj H;go_enter Tryd.func129,Tryd.ntmps129
 go_wp2_with (first|((with_reducible refine gate_callee (f:=149) rfl ?_);refine goesL_ (some 7) rfl rfl Tryd.func149 (by kernel_rfl) rfl #[.slice A0 l0.length c0,.int .i64 a1] rfl au_ ?_;(with_reducible refine (Aai.calls k _ _ l0 a1 Aa _ ?side1 ?side2 A3.1).mono ?_);(case side1=>repeat (first|exact HR0.1|(with_reducible refine Kd.C_alloc ?_ _)|(with_reducible refine Kd.C_drewN ?_ _)|(with_reducible refine Kd.C_drew ?_)));(case side2=>exact HC0.1);rintro e w' ⟨rfl,⟨nd,rfl⟩⟩;refine ⟨_,rfl,?_⟩))
 go_ret
 exact ⟨by first|rfl|(simp;done)|(simp [*];done),by repeat (first|exact Drawn0.refl _|apply Drawn0.step)⟩
mutual
def Aab.l0 (is : List Int → Option (List Int)) : Nat → List Int → Int → Int → Int → Int → List Int → Int → List Int → Option (List Int)
 | 0,_,_,_,_,_,_,_,_=>none
 | k + 1,x0,x6,x20,x21,x538000,x538001,x539000,x539001=>if x21 < x20 then ((Aas.f k x0 x21).bind fun t540=>(if t540 = true then (Aab.j1 is k x0 x6 x21 false x20 x21 x538000 x538001 x539000 x539001) else ((Aau.f x539000 x539001 x21 x21).bind fun t541=>((Aau.f x538000 x538001 x6 x6).bind fun t542=>(Aab.j1 is k x0 x6 x21 (t541 == t542) x20 x21 x538000 x538001 x539000 x539001))))) else (some ([] : List Int))
def Aab.j1 (is : List Int → Option (List Int)) : Nat → List Int → Int → Int → Bool → Int → Int → Int → List Int → Int → List Int → Option (List Int)
 | 0,_,_,_,_,_,_,_,_,_,_=>none
 | k + 1,x0,x6,x7,x8,x20,x21,x538000,x538001,x539000,x539001=>Aab.l1 is k x0 x6 x7 x8 x20 x21 x0 (x0.length : Int) 0 x538000 x538001 x539000 x539001
def Aab.l1 (is : List Int → Option (List Int)) : Nat → List Int → Int → Int → Bool → Int → Int → List Int → Int → Int → Int → List Int → Int → List Int → Option (List Int)
 | 0,_,_,_,_,_,_,_,_,_,_,_,_,_=>none
 | k + 1,x0,x6,x7,x8,x20,x21,x39,x40,x41,x538000,x538001,x539000,x539001=>if x41 < x40 then (if 0 ≤ x41 then (if x41 < (x39.length : Int) then (if x8 = true then ((Aau.f x539000 x539001 x7 (rd x39 x41)).bind fun t544=>((Aau.f x538000 x538001 x6 x41).bind fun t545=>(if (t544 == t545) = true then ((Aau.f x539000 x539001 (rd x39 x41) x7).bind fun t546=>((Aau.f x538000 x538001 x41 x6).bind fun t547=>(Aab.l1 is k x0 x6 x7 (t546 == t547) x20 x21 x39 x40 (wrap64 (x41 + 1)) x538000 x538001 x539000 x539001))) else (Aab.l1 is k x0 x6 x7 false x20 x21 x39 x40 (wrap64 (x41 + 1)) x538000 x538001 x539000 x539001)))) else (Aab.l1 is k x0 x6 x7 false x20 x21 x39 x40 (wrap64 (x41 + 1)) x538000 x538001 x539000 x539001)) else (none)) else (none)) else (if x8 = true then ((Aaz.f x0).bind fun t548=>((some (([x7] : List Int) : List Int)).bind fun y551=>(if t548.length + y551.length < 17592186044416 then ((is (t548 ++ y551)).bind fun t557=>(if t557 = ([] : List Int) then (Aab.l0 is k x0 x6 x20 (wrap64 (x21 + 1)) x538000 x538001 x539000 x539001) else (some t557))) else (none)))) else (Aab.l0 is k x0 x6 x20 (wrap64 (x21 + 1)) x538000 x538001 x539000 x539001))
end
def Aab.g (is : List Int → Option (List Int)) (k : Nat) (l0 : List Int) (a1_0 : Int) (l1_1 : List Int) (a2_0 : Int) (l2_1 : List Int) (a3_0 : Int) : Option (List Int) := if (l0.length : Int) = a1_0 then (some l0) else (Aab.l0 is k l0 (l0.length : Int) a2_0 0 a1_0 l1_1 a2_0 l2_1)
theorem Aab.mono_l {is is' : List Int → Option (List Int)} (hi : ∀ x,LeO (is x) (is' x)) : ∀ k,(∀ y0 y1 y2 y3 y4 y5 y6 y7,LeO (Aab.l0 is k y0 y1 y2 y3 y4 y5 y6 y7) (Aab.l0 is' (k + 1) y0 y1 y2 y3 y4 y5 y6 y7)) ∧ (∀ y0 y1 y2 y3 y4 y5 y6 y7 y8 y9,LeO (Aab.j1 is k y0 y1 y2 y3 y4 y5 y6 y7 y8 y9) (Aab.j1 is' (k + 1) y0 y1 y2 y3 y4 y5 y6 y7 y8 y9)) ∧ (∀ y0 y1 y2 y3 y4 y5 y6 y7 y8 y9 y10 y11 y12,LeO (Aab.l1 is k y0 y1 y2 y3 y4 y5 y6 y7 y8 y9 y10 y11 y12) (Aab.l1 is' (k + 1) y0 y1 y2 y3 y4 y5 y6 y7 y8 y9 y10 y11 y12))
 | 0=>⟨fun _ _ _ _ _ _ _ _ r h=>by simp [Aab.l0] at h,fun _ _ _ _ _ _ _ _ _ _ r h=>by simp [Aab.j1] at h,fun _ _ _ _ _ _ _ _ _ _ _ _ _ r h=>by simp [Aab.l1] at h⟩
 | k + 1=>by
  obtain ⟨ih0,ih1,ih2⟩:=Aab.mono_l hi k;refine ⟨?_,?_,?_⟩
  ·intro y0 y1 y2 y3 y4 y5 y6 y7
   unfold Aab.l0
   repeat' first
   | (with_reducible exact hi _)
   | (with_reducible exact ih0 _ _ _ _ _ _ _ _)
   | (with_reducible exact ih1 _ _ _ _ _ _ _ _ _ _)
   | (with_reducible exact ih2 _ _ _ _ _ _ _ _ _ _ _ _ _)
   | (with_reducible exact Aas.mono _ _ _)
   | (with_reducible exact LeO.refl _)
   | (with_reducible exact LeO.none _)
   | (with_reducible refine LeO.ite ?_ ?_)
   | (with_reducible refine LeO.bind ?_ (fun _=>?_))
   | exact ih0 _ _ _ _ _ _ _ _
   | exact ih1 _ _ _ _ _ _ _ _ _ _
   | exact ih2 _ _ _ _ _ _ _ _ _ _ _ _ _
   | exact Aas.mono _ _ _
   | exact LeO.none _
   | refine LeO.ite ?_ ?_
   | refine LeO.bind ?_ (fun _=>?_)
  ·intro y0 y1 y2 y3 y4 y5 y6 y7 y8 y9
   unfold Aab.j1
   repeat' first
   | (with_reducible exact hi _)
   | (with_reducible exact ih0 _ _ _ _ _ _ _ _)
   | (with_reducible exact ih1 _ _ _ _ _ _ _ _ _ _)
   | (with_reducible exact ih2 _ _ _ _ _ _ _ _ _ _ _ _ _)
   | (with_reducible exact Aas.mono _ _ _)
   | (with_reducible exact LeO.refl _)
   | (with_reducible exact LeO.none _)
   | (with_reducible refine LeO.ite ?_ ?_)
   | (with_reducible refine LeO.bind ?_ (fun _=>?_))
   | exact ih0 _ _ _ _ _ _ _ _
   | exact ih1 _ _ _ _ _ _ _ _ _ _
   | exact ih2 _ _ _ _ _ _ _ _ _ _ _ _ _
   | exact Aas.mono _ _ _
   | exact LeO.none _
   | refine LeO.ite ?_ ?_
   | refine LeO.bind ?_ (fun _=>?_)
  ·intro y0 y1 y2 y3 y4 y5 y6 y7 y8 y9 y10 y11 y12
   unfold Aab.l1
   repeat' first
   | (with_reducible exact hi _)
   | (with_reducible exact ih0 _ _ _ _ _ _ _ _)
   | (with_reducible exact ih1 _ _ _ _ _ _ _ _ _ _)
   | (with_reducible exact ih2 _ _ _ _ _ _ _ _ _ _ _ _ _)
   | (with_reducible exact Aas.mono _ _ _)
   | (with_reducible exact LeO.refl _)
   | (with_reducible exact LeO.none _)
   | (with_reducible refine LeO.ite ?_ ?_)
   | (with_reducible refine LeO.bind ?_ (fun _=>?_))
   | exact ih0 _ _ _ _ _ _ _ _
   | exact ih1 _ _ _ _ _ _ _ _ _ _
   | exact ih2 _ _ _ _ _ _ _ _ _ _ _ _ _
   | exact Aas.mono _ _ _
   | exact LeO.none _
   | refine LeO.ite ?_ ?_
   | refine LeO.bind ?_ (fun _=>?_)
theorem Aab.mono2 {is is' : List Int → Option (List Int)} (hi : ∀ x,LeO (is x) (is' x)) : ∀ a0 a1 a2 a3 a4 a5 k,LeO (Aab.g is k a0 a1 a2 a3 a4 a5) (Aab.g is' (k + 1) a0 a1 a2 a3 a4 a5):=by
 intro a0 a1 a2 a3 a4 a5 k
 obtain ⟨ih0,ih1,ih2⟩:=Aab.mono_l hi k;unfold Aab.g
 repeat' first
  | (with_reducible exact hi _)
  | (with_reducible exact ih0 _ _ _ _ _ _ _ _)
  | (with_reducible exact ih1 _ _ _ _ _ _ _ _ _ _)
  | (with_reducible exact ih2 _ _ _ _ _ _ _ _ _ _ _ _ _)
  | (with_reducible exact Aas.mono _ _ _)
  | (with_reducible exact LeO.refl _)
  | (with_reducible exact LeO.none _)
  | (with_reducible refine LeO.ite ?_ ?_)
  | (with_reducible refine LeO.bind ?_ (fun _ => ?_))
  | exact ih0 _ _ _ _ _ _ _ _
  | exact ih1 _ _ _ _ _ _ _ _ _ _
  | exact ih2 _ _ _ _ _ _ _ _ _ _ _ _ _
  | exact Aas.mono _ _ _
  | exact LeO.none _
  | refine LeO.ite ?_ ?_
  | refine LeO.bind ?_ (fun _ => ?_)
theorem Aab.nilAt {P : Program} (w : World) (d : Nat) (t e : TypeId) (a : Option Addr) (l c : Nat) (h : P.underlying t = some (.slice e)) : (Op.equalIn (d + 1) t (.slice a l c) (.slice none 0 0)).run P w = .ok a.isNone w:=by
 cases a <;> simp [Op.equalIn,run_underlying h]
theorem Aab.nilNo {P : Program} (w : World) (t e : TypeId) (a : Option Addr) (l c : Nat) (h : P.underlying t = some (.slice e)) : (binOp .neq t (.slice a l c) (.slice none 0 0)).run P w = .ok (.bool (!a.isNone)) w:=by
 have h1 : (Op.equal t (.slice a l c) (.slice none 0 0)).run P w = .ok a.isNone w:=Aab.nilAt w 9999 t e a l c h;simp [binOp,h1]
theorem Aab.nilN (w : World) (a : Option Addr) (l c : Nat) : (binOp .neq 24 (.slice a l c) (.slice none 0 0)).run Tryd.prog w = .ok (.bool (!a.isNone)) w:=Aab.nilNo w _ _ a l c Tryd.underlying24
theorem Aab.nilFact {w : World} {base e : Nat} {ok : Nat → Prop} {A : Option Addr} {n c : Nat} {xs : List Int} (h : Kd.R (Kd.int .i64) e w base ok (.slice A n c) xs) (hz : xs = [] → (.slice A n c : Value) = .slice none 0 0) : A.isNone = (xs == ([] : List Int)):=by
 by_cases hx : xs = []
 ·have:=hz hx;injection this with h1;rw [h1,hx];rfl
 ·obtain ⟨hn,_,hC⟩:=Kd.R_reads' h;have hpos : 0 < xs.length:=List.length_pos_iff.2 hx;obtain ⟨ad,e1,_⟩:=hC.2.2 hpos;rw [e1];cases xs with
  | nil => exact absurd rfl hx
  | cons x l => rfl
attribute [local go_sem] Aab.nilN
def Aab.T7 : Bool × List (List Nat × List Nat) := (true, [([], []), ([], []), ([0, 1], [0, 1]), ([2], [2]), ([3, 2], [3]), ([4], [4]), ([4], [4]), ([4], [4]), ([5, 6, 7, 4, 4], [4, 5, 6, 7]), ([4], [4]), ([4], [4]), ([4], [4]), ([9, 10, 11, 8, 4], [4, 9, 10, 11]), ([8, 12, 4], [4, 8, 12]), ([4, 13], [4, 13]), ([14, 12, 0, 1, 2, 3, 4, 5, 6, 7, 8, 9, 10, 11, 12, 13, 14], [14])])
def Aab.B7 : List Nat := [0, 0, 3, 7, 15, 31, 31, 31, 255, 31, 31, 31, 4095, 8191, 16383, 32767]
theorem Aab.tab7 : rtab .any (opsOf Tryd.f128 7) = Aab.T7:=by kernel_rfl
theorem Aab.bits7 : waitsOk Aab.T7.2 Aab.B7 = true:=by kernel_rfl
def Aab.T11 : Bool × List (List Nat × List Nat) := (true, [([], []), ([0], [0]), ([1], [1]), ([1], [1]), ([1], [1]), ([2, 3, 4, 1, 1], [1, 2, 3, 4]), ([1], [1]), ([1], [1]), ([1], [1]), ([6, 7, 8, 5, 1], [1, 6, 7, 8]), ([5, 9, 1], [1, 5, 9]), ([1, 10], [1, 10]), ([11, 9], [11]), ([12], [12]), ([12], [12]), ([12], [12]), ([13, 14, 15, 12, 12], [12, 13, 14, 15]), ([12], [12]), ([12], [12]), ([12], [12]), ([17, 18, 19, 16, 12], [12, 17, 18, 19]), ([16, 20, 12], [12, 16, 20]), ([12, 21], [12, 21]), ([22, 20, 0, 1, 2, 3, 4, 5, 6, 7, 8, 9, 10, 11, 12, 13, 14, 15, 16, 17, 18, 19, 20, 21, 22], [0, 22])])
def Aab.B11 : List Nat := [0, 1, 3, 3, 3, 31, 3, 3, 3, 511, 1023, 2047, 4095, 8191, 8191, 8191, 65535, 8191, 8191, 8191, 1048575, 2097151, 4194303, 8388607]
theorem Aab.tab11 : rtab .any (opsOf Tryd.f128 11) = Aab.T11:=by kernel_rfl
theorem Aab.bits11 : waitsOk Aab.T11.2 Aab.B11 = true:=by kernel_rfl
def Aab.T14 : Bool × List (List Nat × List Nat) := (true, [([], []), ([], []), ([1], [1]), ([], []), ([3], [3]), ([2, 4, 2], [2, 4]), ([0, 5, 5], [0, 5]), ([6, 6, 0, 1, 2, 3, 4, 5, 6], [6])])
def Aab.B14 : List Nat := [0, 0, 2, 0, 8, 30, 63, 127]
theorem Aab.tab14 : rtab .any (opsOf Tryd.f128 14) = Aab.T14:=by kernel_rfl
theorem Aab.bits14 : waitsOk Aab.T14.2 Aab.B14 = true:=by kernel_rfl
set_option maxHeartbeats 8000000 in
set_option maxRecDepth 100000 in
theorem Aab.calls0 (k : Nat) (is : List Int → Option (List Int)) (A0 : Option Addr) (c0 : Nat) (l0 : List Int) (g1_ : Nat) (a1_0 : Int) (A1_1 : Option Addr) (c1_1 : Nat) (l1_1 : List Int) (g2_ : Nat) (a2_0 : Int) (A2_1 : Option Addr) (c2_1 : Nat) (l2_1 : List Int) (g3_ : Nat) (a3_0 : Int) (bs : Nat) (r : List Int) (w : World) (hbs : bs ≤ w.heap.size) (ho : Kd.R (Kd.int .i64) 3 w bs (fun _=>True) (.slice A0 l0.length c0) l0) (hb1 : w.heap[g1_]? = some (.cells #[.int .i64 a1_0,.slice A1_1 l1_1.length c1_1] 26 (0,0))) (hr1_1 : Kd.C (Kd.int .i64) w A1_1 l1_1.length l1_1) (hc1_1 : l1_1.length ≤ c1_1) (hb2 : w.heap[g2_]? = some (.cells #[.int .i64 a2_0,.slice A2_1 l2_1.length c2_1] 26 (0,0))) (hr2_1 : Kd.C (Kd.int .i64) w A2_1 l2_1.length l2_1) (hc2_1 : l2_1.length ≤ c2_1) (hb3 : w.heap[g3_]? = some (.cells #[.func (.func 128) #[] #[.pointer (some ⟨g1_,0,none⟩),.pointer (some ⟨g2_,0,none⟩),.pointer (some ⟨g3_,0,none⟩)]] 35 (0,0))) (hn1_2 : g1_ ≠ g2_) (hn1_3 : g1_ ≠ g3_) (hn2_3 : g2_ ≠ g3_) (hI : ∀ (W : World) (A : Option Addr) (c b : Nat) (z s : List Int),Below w.heap.size w W → b ≤ W.heap.size → Kd.R (Kd.int .i64) 3 W b (fun _=>True) (.slice A z.length c) z → is z = some s → Calls Tryd.prog 128 #[.slice A z.length c,.pointer (some ⟨g1_,0,none⟩),.pointer (some ⟨g2_,0,none⟩),.pointer (some ⟨g3_,0,none⟩)] W fun e W'=>∃ v0_ : Value,e = .returned v0_ ∧ Kd.R (Kd.int .i64) 3 W' b (fun _=>True) v0_ s ∧ Below W.heap.size W W' ∧ (z ≠ [] → s = [] → v0_ = .slice none 0 0)) (h : Aab.g is k l0 a1_0 l1_1 a2_0 l2_1 a3_0 = some r) :
 Calls Tryd.prog 128 #[.slice A0 l0.length c0,.pointer (some ⟨g1_,0,none⟩),.pointer (some ⟨g2_,0,none⟩),.pointer (some ⟨g3_,0,none⟩)] w fun e w'=>∃ v0_ : Value,e = .returned v0_ ∧ Kd.R (Kd.int .i64) 3 w' bs (fun _=>True) v0_ r ∧ Below w.heap.size w w' ∧ (l0 ≠ [] ∨ a1_0 ≠ 0 → r = [] → v0_ = .slice none 0 0) ∧ ((l0.length : Int) = a1_0 → v0_ = .slice A0 l0.length c0):=by
 have hr0:=(Kd.R_reads' ho).2.2;have hc0:=(Kd.R_reads' ho).2.1;have HOWN:=A_ ho;have HBS:=A_ hbs;have HI:=A_ hI;clear ho hbs hI;have hu28:=Tryd.underlying26;have HR0:=A_ hr0;have HC0:=A_ hc0;clear hr0 hc0;have HR1_1:=A_ hr1_1;have HC1_1:=A_ hc1_1;clear hr1_1 hc1_1;have HR2_1:=A_ hr2_1;have HC2_1:=A_ hc2_1;clear hr2_1 hc2_1;have Aa:=A_ hb1;clear hb1;have Ab:=A_ hb2;clear hb2;have Ac:=A_ hb3;clear hb3;have Av:=A_ hn1_2;have Aw:=A_ (Ne.symm hn1_2);clear hn1_2;have Ax:=A_ hn1_3;have Ay:=A_ (Ne.symm hn1_3);clear hn1_3;have Ba:=A_ hn2_3;have Bb:=A_ (Ne.symm hn2_3);clear hn2_3;have HB:=A_ (Below.refl w.heap.size w);have H : (if (l0.length : Int) = a1_0 then (some l0) else (Aab.l0 is k l0 (l0.length : Int) a2_0 0 a1_0 l1_1 a2_0 l2_1)) = some r:=h;clear h;by_cases c5 : (l0.length : Int) = a1_0
 ·have HC5_:=A_ c5;rw [if_pos c5] at H;have c5b0 : ((l0.length : Int) == a1_0) = true:=beq_iff_eq.mpr c5;have c5b1 : ((l0.length : Int) != a1_0) = false:=bne_eq_false_iff_eq.mpr c5;clear c5;obtain rfl:=Option.some.inj H;have Z:=Av.1;have Z:=Aw.1;have Z:=Ax.1;have Z:=Ay.1;obtain ⟨Z,Z,Z,Z⟩:=o2_ Aa.1;go_enter Tryd.func128,Tryd.ntmps128
  go_wp2
  go_ret
  exact ⟨_,rfl,rl_ HOWN,bb_,by
   rintro h1_ h2_
   rcases h1_ with h1_|h1_
   ·exact absurd h2_ h1_
   ·rw [h2_] at HC5_;exact absurd HC5_.1.symm h1_,fun _=>rfl⟩
 ·have HC5_:=A_ c5;rw [if_neg c5] at H;have c5b0 : ((l0.length : Int) == a1_0) = false:=beq_eq_false_iff_ne.mpr c5;have c5b1 : ((l0.length : Int) != a1_0) = true:=bne_iff_ne.mpr c5;have H':=A_ H;clear H;have Z:=Av.1;have Z:=Aw.1;have Z:=Ax.1;have Z:=Ay.1;obtain ⟨Z,Z,Z,Z⟩:=o2_ Aa.1;have Z:=Ba.1;have Z:=Bb.1;obtain ⟨Z,Z,Z,Z⟩:=o2_ Ab.1;go_enter Tryd.func128,Tryd.ntmps128
  go_wp2
  go_loopg [21] k (fun kq v21 w'=>∃ (x21_1 : Int),v21 = .int .i64 x21_1 ∧ Aside0 (Aab.l0 is kq l0 (l0.length : Int) a2_0 x21_1 a1_0 l1_1 a2_0 l2_1 = some r) ∧ Aside0 (kq ≤ k) ∧ Aside0 (w'.heap[g1_]? = some (.cells #[.int .i64 a1_0,(.slice A1_1 l1_1.length c1_1)] 26 (0,0))) ∧ Aside0 (w'.heap[g2_]? = some (.cells #[.int .i64 a2_0,(.slice A2_1 l2_1.length c2_1)] 26 (0,0))) ∧ Aside0 (w'.heap[g3_]? = some (.cells #[.func (.func 128) #[] #[.pointer (some ⟨g1_,0,none⟩),.pointer (some ⟨g2_,0,none⟩),.pointer (some ⟨g3_,0,none⟩)]] 35 (0,0))) ∧ Aside0 (Below w.heap.size w w'))
  case atStart=>exact ⟨(0),(by first|rfl|(simp;done)|(simp [*];done)),H',⟨Nat.le_refl _⟩,⟨bl_ Aa⟩,⟨bl_ Ab⟩,⟨bl_ Ac⟩,⟨bb_⟩⟩
  case round =>
   clear H';try clear c1
   try clear c2
   try clear p2
   try clear c5
   try clear c5b0
   try clear c5b1
   try clear c6
   try clear c7
   try clear c9
   try clear c10
   try clear c12
   repeat clear Z
   obtain ⟨x21_1,rfl,HA,HK1,Aa,Ab,Ac,HB⟩:=hrel;cases gk with
   | zero=>exact absurd HA.1 (by simp [Aab.l0])
   | succ k1 =>
    have H:=HA.1;clear HA;simp only [Aab.l0] at H
    by_cases c14 : x21_1 < a2_0
    ·rw [if_pos c14] at H;have c14b0 : decide (x21_1 < a2_0) = true:=decide_eq_true c14;clear c14;have HC15:=A_ H;clear H;go_upto_region 7 with (fail)
     go_cut [8] (fun v8 wc=>∃ (kq : Nat) (x8_14 : Bool),v8 = .bool x8_14 ∧ Aside0 (Aab.j1 is kq l0 (l0.length : Int) x21_1 x8_14 a2_0 x21_1 a1_0 l1_1 a2_0 l2_1 = some r) ∧ Aside0 (kq ≤ k1) ∧ Aside0 (wc.heap[g1_]? = some (.cells #[.int .i64 a1_0,(.slice A1_1 l1_1.length c1_1)] 26 (0,0))) ∧ Aside0 (wc.heap[g2_]? = some (.cells #[.int .i64 a2_0,(.slice A2_1 l2_1.length c2_1)] 26 (0,0))) ∧ Aside0 (wc.heap[g3_]? = some (.cells #[.func (.func 128) #[] #[.pointer (some ⟨g1_,0,none⟩),.pointer (some ⟨g2_,0,none⟩),.pointer (some ⟨g3_,0,none⟩)]] 35 (0,0))) ∧ Aside0 (Below w.heap.size w wc))
     case first =>
      have H:=HC15.1;clear HC15;replace H:=Option.bind_eq_some_iff.mp H;obtain ⟨Bq,Bd,H⟩:=H;(try dsimp only at H);have A16:=A_ Bd;clear Bd;by_cases c17 : Bq = true
      ·subst c17;rw [if_pos rfl] at H;have H':=A_ H;clear H;try go_wp2
       replace Aa:=A_ (blk_drew Aa.1);replace Ab:=A_ (blk_drew Ab.1);replace Ac:=A_ (blk_drew Ac.1);replace HB:=A_ (below_drew1 HB.1);refine start_ (n:=16) (S:=fun w'=>True) (ds:=[]) #[F,F,F,F,F,F,F,F,F,F,F,F,F,F,F,F] (by kernel_rfl) rfl rfl trivial (fun hHeld=>?_);refine with_tabW Aab.tab7 Aab.bits7 (fun HT_ HW_=>?_)
       generalize wr.drew = w18 at Aa Ab Ac HB hHeld ⊢
       refine pu_ (i:=0) (N:=24) #[T,F,F,F,F,F,F,F,F,F,F,F,F,F,F,F] HT_.1 rfl rfl (fun _ _ _ h=>h) rfl (h:=?_)
       refine pu_ (i:=1) (N:=25) #[T,T,F,F,F,F,F,F,F,F,F,F,F,F,F,F] HT_.1 rfl rfl (fun _ _ _ h=>h) rfl (h:=?_)
       refine one_ (i:=2) (N:=some 26) #[T,T,T,F,F,F,F,F,F,F,F,F,F,F,F,F] rfl rfl (one_of HT_.1 (by kernel_rfl)) (by decide) (fun K hK=>?_)
       refine goes_ Tryd.func129 (by kernel_rfl) rfl #[.slice A0 l0.length c0,.int .i64 x21_1] (by rfl) rfl rfl au_ ?_
       with_reducible refine (Aas.calls k1 _ _ l0 x21_1 true _ ?side1 ?side2 A16.1).mono ?_
       (case side1=>exact cl_ (Kd.C_below HR0.1 HB.1))
       (case side2=>exact HC0.1)
       rintro e w' ⟨rfl,⟨nd,rfl⟩⟩
       refine ⟨_,rfl,?_⟩
       refine hK.out _ _ trivial (fun hHeld=>?_)
       clear hK K;refine norm_ (a':=?_) ?_ ?_
       rotate_left
       ·show Act.put _ (some 26) _ = _
        simp only [Act.put,L_,M_,N_,i64_w,i32_w]
        rfl
       refine pu_ (i:=3) (N:=27) #[T,T,T,T,F,F,F,F,F,F,F,F,F,F,F,F] HT_.1 rfl rfl (fun _ _ _ h=>h) rfl (h:=?_)
       refine pu_ (i:=4) (N:=28) #[T,T,T,T,T,F,F,F,F,F,F,F,F,F,F,F] HT_.1 rfl rfl (fun _ _ _ h=>h) rfl (h:=?_)
       refine pure_ (i:=5) (N:=some 29) (v:=undef) (a':=?_) #[T,T,T,T,T,T,F,F,F,F,F,F,F,F,F,F] rfl rfl (any_of HT_.1 (by kernel_rfl)) (fun _ _ _ h=>h) (Or.inr ⟨by rfl,rfl⟩) ?_ ?_
       rotate_left;·simp only [Act.put,L_,M_,N_,i64_w,i32_w];rfl
       refine pure_ (i:=6) (N:=some 30) (v:=undef) (a':=?_) #[T,T,T,T,T,T,T,F,F,F,F,F,F,F,F,F] rfl rfl (any_of HT_.1 (by kernel_rfl)) (fun _ _ _ h=>h) (Or.inr ⟨by rfl,rfl⟩) ?_ ?_
       rotate_left;·simp only [Act.put,L_,M_,N_,i64_w,i32_w];rfl
       refine pure_ (i:=7) (N:=some 31) (v:=undef) (a':=?_) #[T,T,T,T,T,T,T,T,F,F,F,F,F,F,F,F] rfl rfl (any_of HT_.1 (by kernel_rfl)) (fun _ _ _ h=>h) (Or.inr ⟨by rfl,rfl⟩) ?_ ?_
       rotate_left;·simp only [Act.put,L_,M_,N_,i64_w,i32_w];rfl
       refine pure_ (i:=8) (N:=some 32) (v:=undef) (a':=?_) #[T,T,T,T,T,T,T,T,T,F,F,F,F,F,F,F] rfl rfl (any_of HT_.1 (by kernel_rfl)) (fun _ _ _ h=>h) (Or.inr ⟨by rfl,rfl⟩) ?_ ?_
       rotate_left;·simp only [Act.put,L_,M_,N_,i64_w,i32_w];rfl
       refine pure_ (i:=9) (N:=some 33) (v:=undef) (a':=?_) #[T,T,T,T,T,T,T,T,T,T,F,F,F,F,F,F] rfl rfl (any_of HT_.1 (by kernel_rfl)) (fun _ _ _ h=>h) (Or.inr ⟨by rfl,rfl⟩) ?_ ?_
       rotate_left;·simp only [Act.put,L_,M_,N_,i64_w,i32_w];rfl
       refine pure_ (i:=10) (N:=some 34) (v:=undef) (a':=?_) #[T,T,T,T,T,T,T,T,T,T,T,F,F,F,F,F] rfl rfl (any_of HT_.1 (by kernel_rfl)) (fun _ _ _ h=>h) (Or.inr ⟨by rfl,rfl⟩) ?_ ?_
       rotate_left;·simp only [Act.put,L_,M_,N_,i64_w,i32_w];rfl
       refine pure_ (i:=11) (N:=some 35) (v:=undef) (a':=?_) #[T,T,T,T,T,T,T,T,T,T,T,T,F,F,F,F] rfl rfl (any_of HT_.1 (by kernel_rfl)) (fun _ _ _ h=>h) (Or.inr ⟨by rfl,rfl⟩) ?_ ?_
       rotate_left;·simp only [Act.put,L_,M_,N_,i64_w,i32_w];rfl
       refine pure_ (i:=12) (N:=some 36) (v:=undef) (a':=?_) #[T,T,T,T,T,T,T,T,T,T,T,T,T,F,F,F] rfl rfl (any_of HT_.1 (by kernel_rfl)) (fun _ _ _ h=>h) (Or.inr ⟨by rfl,rfl⟩) ?_ ?_
       rotate_left;·simp only [Act.put,L_,M_,N_,i64_w,i32_w];rfl
       refine pure_ (i:=13) (N:=some 37) (v:=undef) (a':=?_) #[T,T,T,T,T,T,T,T,T,T,T,T,T,T,F,F] rfl rfl (any_of HT_.1 (by kernel_rfl)) (fun _ _ _ h=>h) (Or.inr ⟨by rfl,rfl⟩) ?_ ?_
       rotate_left;·simp only [Act.put,L_,M_,N_,i64_w,i32_w];rfl
       refine pu_ (i:=14) (N:=38) #[T,T,T,T,T,T,T,T,T,T,T,T,T,T,T,F] HT_.1 rfl rfl (fun _ _ _ h=>h) rfl (h:=?_)
       refine pu_ (i:=15) (N:=8) #[T,T,T,T,T,T,T,T,T,T,T,T,T,T,T,T] HT_.1 rfl rfl (fun _ _ _ h=>h) rfl (h:=?_)
       refine done_ (done_of HT_.1 (by kernel_rfl)) ?_
       try go_wp2
       go_meet
       case rel=>exact ⟨_,(false),(by first|rfl|(simp;done)|(simp [*];done)),H',⟨by have:=HK1.1;first|omega|exact Nat.le_refl _⟩,⟨bl_ Aa⟩,⟨bl_ Ab⟩,⟨bl_ Ac⟩,⟨bb_⟩⟩
      ·replace c17:=Bool.eq_false_iff.mpr c17;subst c17;rw [if_neg nf_] at H;replace H:=Option.bind_eq_some_iff.mp H;obtain ⟨Be,Bf,H⟩:=H;(try dsimp only at H);have A19:=A_ Bf;clear Bf;replace H:=Option.bind_eq_some_iff.mp H;obtain ⟨Bg,Bh,H⟩:=H;(try dsimp only at H);have A20:=A_ Bh;clear Bh;have H':=A_ H;clear H;try go_wp2
       replace Aa:=A_ (blk_drew Aa.1);replace Ab:=A_ (blk_drew Ab.1);replace Ac:=A_ (blk_drew Ac.1);replace HB:=A_ (below_drew1 HB.1);refine start_ (n:=16) (S:=fun w'=>w'.cell? ⟨g2_,0,none⟩ = some (.int .i64 a2_0) ∧ w'.cell? ⟨g2_,1,none⟩ = some (.slice A2_1 l2_1.length c2_1) ∧ w'.cell? ⟨g1_,0,none⟩ = some (.int .i64 a1_0) ∧ w'.cell? ⟨g1_,1,none⟩ = some (.slice A1_1 l1_1.length c1_1)) (ds:=[]) #[F,F,F,F,F,F,F,F,F,F,F,F,F,F,F,F] (by kernel_rfl) rfl rfl ⟨blk_cell Ab.1 0,blk_cell Ab.1 1,blk_cell Aa.1 0,blk_cell Aa.1 1⟩ (fun hHeld=>?_);refine with_tabW Aab.tab7 Aab.bits7 (fun HT_ HW_=>?_)
       generalize wr.drew = w21 at Aa Ab Ac HB hHeld ⊢
       refine pu_ (i:=0) (N:=24) #[T,F,F,F,F,F,F,F,F,F,F,F,F,F,F,F] HT_.1 rfl rfl (fun _ _ _ h=>h) rfl (h:=?_)
       refine pu_ (i:=1) (N:=25) #[T,T,F,F,F,F,F,F,F,F,F,F,F,F,F,F] HT_.1 rfl rfl (fun _ _ _ h=>h) rfl (h:=?_)
       refine one_ (i:=2) (N:=some 26) #[T,T,T,F,F,F,F,F,F,F,F,F,F,F,F,F] rfl rfl (one_of HT_.1 (by kernel_rfl)) (by decide) (fun K hK=>?_)
       refine goes_ Tryd.func129 (by kernel_rfl) rfl #[.slice A0 l0.length c0,.int .i64 x21_1] (by rfl) rfl rfl au_ ?_
       with_reducible refine (Aas.calls k1 _ _ l0 x21_1 false _ ?side1 ?side2 A16.1).mono ?_
       (case side1=>exact cl_ (Kd.C_below HR0.1 HB.1))
       (case side2=>exact HC0.1)
       rintro e w' ⟨rfl,⟨nd,rfl⟩⟩
       refine ⟨_,rfl,?_⟩
       refine hK.out _ _ ⟨blk_cell Ab.1 0,blk_cell Ab.1 1,blk_cell Aa.1 0,blk_cell Aa.1 1⟩ (fun hHeld=>?_)
       clear hK K;refine norm_ (a':=?_) ?_ ?_
       rotate_left
       ·show Act.put _ (some 26) _ = _
        simp only [Act.put,L_,M_,N_,i64_w,i32_w]
        rfl
       refine pu_ (i:=3) (N:=27) #[T,T,T,T,F,F,F,F,F,F,F,F,F,F,F,F] HT_.1 rfl rfl (fun _ _ _ h=>h) rfl (h:=?_)
       refine pu_ (i:=4) (N:=28) #[T,T,T,T,T,F,F,F,F,F,F,F,F,F,F,F] HT_.1 rfl rfl (fun _ _ _ h=>h) rfl (h:=?_)
       refine pu_ (i:=6) (N:=30) #[T,T,T,T,T,F,T,F,F,F,F,F,F,F,F,F] HT_.1 rfl rfl (fun _ _ _ h=>h) rfl (h:=?_)
       refine pu_ (i:=7) (N:=31) #[T,T,T,T,T,F,T,T,F,F,F,F,F,F,F,F] HT_.1 rfl rfl (fun _ _ _ h=>h) rfl (h:=?_)
       refine pu_ (i:=10) (N:=34) #[T,T,T,T,T,F,T,T,F,F,T,F,F,F,F,F] HT_.1 rfl rfl (fun _ _ _ h=>h) rfl (h:=?_)
       refine pu_ (i:=11) (N:=35) #[T,T,T,T,T,F,T,T,F,F,T,T,F,F,F,F] HT_.1 rfl rfl (fun _ _ _ h=>h) rfl (h:=?_)
       refine take_ (i:=5) (N:=some 29) (v:=?_) (a':=?_) #[T,T,T,T,T,T,T,T,F,F,T,T,F,F,F,F] rfl rfl (take_ofW HT_.1 HW_.1 (by kernel_rfl)) (fun _ _ _ h=>h) (Or.inl ⟨by rfl,?_⟩) hHeld ?_ ?_
       rotate_left
       ·rintro w' ⟨s0,s1,s2,s3⟩
        go_simp
        with_reducible rfl
       rotate_left;·simp only [Act.put,L_,M_,N_,i64_w,i32_w];rfl
       refine take_ (i:=9) (N:=some 33) (v:=?_) (a':=?_) #[T,T,T,T,T,T,T,T,F,T,T,T,F,F,F,F] rfl rfl (take_ofW HT_.1 HW_.1 (by kernel_rfl)) (fun _ _ _ h=>h) (Or.inl ⟨by rfl,?_⟩) hHeld ?_ ?_
       rotate_left
       ·rintro w' ⟨s0,s1,s2,s3⟩
        go_simp
        with_reducible rfl
       rotate_left;·simp only [Act.put,L_,M_,N_,i64_w,i32_w];rfl
       refine one_ (i:=8) (N:=some 32) #[T,T,T,T,T,T,T,T,T,T,T,T,F,F,F,F] rfl rfl (one_of HT_.1 (by kernel_rfl)) (by decide) (fun K hK=>?_)
       refine goes_ Tryd.func69 (by kernel_rfl) rfl #[.agg #[.int .i64 a2_0,.slice A2_1 l2_1.length c2_1],.int .i64 x21_1,.int .i64 x21_1] (by rfl) rfl rfl au_ ?_
       with_reducible refine (Aau.calls a2_0 _ _ l2_1 x21_1 x21_1 Be _ ?side1 ?side2 A19.1).mono ?_
       (case side1=>exact cl_ (Kd.C_below HR2_1.1 bb_))
       (case side2=>exact HC2_1.1)
       rintro e w22 ⟨rfl,hb⟩
       refine ⟨_,rfl,?_⟩
       replace Aa:=bz Aa hb;replace Ab:=bz Ab hb;replace Ac:=bz Ac hb;replace HB:=A_ (below_step bb_ hb);(try clear hb);(try clear hb2);(try clear hk);(try clear hi);refine hK.out _ _ ⟨blk_cell Ab.1 0,blk_cell Ab.1 1,blk_cell Aa.1 0,blk_cell Aa.1 1⟩ (fun hHeld=>?_)
       clear hK K;refine norm_ (a':=?_) ?_ ?_
       rotate_left
       ·show Act.put _ (some 32) _ = _
        simp only [Act.put,L_,M_,N_,i64_w,i32_w]
        rfl
       refine one_ (i:=12) (N:=some 36) #[T,T,T,T,T,T,T,T,T,T,T,T,T,F,F,F] rfl rfl (one_of HT_.1 (by kernel_rfl)) (by decide) (fun K hK=>?_)
       refine goes_ Tryd.func69 (by kernel_rfl) rfl #[.agg #[.int .i64 a1_0,.slice A1_1 l1_1.length c1_1],.int .i64 (l0.length : Int),.int .i64 (l0.length : Int)] (by rfl) rfl rfl au_ ?_
       with_reducible refine (Aau.calls a1_0 _ _ l1_1 (l0.length : Int) (l0.length : Int) Bg _ ?side1 ?side2 A20.1).mono ?_
       (case side1=>exact cl_ (Kd.C_below HR1_1.1 HB.1))
       (case side2=>exact HC1_1.1)
       rintro e w23 ⟨rfl,hb⟩
       refine ⟨_,rfl,?_⟩
       replace Aa:=bz Aa hb;replace Ab:=bz Ab hb;replace Ac:=bz Ac hb;replace HB:=A_ (below_step bb_ hb);(try clear hb);(try clear hb2);(try clear hk);(try clear hi);refine hK.out _ _ ⟨blk_cell Ab.1 0,blk_cell Ab.1 1,blk_cell Aa.1 0,blk_cell Aa.1 1⟩ (fun hHeld=>?_)
       clear hK K;refine norm_ (a':=?_) ?_ ?_
       rotate_left
       ·show Act.put _ (some 36) _ = _
        simp only [Act.put,L_,M_,N_,i64_w,i32_w]
        rfl
       refine pu_ (i:=13) (N:=37) #[T,T,T,T,T,T,T,T,T,T,T,T,T,T,F,F] HT_.1 rfl rfl (fun _ _ _ h=>h) rfl (h:=?_)
       refine pu_ (i:=14) (N:=38) #[T,T,T,T,T,T,T,T,T,T,T,T,T,T,T,F] HT_.1 rfl rfl (fun _ _ _ h=>h) rfl (h:=?_)
       refine pu_ (i:=15) (N:=8) #[T,T,T,T,T,T,T,T,T,T,T,T,T,T,T,T] HT_.1 rfl rfl (fun _ _ _ h=>h) rfl (h:=?_)
       refine done_ (done_of HT_.1 (by kernel_rfl)) ?_
       try go_wp2
       go_meet
       case rel=>exact ⟨_,((Be == Bg)),(by first|rfl|(simp;done)|(simp [*];done)),H',⟨by have:=HK1.1;first|omega|exact Nat.le_refl _⟩,⟨bl_ Aa⟩,⟨bl_ Ab⟩,⟨bl_ Ac⟩,⟨bb_⟩⟩
     case rest =>
      clear HC15;try clear c1
      try clear c2
      try clear p2
      try clear c5
      try clear c5b0
      try clear c5b1
      try clear c6
      try clear c7
      try clear c9
      try clear c10
      try clear c12
      try clear c14
      try clear c14b0
      try clear c17
      try clear c20
      try clear c21
      repeat clear Z
      try clear p2
      obtain ⟨kq,x8_14,rfl,HA,HJ14,Aa,Ab,Ac,HB⟩:=hcut;cases kq with
      | zero=>exact absurd HA.1 (by simp [Aab.j1])
      | succ kj14 =>
       have H:=HA.1;clear HA;simp only [Aab.j1] at H
       have H':=A_ H;clear H;go_wp2
       go_loopg [8,41] kj14 (fun kq v8 v41 w'=>∃ (x8_3 : Bool) (x41_3 : Int),v8 = .bool x8_3 ∧ v41 = .int .i64 x41_3 ∧ Aside0 (Aab.l1 is kq l0 (l0.length : Int) x21_1 x8_3 a2_0 x21_1 l0 (l0.length : Int) x41_3 a1_0 l1_1 a2_0 l2_1 = some r) ∧ Aside0 (kq ≤ kj14) ∧ Aside0 (w'.heap[g1_]? = some (.cells #[.int .i64 a1_0,(.slice A1_1 l1_1.length c1_1)] 26 (0,0))) ∧ Aside0 (w'.heap[g2_]? = some (.cells #[.int .i64 a2_0,(.slice A2_1 l2_1.length c2_1)] 26 (0,0))) ∧ Aside0 (w'.heap[g3_]? = some (.cells #[.func (.func 128) #[] #[.pointer (some ⟨g1_,0,none⟩),.pointer (some ⟨g2_,0,none⟩),.pointer (some ⟨g3_,0,none⟩)]] 35 (0,0))) ∧ Aside0 (Below w.heap.size w w'))
       case atStart=>exact ⟨(x8_14),(0),(by first|rfl|(simp;done)|(simp [*];done)),(by first|rfl|(simp;done)|(simp [*];done)),H',⟨Nat.le_refl _⟩,⟨bl_ Aa⟩,⟨bl_ Ab⟩,⟨bl_ Ac⟩,⟨bb_⟩⟩
       case round =>
        clear H';try clear c1
        try clear c2
        try clear p2
        try clear c5
        try clear c5b0
        try clear c5b1
        try clear c6
        try clear c7
        try clear c9
        try clear c10
        try clear c12
        try clear c14
        try clear c14b0
        try clear c17
        try clear c20
        try clear c21
        repeat clear Z
        try clear p2
        obtain ⟨x8_3,x41_3,rfl,rfl,HA,HK3,Aa,Ab,Ac,HB⟩:=hrel;cases gk with
        | zero=>exact absurd HA.1 (by simp [Aab.l1])
        | succ k3 =>
         have H:=HA.1;clear HA;simp only [Aab.l1] at H
         by_cases c24 : x41_3 < (l0.length : Int)
         ·rw [if_pos c24] at H;have c24b0 : decide (x41_3 < (l0.length : Int)) = true:=decide_eq_true c24;clear c24;by_cases c25 : 0 ≤ x41_3
          ·rw [if_pos c25] at H;have c25b0 : decide (0 ≤ x41_3) = true:=decide_eq_true c25;clear c25;by_cases c26 : x41_3 < (l0.length : Int)
           ·rw [if_pos c26] at H;have c26b0 : decide (x41_3 < (l0.length : Int)) = true:=decide_eq_true c26;clear c26;by_cases c27 : x8_3 = true
            ·subst c27;rw [if_pos rfl] at H;replace H:=Option.bind_eq_some_iff.mp H;obtain ⟨Ao,Bi,H⟩:=H;(try dsimp only at H);have A28:=A_ Bi;clear Bi;replace H:=Option.bind_eq_some_iff.mp H;obtain ⟨Ap,Bj,H⟩:=H;(try dsimp only at H);have A29:=A_ Bj;clear Bj;by_cases c30 : (Ao == Ap) = true
             ·rw [if_pos c30] at H;have c30b0 : (Ao == Ap) = true:=c30;(try (have c30b1 : decide (Ao = Ap) = true:=by simpa using c30));(try (have c30b2 : (Ao == Ap) = true:=by simpa using c30));clear c30;replace H:=Option.bind_eq_some_iff.mp H;obtain ⟨Bk,Bl,H⟩:=H;(try dsimp only at H);have A31:=A_ Bl;clear Bl;replace H:=Option.bind_eq_some_iff.mp H;obtain ⟨Bm,Bn,H⟩:=H;(try dsimp only at H);have A32:=A_ Bn;clear Bn;have H':=A_ H;clear H;have Am : 0 ≤ (x41_3 : Int):=of_decide_eq_true (by first|(with_reducible assumption)|assumption);have An : x41_3 < (l0.length : Int):=of_decide_eq_true (by first|(with_reducible assumption)|assumption);obtain ⟨Bc,A9,Af⟩:=Kd.at_int HR0.1 x41_3 Am An;cases A9
              (try replace Af:=(HB.1.cell (World.block_lt_of_cell? w _ Af)).trans Af);replace Am:=eq_true Am;replace An:=eq_true An;try go_wp2
              replace Aa:=A_ (blk_drew Aa.1);replace Ab:=A_ (blk_drew Ab.1);replace Ac:=A_ (blk_drew Ac.1);replace HB:=A_ (below_drew1 HB.1);refine start_ (n:=24) (S:=fun w'=>w'.cell? ⟨g2_,0,none⟩ = some (.int .i64 a2_0) ∧ w'.cell? ⟨g2_,1,none⟩ = some (.slice A2_1 l2_1.length c2_1) ∧ w'.cell? ⟨g1_,0,none⟩ = some (.int .i64 a1_0) ∧ w'.cell? ⟨g1_,1,none⟩ = some (.slice A1_1 l1_1.length c1_1)) (ds:=[]) #[F,F,F,F,F,F,F,F,F,F,F,F,F,F,F,F,F,F,F,F,F,F,F,F] (by kernel_rfl) rfl rfl ⟨blk_cell Ab.1 0,blk_cell Ab.1 1,blk_cell Aa.1 0,blk_cell Aa.1 1⟩ (fun hHeld=>?_);refine with_tabW Aab.tab11 Aab.bits11 (fun HT_ HW_=>?_)
              generalize wr.drew = w33 at Aa Ab Ac HB hHeld ⊢
              refine pu_ (i:=0) (N:=46) #[T,F,F,F,F,F,F,F,F,F,F,F,F,F,F,F,F,F,F,F,F,F,F,F] HT_.1 rfl rfl (fun _ _ _ h=>h) rfl (h:=?_)
              refine pu_ (i:=1) (N:=47) #[T,T,F,F,F,F,F,F,F,F,F,F,F,F,F,F,F,F,F,F,F,F,F,F] HT_.1 rfl rfl (fun _ _ _ h=>h) rfl (h:=?_)
              refine pu_ (i:=3) (N:=49) #[T,T,F,T,F,F,F,F,F,F,F,F,F,F,F,F,F,F,F,F,F,F,F,F] HT_.1 rfl rfl (fun _ _ _ h=>h) rfl (h:=?_)
              refine pu_ (i:=4) (N:=50) #[T,T,F,T,T,F,F,F,F,F,F,F,F,F,F,F,F,F,F,F,F,F,F,F] HT_.1 rfl rfl (fun _ _ _ h=>h) rfl (h:=?_)
              refine pu_ (i:=7) (N:=53) #[T,T,F,T,T,F,F,T,F,F,F,F,F,F,F,F,F,F,F,F,F,F,F,F] HT_.1 rfl rfl (fun _ _ _ h=>h) rfl (h:=?_)
              refine pu_ (i:=8) (N:=54) #[T,T,F,T,T,F,F,T,T,F,F,F,F,F,F,F,F,F,F,F,F,F,F,F] HT_.1 rfl rfl (fun _ _ _ h=>h) rfl (h:=?_)
              refine take_ (i:=2) (N:=some 48) (v:=?_) (a':=?_) #[T,T,T,T,T,F,F,T,T,F,F,F,F,F,F,F,F,F,F,F,F,F,F,F] rfl rfl (take_ofW HT_.1 HW_.1 (by kernel_rfl)) (fun _ _ _ h=>h) (Or.inl ⟨by rfl,?_⟩) hHeld ?_ ?_
              rotate_left
              ·rintro w' ⟨s0,s1,s2,s3⟩
               go_simp
               with_reducible rfl
              rotate_left;·simp only [Act.put,L_,M_,N_,i64_w,i32_w];rfl
              refine take_ (i:=6) (N:=some 52) (v:=?_) (a':=?_) #[T,T,T,T,T,F,T,T,T,F,F,F,F,F,F,F,F,F,F,F,F,F,F,F] rfl rfl (take_ofW HT_.1 HW_.1 (by kernel_rfl)) (fun _ _ _ h=>h) (Or.inl ⟨by rfl,?_⟩) hHeld ?_ ?_
              rotate_left
              ·rintro w' ⟨s0,s1,s2,s3⟩
               go_simp
               with_reducible rfl
              rotate_left;·simp only [Act.put,L_,M_,N_,i64_w,i32_w];rfl
              refine one_ (i:=5) (N:=some 51) #[T,T,T,T,T,T,T,T,T,F,F,F,F,F,F,F,F,F,F,F,F,F,F,F] rfl rfl (one_of HT_.1 (by kernel_rfl)) (by decide) (fun K hK=>?_)
              refine goes_ Tryd.func69 (by kernel_rfl) rfl #[.agg #[.int .i64 a2_0,.slice A2_1 l2_1.length c2_1],.int .i64 x21_1,.int .i64 (rd l0 x41_3)] (by rfl) rfl rfl au_ ?_
              with_reducible refine (Aau.calls a2_0 _ _ l2_1 x21_1 (rd l0 x41_3) Ao _ ?side1 ?side2 A28.1).mono ?_
              (case side1=>exact cl_ (Kd.C_below HR2_1.1 HB.1))
              (case side2=>exact HC2_1.1)
              rintro e w34 ⟨rfl,hb⟩
              refine ⟨_,rfl,?_⟩
              replace Aa:=bz Aa hb;replace Ab:=bz Ab hb;replace Ac:=bz Ac hb;replace HB:=A_ (below_step bb_ hb);(try clear hb);(try clear hb2);(try clear hk);(try clear hi);refine hK.out _ _ ⟨blk_cell Ab.1 0,blk_cell Ab.1 1,blk_cell Aa.1 0,blk_cell Aa.1 1⟩ (fun hHeld=>?_)
              clear hK K;refine norm_ (a':=?_) ?_ ?_
              rotate_left
              ·show Act.put _ (some 51) _ = _
               simp only [Act.put,L_,M_,N_,i64_w,i32_w]
               rfl
              refine one_ (i:=9) (N:=some 55) #[T,T,T,T,T,T,T,T,T,T,F,F,F,F,F,F,F,F,F,F,F,F,F,F] rfl rfl (one_of HT_.1 (by kernel_rfl)) (by decide) (fun K hK=>?_)
              refine goes_ Tryd.func69 (by kernel_rfl) rfl #[.agg #[.int .i64 a1_0,.slice A1_1 l1_1.length c1_1],.int .i64 (l0.length : Int),.int .i64 x41_3] (by rfl) rfl rfl au_ ?_
              with_reducible refine (Aau.calls a1_0 _ _ l1_1 (l0.length : Int) x41_3 Ap _ ?side1 ?side2 A29.1).mono ?_
              (case side1=>exact cl_ (Kd.C_below HR1_1.1 HB.1))
              (case side2=>exact HC1_1.1)
              rintro e w35 ⟨rfl,hb⟩
              refine ⟨_,rfl,?_⟩
              replace Aa:=bz Aa hb;replace Ab:=bz Ab hb;replace Ac:=bz Ac hb;replace HB:=A_ (below_step bb_ hb);(try clear hb);(try clear hb2);(try clear hk);(try clear hi);refine hK.out _ _ ⟨blk_cell Ab.1 0,blk_cell Ab.1 1,blk_cell Aa.1 0,blk_cell Aa.1 1⟩ (fun hHeld=>?_)
              clear hK K;refine norm_ (a':=?_) ?_ ?_
              rotate_left
              ·show Act.put _ (some 55) _ = _
               simp only [Act.put,L_,M_,N_,i64_w,i32_w]
               rfl
              refine pu_ (i:=10) (N:=56) #[T,T,T,T,T,T,T,T,T,T,T,F,F,F,F,F,F,F,F,F,F,F,F,F] HT_.1 rfl rfl (fun _ _ _ h=>h) rfl (h:=?_)
              refine pu_ (i:=11) (N:=57) #[T,T,T,T,T,T,T,T,T,T,T,T,F,F,F,F,F,F,F,F,F,F,F,F] HT_.1 rfl rfl (fun _ _ _ h=>h) rfl (h:=?_)
              refine pu_ (i:=12) (N:=58) #[T,T,T,T,T,T,T,T,T,T,T,T,T,F,F,F,F,F,F,F,F,F,F,F] HT_.1 rfl rfl (fun _ _ _ h=>h) rfl (h:=?_)
              refine pu_ (i:=14) (N:=60) #[T,T,T,T,T,T,T,T,T,T,T,T,T,F,T,F,F,F,F,F,F,F,F,F] HT_.1 rfl rfl (fun _ _ _ h=>h) rfl (h:=?_)
              refine pu_ (i:=15) (N:=61) #[T,T,T,T,T,T,T,T,T,T,T,T,T,F,T,T,F,F,F,F,F,F,F,F] HT_.1 rfl rfl (fun _ _ _ h=>h) rfl (h:=?_)
              refine pu_ (i:=18) (N:=64) #[T,T,T,T,T,T,T,T,T,T,T,T,T,F,T,T,F,F,T,F,F,F,F,F] HT_.1 rfl rfl (fun _ _ _ h=>h) rfl (h:=?_)
              refine pu_ (i:=19) (N:=65) #[T,T,T,T,T,T,T,T,T,T,T,T,T,F,T,T,F,F,T,T,F,F,F,F] HT_.1 rfl rfl (fun _ _ _ h=>h) rfl (h:=?_)
              refine take_ (i:=13) (N:=some 59) (v:=?_) (a':=?_) #[T,T,T,T,T,T,T,T,T,T,T,T,T,T,T,T,F,F,T,T,F,F,F,F] rfl rfl (take_ofW HT_.1 HW_.1 (by kernel_rfl)) (fun _ _ _ h=>h) (Or.inl ⟨by rfl,?_⟩) hHeld ?_ ?_
              rotate_left
              ·rintro w' ⟨s0,s1,s2,s3⟩
               go_simp
               with_reducible rfl
              rotate_left;·simp only [Act.put,L_,M_,N_,i64_w,i32_w];rfl
              refine take_ (i:=17) (N:=some 63) (v:=?_) (a':=?_) #[T,T,T,T,T,T,T,T,T,T,T,T,T,T,T,T,F,T,T,T,F,F,F,F] rfl rfl (take_ofW HT_.1 HW_.1 (by kernel_rfl)) (fun _ _ _ h=>h) (Or.inl ⟨by rfl,?_⟩) hHeld ?_ ?_
              rotate_left
              ·rintro w' ⟨s0,s1,s2,s3⟩
               go_simp
               with_reducible rfl
              rotate_left;·simp only [Act.put,L_,M_,N_,i64_w,i32_w];rfl
              refine one_ (i:=16) (N:=some 62) #[T,T,T,T,T,T,T,T,T,T,T,T,T,T,T,T,T,T,T,T,F,F,F,F] rfl rfl (one_of HT_.1 (by kernel_rfl)) (by decide) (fun K hK=>?_)
              refine goes_ Tryd.func69 (by kernel_rfl) rfl #[.agg #[.int .i64 a2_0,.slice A2_1 l2_1.length c2_1],.int .i64 (rd l0 x41_3),.int .i64 x21_1] (by rfl) rfl rfl au_ ?_
              with_reducible refine (Aau.calls a2_0 _ _ l2_1 (rd l0 x41_3) x21_1 Bk _ ?side1 ?side2 A31.1).mono ?_
              (case side1=>exact cl_ (Kd.C_below HR2_1.1 HB.1))
              (case side2=>exact HC2_1.1)
              rintro e w36 ⟨rfl,hb⟩
              refine ⟨_,rfl,?_⟩
              replace Aa:=bz Aa hb;replace Ab:=bz Ab hb;replace Ac:=bz Ac hb;replace HB:=A_ (below_step bb_ hb);(try clear hb);(try clear hb2);(try clear hk);(try clear hi);refine hK.out _ _ ⟨blk_cell Ab.1 0,blk_cell Ab.1 1,blk_cell Aa.1 0,blk_cell Aa.1 1⟩ (fun hHeld=>?_)
              clear hK K;refine norm_ (a':=?_) ?_ ?_
              rotate_left
              ·show Act.put _ (some 62) _ = _
               simp only [Act.put,L_,M_,N_,i64_w,i32_w]
               rfl
              refine one_ (i:=20) (N:=some 66) #[T,T,T,T,T,T,T,T,T,T,T,T,T,T,T,T,T,T,T,T,T,F,F,F] rfl rfl (one_of HT_.1 (by kernel_rfl)) (by decide) (fun K hK=>?_)
              refine goes_ Tryd.func69 (by kernel_rfl) rfl #[.agg #[.int .i64 a1_0,.slice A1_1 l1_1.length c1_1],.int .i64 x41_3,.int .i64 (l0.length : Int)] (by rfl) rfl rfl au_ ?_
              with_reducible refine (Aau.calls a1_0 _ _ l1_1 x41_3 (l0.length : Int) Bm _ ?side1 ?side2 A32.1).mono ?_
              (case side1=>exact cl_ (Kd.C_below HR1_1.1 HB.1))
              (case side2=>exact HC1_1.1)
              rintro e w37 ⟨rfl,hb⟩
              refine ⟨_,rfl,?_⟩
              replace Aa:=bz Aa hb;replace Ab:=bz Ab hb;replace Ac:=bz Ac hb;replace HB:=A_ (below_step bb_ hb);(try clear hb);(try clear hb2);(try clear hk);(try clear hi);refine hK.out _ _ ⟨blk_cell Ab.1 0,blk_cell Ab.1 1,blk_cell Aa.1 0,blk_cell Aa.1 1⟩ (fun hHeld=>?_)
              clear hK K;refine norm_ (a':=?_) ?_ ?_
              rotate_left
              ·show Act.put _ (some 66) _ = _
               simp only [Act.put,L_,M_,N_,i64_w,i32_w]
               rfl
              refine pu_ (i:=21) (N:=67) #[T,T,T,T,T,T,T,T,T,T,T,T,T,T,T,T,T,T,T,T,T,T,F,F] HT_.1 rfl rfl (fun _ _ _ h=>h) rfl (h:=?_)
              refine pu_ (i:=22) (N:=68) #[T,T,T,T,T,T,T,T,T,T,T,T,T,T,T,T,T,T,T,T,T,T,T,F] HT_.1 rfl rfl (fun _ _ _ h=>h) rfl (h:=?_)
              refine pu_ (i:=23) (N:=8) #[T,T,T,T,T,T,T,T,T,T,T,T,T,T,T,T,T,T,T,T,T,T,T,T] HT_.1 rfl rfl (fun _ _ _ h=>h) rfl (h:=?_)
              refine done_ (done_of HT_.1 (by kernel_rfl)) ?_
              try go_wp2
              go_roundg k3
              case measure=>have:=HK1.1;have:=HJ14.1;have:=HK3.1;omega
              case rel=>exact ⟨((Bk == Bm)),(wrap64 (x41_3 + 1)),(by first|rfl|(simp;done)|(simp [*];done)),(by first|rfl|(simp;done)|(simp [*];done)),H',⟨by have:=HK1.1;have:=HJ14.1;have:=HK3.1;omega⟩,⟨bl_ Aa⟩,⟨bl_ Ab⟩,⟨bl_ Ac⟩,⟨bb_⟩⟩
             ·rw [if_neg c30] at H;have c30b0 : (Ao == Ap) = false:=by simpa using c30
              (try (have c30b1 : decide (Ao = Ap) = false:=by simpa using c30));(try (have c30b2 : (Ao == Ap) = false:=by simpa using c30));(try (have c30b3 : ¬ (Ao = Ap):=by simpa using c30));clear c30;have H':=A_ H;clear H;have Am : 0 ≤ (x41_3 : Int):=of_decide_eq_true (by first|(with_reducible assumption)|assumption);have An : x41_3 < (l0.length : Int):=of_decide_eq_true (by first|(with_reducible assumption)|assumption);obtain ⟨Bc,A9,Af⟩:=Kd.at_int HR0.1 x41_3 Am An;cases A9
              (try replace Af:=(HB.1.cell (World.block_lt_of_cell? w _ Af)).trans Af);replace Am:=eq_true Am;replace An:=eq_true An;try go_wp2
              replace Aa:=A_ (blk_drew Aa.1);replace Ab:=A_ (blk_drew Ab.1);replace Ac:=A_ (blk_drew Ac.1);replace HB:=A_ (below_drew1 HB.1);refine start_ (n:=24) (S:=fun w'=>w'.cell? ⟨g2_,0,none⟩ = some (.int .i64 a2_0) ∧ w'.cell? ⟨g2_,1,none⟩ = some (.slice A2_1 l2_1.length c2_1) ∧ w'.cell? ⟨g1_,0,none⟩ = some (.int .i64 a1_0) ∧ w'.cell? ⟨g1_,1,none⟩ = some (.slice A1_1 l1_1.length c1_1)) (ds:=[]) #[F,F,F,F,F,F,F,F,F,F,F,F,F,F,F,F,F,F,F,F,F,F,F,F] (by kernel_rfl) rfl rfl ⟨blk_cell Ab.1 0,blk_cell Ab.1 1,blk_cell Aa.1 0,blk_cell Aa.1 1⟩ (fun hHeld=>?_);refine with_tabW Aab.tab11 Aab.bits11 (fun HT_ HW_=>?_)
              generalize wr.drew = w38 at Aa Ab Ac HB hHeld ⊢
              refine pu_ (i:=0) (N:=46) #[T,F,F,F,F,F,F,F,F,F,F,F,F,F,F,F,F,F,F,F,F,F,F,F] HT_.1 rfl rfl (fun _ _ _ h=>h) rfl (h:=?_)
              refine pu_ (i:=1) (N:=47) #[T,T,F,F,F,F,F,F,F,F,F,F,F,F,F,F,F,F,F,F,F,F,F,F] HT_.1 rfl rfl (fun _ _ _ h=>h) rfl (h:=?_)
              refine pu_ (i:=3) (N:=49) #[T,T,F,T,F,F,F,F,F,F,F,F,F,F,F,F,F,F,F,F,F,F,F,F] HT_.1 rfl rfl (fun _ _ _ h=>h) rfl (h:=?_)
              refine pu_ (i:=4) (N:=50) #[T,T,F,T,T,F,F,F,F,F,F,F,F,F,F,F,F,F,F,F,F,F,F,F] HT_.1 rfl rfl (fun _ _ _ h=>h) rfl (h:=?_)
              refine pu_ (i:=7) (N:=53) #[T,T,F,T,T,F,F,T,F,F,F,F,F,F,F,F,F,F,F,F,F,F,F,F] HT_.1 rfl rfl (fun _ _ _ h=>h) rfl (h:=?_)
              refine pu_ (i:=8) (N:=54) #[T,T,F,T,T,F,F,T,T,F,F,F,F,F,F,F,F,F,F,F,F,F,F,F] HT_.1 rfl rfl (fun _ _ _ h=>h) rfl (h:=?_)
              refine take_ (i:=2) (N:=some 48) (v:=?_) (a':=?_) #[T,T,T,T,T,F,F,T,T,F,F,F,F,F,F,F,F,F,F,F,F,F,F,F] rfl rfl (take_ofW HT_.1 HW_.1 (by kernel_rfl)) (fun _ _ _ h=>h) (Or.inl ⟨by rfl,?_⟩) hHeld ?_ ?_
              rotate_left
              ·rintro w' ⟨s0,s1,s2,s3⟩
               go_simp
               with_reducible rfl
              rotate_left;·simp only [Act.put,L_,M_,N_,i64_w,i32_w];rfl
              refine take_ (i:=6) (N:=some 52) (v:=?_) (a':=?_) #[T,T,T,T,T,F,T,T,T,F,F,F,F,F,F,F,F,F,F,F,F,F,F,F] rfl rfl (take_ofW HT_.1 HW_.1 (by kernel_rfl)) (fun _ _ _ h=>h) (Or.inl ⟨by rfl,?_⟩) hHeld ?_ ?_
              rotate_left
              ·rintro w' ⟨s0,s1,s2,s3⟩
               go_simp
               with_reducible rfl
              rotate_left;·simp only [Act.put,L_,M_,N_,i64_w,i32_w];rfl
              refine one_ (i:=5) (N:=some 51) #[T,T,T,T,T,T,T,T,T,F,F,F,F,F,F,F,F,F,F,F,F,F,F,F] rfl rfl (one_of HT_.1 (by kernel_rfl)) (by decide) (fun K hK=>?_)
              refine goes_ Tryd.func69 (by kernel_rfl) rfl #[.agg #[.int .i64 a2_0,.slice A2_1 l2_1.length c2_1],.int .i64 x21_1,.int .i64 (rd l0 x41_3)] (by rfl) rfl rfl au_ ?_
              with_reducible refine (Aau.calls a2_0 _ _ l2_1 x21_1 (rd l0 x41_3) Ao _ ?side1 ?side2 A28.1).mono ?_
              (case side1=>exact cl_ (Kd.C_below HR2_1.1 HB.1))
              (case side2=>exact HC2_1.1)
              rintro e w39 ⟨rfl,hb⟩
              refine ⟨_,rfl,?_⟩
              replace Aa:=bz Aa hb;replace Ab:=bz Ab hb;replace Ac:=bz Ac hb;replace HB:=A_ (below_step bb_ hb);(try clear hb);(try clear hb2);(try clear hk);(try clear hi);refine hK.out _ _ ⟨blk_cell Ab.1 0,blk_cell Ab.1 1,blk_cell Aa.1 0,blk_cell Aa.1 1⟩ (fun hHeld=>?_)
              clear hK K;refine norm_ (a':=?_) ?_ ?_
              rotate_left
              ·show Act.put _ (some 51) _ = _
               simp only [Act.put,L_,M_,N_,i64_w,i32_w]
               rfl
              refine one_ (i:=9) (N:=some 55) #[T,T,T,T,T,T,T,T,T,T,F,F,F,F,F,F,F,F,F,F,F,F,F,F] rfl rfl (one_of HT_.1 (by kernel_rfl)) (by decide) (fun K hK=>?_)
              refine goes_ Tryd.func69 (by kernel_rfl) rfl #[.agg #[.int .i64 a1_0,.slice A1_1 l1_1.length c1_1],.int .i64 (l0.length : Int),.int .i64 x41_3] (by rfl) rfl rfl au_ ?_
              with_reducible refine (Aau.calls a1_0 _ _ l1_1 (l0.length : Int) x41_3 Ap _ ?side1 ?side2 A29.1).mono ?_
              (case side1=>exact cl_ (Kd.C_below HR1_1.1 HB.1))
              (case side2=>exact HC1_1.1)
              rintro e w40 ⟨rfl,hb⟩
              refine ⟨_,rfl,?_⟩
              replace Aa:=bz Aa hb;replace Ab:=bz Ab hb;replace Ac:=bz Ac hb;replace HB:=A_ (below_step bb_ hb);(try clear hb);(try clear hb2);(try clear hk);(try clear hi);refine hK.out _ _ ⟨blk_cell Ab.1 0,blk_cell Ab.1 1,blk_cell Aa.1 0,blk_cell Aa.1 1⟩ (fun hHeld=>?_)
              clear hK K;refine norm_ (a':=?_) ?_ ?_
              rotate_left
              ·show Act.put _ (some 55) _ = _
               simp only [Act.put,L_,M_,N_,i64_w,i32_w]
               rfl
              refine pu_ (i:=10) (N:=56) #[T,T,T,T,T,T,T,T,T,T,T,F,F,F,F,F,F,F,F,F,F,F,F,F] HT_.1 rfl rfl (fun _ _ _ h=>h) rfl (h:=?_)
              refine pu_ (i:=11) (N:=57) #[T,T,T,T,T,T,T,T,T,T,T,T,F,F,F,F,F,F,F,F,F,F,F,F] HT_.1 rfl rfl (fun _ _ _ h=>h) rfl (h:=?_)
              refine pu_ (i:=12) (N:=58) #[T,T,T,T,T,T,T,T,T,T,T,T,T,F,F,F,F,F,F,F,F,F,F,F] HT_.1 rfl rfl (fun _ _ _ h=>h) rfl (h:=?_)
              refine pure_ (i:=13) (N:=some 59) (v:=undef) (a':=?_) #[T,T,T,T,T,T,T,T,T,T,T,T,T,T,F,F,F,F,F,F,F,F,F,F] rfl rfl (any_of HT_.1 (by kernel_rfl)) (fun _ _ _ h=>h) (Or.inr ⟨by rfl,rfl⟩) ?_ ?_
              rotate_left;·simp only [Act.put,L_,M_,N_,i64_w,i32_w];rfl
              refine pure_ (i:=14) (N:=some 60) (v:=undef) (a':=?_) #[T,T,T,T,T,T,T,T,T,T,T,T,T,T,T,F,F,F,F,F,F,F,F,F] rfl rfl (any_of HT_.1 (by kernel_rfl)) (fun _ _ _ h=>h) (Or.inr ⟨by rfl,rfl⟩) ?_ ?_
              rotate_left;·simp only [Act.put,L_,M_,N_,i64_w,i32_w];rfl
              refine pure_ (i:=15) (N:=some 61) (v:=undef) (a':=?_) #[T,T,T,T,T,T,T,T,T,T,T,T,T,T,T,T,F,F,F,F,F,F,F,F] rfl rfl (any_of HT_.1 (by kernel_rfl)) (fun _ _ _ h=>h) (Or.inr ⟨by rfl,rfl⟩) ?_ ?_
              rotate_left;·simp only [Act.put,L_,M_,N_,i64_w,i32_w];rfl
              refine pure_ (i:=16) (N:=some 62) (v:=undef) (a':=?_) #[T,T,T,T,T,T,T,T,T,T,T,T,T,T,T,T,T,F,F,F,F,F,F,F] rfl rfl (any_of HT_.1 (by kernel_rfl)) (fun _ _ _ h=>h) (Or.inr ⟨by rfl,rfl⟩) ?_ ?_
              rotate_left;·simp only [Act.put,L_,M_,N_,i64_w,i32_w];rfl
              refine pure_ (i:=17) (N:=some 63) (v:=undef) (a':=?_) #[T,T,T,T,T,T,T,T,T,T,T,T,T,T,T,T,T,T,F,F,F,F,F,F] rfl rfl (any_of HT_.1 (by kernel_rfl)) (fun _ _ _ h=>h) (Or.inr ⟨by rfl,rfl⟩) ?_ ?_
              rotate_left;·simp only [Act.put,L_,M_,N_,i64_w,i32_w];rfl
              refine pure_ (i:=18) (N:=some 64) (v:=undef) (a':=?_) #[T,T,T,T,T,T,T,T,T,T,T,T,T,T,T,T,T,T,T,F,F,F,F,F] rfl rfl (any_of HT_.1 (by kernel_rfl)) (fun _ _ _ h=>h) (Or.inr ⟨by rfl,rfl⟩) ?_ ?_
              rotate_left;·simp only [Act.put,L_,M_,N_,i64_w,i32_w];rfl
              refine pure_ (i:=19) (N:=some 65) (v:=undef) (a':=?_) #[T,T,T,T,T,T,T,T,T,T,T,T,T,T,T,T,T,T,T,T,F,F,F,F] rfl rfl (any_of HT_.1 (by kernel_rfl)) (fun _ _ _ h=>h) (Or.inr ⟨by rfl,rfl⟩) ?_ ?_
              rotate_left;·simp only [Act.put,L_,M_,N_,i64_w,i32_w];rfl
              refine pure_ (i:=20) (N:=some 66) (v:=undef) (a':=?_) #[T,T,T,T,T,T,T,T,T,T,T,T,T,T,T,T,T,T,T,T,T,F,F,F] rfl rfl (any_of HT_.1 (by kernel_rfl)) (fun _ _ _ h=>h) (Or.inr ⟨by rfl,rfl⟩) ?_ ?_
              rotate_left;·simp only [Act.put,L_,M_,N_,i64_w,i32_w];rfl
              refine pure_ (i:=21) (N:=some 67) (v:=undef) (a':=?_) #[T,T,T,T,T,T,T,T,T,T,T,T,T,T,T,T,T,T,T,T,T,T,F,F] rfl rfl (any_of HT_.1 (by kernel_rfl)) (fun _ _ _ h=>h) (Or.inr ⟨by rfl,rfl⟩) ?_ ?_
              rotate_left;·simp only [Act.put,L_,M_,N_,i64_w,i32_w];rfl
              refine pu_ (i:=22) (N:=68) #[T,T,T,T,T,T,T,T,T,T,T,T,T,T,T,T,T,T,T,T,T,T,T,F] HT_.1 rfl rfl (fun _ _ _ h=>h) rfl (h:=?_)
              refine pu_ (i:=23) (N:=8) #[T,T,T,T,T,T,T,T,T,T,T,T,T,T,T,T,T,T,T,T,T,T,T,T] HT_.1 rfl rfl (fun _ _ _ h=>h) rfl (h:=?_)
              refine done_ (done_of HT_.1 (by kernel_rfl)) ?_
              try go_wp2
              go_roundg k3
              case measure=>have:=HK1.1;have:=HJ14.1;have:=HK3.1;omega
              case rel=>exact ⟨(false),(wrap64 (x41_3 + 1)),(by first|rfl|(simp;done)|(simp [*];done)),(by first|rfl|(simp;done)|(simp [*];done)),H',⟨by have:=HK1.1;have:=HJ14.1;have:=HK3.1;omega⟩,⟨bl_ Aa⟩,⟨bl_ Ab⟩,⟨bl_ Ac⟩,⟨bb_⟩⟩
            ·replace c27:=Bool.eq_false_iff.mpr c27;subst c27;rw [if_neg nf_] at H;have H':=A_ H;clear H;have Am : 0 ≤ (x41_3 : Int):=of_decide_eq_true (by first|(with_reducible assumption)|assumption);have An : x41_3 < (l0.length : Int):=of_decide_eq_true (by first|(with_reducible assumption)|assumption);obtain ⟨Bc,A9,Af⟩:=Kd.at_int HR0.1 x41_3 Am An;cases A9
             (try replace Af:=(HB.1.cell (World.block_lt_of_cell? w _ Af)).trans Af);replace Am:=eq_true Am;replace An:=eq_true An;try go_wp2
             replace Aa:=A_ (blk_drew Aa.1);replace Ab:=A_ (blk_drew Ab.1);replace Ac:=A_ (blk_drew Ac.1);replace HB:=A_ (below_drew1 HB.1);refine start_ (n:=24) (S:=fun w'=>True) (ds:=[]) #[F,F,F,F,F,F,F,F,F,F,F,F,F,F,F,F,F,F,F,F,F,F,F,F] (by kernel_rfl) rfl rfl trivial (fun hHeld=>?_);refine with_tabW Aab.tab11 Aab.bits11 (fun HT_ HW_=>?_)
             generalize wr.drew = w41 at Aa Ab Ac HB hHeld ⊢
             refine pu_ (i:=0) (N:=46) #[T,F,F,F,F,F,F,F,F,F,F,F,F,F,F,F,F,F,F,F,F,F,F,F] HT_.1 rfl rfl (fun _ _ _ h=>h) rfl (h:=?_)
             refine pu_ (i:=1) (N:=47) #[T,T,F,F,F,F,F,F,F,F,F,F,F,F,F,F,F,F,F,F,F,F,F,F] HT_.1 rfl rfl (fun _ _ _ h=>h) rfl (h:=?_)
             refine pure_ (i:=2) (N:=some 48) (v:=undef) (a':=?_) #[T,T,T,F,F,F,F,F,F,F,F,F,F,F,F,F,F,F,F,F,F,F,F,F] rfl rfl (any_of HT_.1 (by kernel_rfl)) (fun _ _ _ h=>h) (Or.inr ⟨by rfl,rfl⟩) ?_ ?_
             rotate_left;·simp only [Act.put,L_,M_,N_,i64_w,i32_w];rfl
             refine pure_ (i:=3) (N:=some 49) (v:=undef) (a':=?_) #[T,T,T,T,F,F,F,F,F,F,F,F,F,F,F,F,F,F,F,F,F,F,F,F] rfl rfl (any_of HT_.1 (by kernel_rfl)) (fun _ _ _ h=>h) (Or.inr ⟨by rfl,rfl⟩) ?_ ?_
             rotate_left;·simp only [Act.put,L_,M_,N_,i64_w,i32_w];rfl
             refine pure_ (i:=4) (N:=some 50) (v:=undef) (a':=?_) #[T,T,T,T,T,F,F,F,F,F,F,F,F,F,F,F,F,F,F,F,F,F,F,F] rfl rfl (any_of HT_.1 (by kernel_rfl)) (fun _ _ _ h=>h) (Or.inr ⟨by rfl,rfl⟩) ?_ ?_
             rotate_left;·simp only [Act.put,L_,M_,N_,i64_w,i32_w];rfl
             refine pure_ (i:=5) (N:=some 51) (v:=undef) (a':=?_) #[T,T,T,T,T,T,F,F,F,F,F,F,F,F,F,F,F,F,F,F,F,F,F,F] rfl rfl (any_of HT_.1 (by kernel_rfl)) (fun _ _ _ h=>h) (Or.inr ⟨by rfl,rfl⟩) ?_ ?_
             rotate_left;·simp only [Act.put,L_,M_,N_,i64_w,i32_w];rfl
             refine pure_ (i:=6) (N:=some 52) (v:=undef) (a':=?_) #[T,T,T,T,T,T,T,F,F,F,F,F,F,F,F,F,F,F,F,F,F,F,F,F] rfl rfl (any_of HT_.1 (by kernel_rfl)) (fun _ _ _ h=>h) (Or.inr ⟨by rfl,rfl⟩) ?_ ?_
             rotate_left;·simp only [Act.put,L_,M_,N_,i64_w,i32_w];rfl
             refine pure_ (i:=7) (N:=some 53) (v:=undef) (a':=?_) #[T,T,T,T,T,T,T,T,F,F,F,F,F,F,F,F,F,F,F,F,F,F,F,F] rfl rfl (any_of HT_.1 (by kernel_rfl)) (fun _ _ _ h=>h) (Or.inr ⟨by rfl,rfl⟩) ?_ ?_
             rotate_left;·simp only [Act.put,L_,M_,N_,i64_w,i32_w];rfl
             refine pure_ (i:=8) (N:=some 54) (v:=undef) (a':=?_) #[T,T,T,T,T,T,T,T,T,F,F,F,F,F,F,F,F,F,F,F,F,F,F,F] rfl rfl (any_of HT_.1 (by kernel_rfl)) (fun _ _ _ h=>h) (Or.inr ⟨by rfl,rfl⟩) ?_ ?_
             rotate_left;·simp only [Act.put,L_,M_,N_,i64_w,i32_w];rfl
             refine pure_ (i:=9) (N:=some 55) (v:=undef) (a':=?_) #[T,T,T,T,T,T,T,T,T,T,F,F,F,F,F,F,F,F,F,F,F,F,F,F] rfl rfl (any_of HT_.1 (by kernel_rfl)) (fun _ _ _ h=>h) (Or.inr ⟨by rfl,rfl⟩) ?_ ?_
             rotate_left;·simp only [Act.put,L_,M_,N_,i64_w,i32_w];rfl
             refine pure_ (i:=10) (N:=some 56) (v:=undef) (a':=?_) #[T,T,T,T,T,T,T,T,T,T,T,F,F,F,F,F,F,F,F,F,F,F,F,F] rfl rfl (any_of HT_.1 (by kernel_rfl)) (fun _ _ _ h=>h) (Or.inr ⟨by rfl,rfl⟩) ?_ ?_
             rotate_left;·simp only [Act.put,L_,M_,N_,i64_w,i32_w];rfl
             refine pu_ (i:=11) (N:=57) #[T,T,T,T,T,T,T,T,T,T,T,T,F,F,F,F,F,F,F,F,F,F,F,F] HT_.1 rfl rfl (fun _ _ _ h=>h) rfl (h:=?_)
             refine pu_ (i:=12) (N:=58) #[T,T,T,T,T,T,T,T,T,T,T,T,T,F,F,F,F,F,F,F,F,F,F,F] HT_.1 rfl rfl (fun _ _ _ h=>h) rfl (h:=?_)
             refine pure_ (i:=13) (N:=some 59) (v:=undef) (a':=?_) #[T,T,T,T,T,T,T,T,T,T,T,T,T,T,F,F,F,F,F,F,F,F,F,F] rfl rfl (any_of HT_.1 (by kernel_rfl)) (fun _ _ _ h=>h) (Or.inr ⟨by rfl,rfl⟩) ?_ ?_
             rotate_left;·simp only [Act.put,L_,M_,N_,i64_w,i32_w];rfl
             refine pure_ (i:=14) (N:=some 60) (v:=undef) (a':=?_) #[T,T,T,T,T,T,T,T,T,T,T,T,T,T,T,F,F,F,F,F,F,F,F,F] rfl rfl (any_of HT_.1 (by kernel_rfl)) (fun _ _ _ h=>h) (Or.inr ⟨by rfl,rfl⟩) ?_ ?_
             rotate_left;·simp only [Act.put,L_,M_,N_,i64_w,i32_w];rfl
             refine pure_ (i:=15) (N:=some 61) (v:=undef) (a':=?_) #[T,T,T,T,T,T,T,T,T,T,T,T,T,T,T,T,F,F,F,F,F,F,F,F] rfl rfl (any_of HT_.1 (by kernel_rfl)) (fun _ _ _ h=>h) (Or.inr ⟨by rfl,rfl⟩) ?_ ?_
             rotate_left;·simp only [Act.put,L_,M_,N_,i64_w,i32_w];rfl
             refine pure_ (i:=16) (N:=some 62) (v:=undef) (a':=?_) #[T,T,T,T,T,T,T,T,T,T,T,T,T,T,T,T,T,F,F,F,F,F,F,F] rfl rfl (any_of HT_.1 (by kernel_rfl)) (fun _ _ _ h=>h) (Or.inr ⟨by rfl,rfl⟩) ?_ ?_
             rotate_left;·simp only [Act.put,L_,M_,N_,i64_w,i32_w];rfl
             refine pure_ (i:=17) (N:=some 63) (v:=undef) (a':=?_) #[T,T,T,T,T,T,T,T,T,T,T,T,T,T,T,T,T,T,F,F,F,F,F,F] rfl rfl (any_of HT_.1 (by kernel_rfl)) (fun _ _ _ h=>h) (Or.inr ⟨by rfl,rfl⟩) ?_ ?_
             rotate_left;·simp only [Act.put,L_,M_,N_,i64_w,i32_w];rfl
             refine pure_ (i:=18) (N:=some 64) (v:=undef) (a':=?_) #[T,T,T,T,T,T,T,T,T,T,T,T,T,T,T,T,T,T,T,F,F,F,F,F] rfl rfl (any_of HT_.1 (by kernel_rfl)) (fun _ _ _ h=>h) (Or.inr ⟨by rfl,rfl⟩) ?_ ?_
             rotate_left;·simp only [Act.put,L_,M_,N_,i64_w,i32_w];rfl
             refine pure_ (i:=19) (N:=some 65) (v:=undef) (a':=?_) #[T,T,T,T,T,T,T,T,T,T,T,T,T,T,T,T,T,T,T,T,F,F,F,F] rfl rfl (any_of HT_.1 (by kernel_rfl)) (fun _ _ _ h=>h) (Or.inr ⟨by rfl,rfl⟩) ?_ ?_
             rotate_left;·simp only [Act.put,L_,M_,N_,i64_w,i32_w];rfl
             refine pure_ (i:=20) (N:=some 66) (v:=undef) (a':=?_) #[T,T,T,T,T,T,T,T,T,T,T,T,T,T,T,T,T,T,T,T,T,F,F,F] rfl rfl (any_of HT_.1 (by kernel_rfl)) (fun _ _ _ h=>h) (Or.inr ⟨by rfl,rfl⟩) ?_ ?_
             rotate_left;·simp only [Act.put,L_,M_,N_,i64_w,i32_w];rfl
             refine pure_ (i:=21) (N:=some 67) (v:=undef) (a':=?_) #[T,T,T,T,T,T,T,T,T,T,T,T,T,T,T,T,T,T,T,T,T,T,F,F] rfl rfl (any_of HT_.1 (by kernel_rfl)) (fun _ _ _ h=>h) (Or.inr ⟨by rfl,rfl⟩) ?_ ?_
             rotate_left;·simp only [Act.put,L_,M_,N_,i64_w,i32_w];rfl
             refine pu_ (i:=22) (N:=68) #[T,T,T,T,T,T,T,T,T,T,T,T,T,T,T,T,T,T,T,T,T,T,T,F] HT_.1 rfl rfl (fun _ _ _ h=>h) rfl (h:=?_)
             refine pu_ (i:=23) (N:=8) #[T,T,T,T,T,T,T,T,T,T,T,T,T,T,T,T,T,T,T,T,T,T,T,T] HT_.1 rfl rfl (fun _ _ _ h=>h) rfl (h:=?_)
             refine done_ (done_of HT_.1 (by kernel_rfl)) ?_
             try go_wp2
             go_roundg k3
             case measure=>have:=HK1.1;have:=HJ14.1;have:=HK3.1;omega
             case rel=>exact ⟨(false),(wrap64 (x41_3 + 1)),(by first|rfl|(simp;done)|(simp [*];done)),(by first|rfl|(simp;done)|(simp [*];done)),H',⟨by have:=HK1.1;have:=HJ14.1;have:=HK3.1;omega⟩,⟨bl_ Aa⟩,⟨bl_ Ab⟩,⟨bl_ Ac⟩,⟨bb_⟩⟩
           ·rw [if_neg c26] at H;exact absurd H (by simp)
          ·rw [if_neg c25] at H;exact absurd H (by simp)
         ·rw [if_neg c24] at H;have c24b0 : decide (x41_3 < (l0.length : Int)) = false:=decide_eq_false c24;clear c24;by_cases c42 : x8_3 = true
          ·subst c42;rw [if_pos rfl] at H;replace H:=Option.bind_eq_some_iff.mp H;obtain ⟨Ah,Bo,H⟩:=H;(try dsimp only at H);have A43:=A_ Bo;clear Bo;obtain ⟨Al,At⟩ : ∃ y_ : List Int,y_ = (([x21_1] : List Int)):=⟨_,rfl⟩;replace H : (if Ah.length + Al.length < 17592186044416 then ((is (Ah ++ Al)).bind fun Ai=>(if Ai = ([] : List Int) then (Aab.l0 is k3 l0 (l0.length : Int) a2_0 (wrap64 (x21_1 + 1)) a1_0 l1_1 a2_0 l2_1) else (some Ai))) else (none)) = some r:=by first|(rw [At];with_reducible exact H)|(have H2_:=(Option.bind_some _ _).symm.trans H;rw [At];with_reducible exact H2_)|(have H2_:=(Option.bind_some _ _).symm.trans H;with_reducible exact H2_)|with_reducible exact H|(rw [At];exact H)|exact H
           have Ak:=A_ At;clear At;by_cases c44 : Ah.length + Al.length < 17592186044416
           ·rw [if_pos c44] at H;have LMc44:=A_ c44;clear c44;obtain ⟨As,Au⟩ : ∃ y_ : List Int,y_ = (Ah ++ Al):=⟨_,rfl⟩;replace H : ((is As).bind fun Ai=>(if Ai = ([] : List Int) then (Aab.l0 is k3 l0 (l0.length : Int) a2_0 (wrap64 (x21_1 + 1)) a1_0 l1_1 a2_0 l2_1) else (some Ai))) = some r:=by first|(rw [Au];with_reducible exact H)|(have H2_:=(Option.bind_some _ _).symm.trans H;rw [Au];with_reducible exact H2_)|(have H2_:=(Option.bind_some _ _).symm.trans H;with_reducible exact H2_)|with_reducible exact H|(rw [Au];exact H)|exact H
            have Az:=A_ Au;clear Au;replace H:=Option.bind_eq_some_iff.mp H;obtain ⟨Ai,Bp,H⟩:=H;(try dsimp only at H);have A45:=A_ Bp;clear Bp;by_cases c46 : Ai = ([] : List Int)
            ·rw [if_pos c46] at H;have c46b0 : (Ai == ([] : List Int)) = true:=beq_iff_eq.mpr c46;have c46b1 : (Ai != ([] : List Int)) = false:=bne_eq_false_iff_eq.mpr c46;clear c46;have H':=A_ H;clear H;try go_wp2
             replace Aa:=A_ (blk_drew Aa.1);replace Ab:=A_ (blk_drew Ab.1);replace Ac:=A_ (blk_drew Ac.1);replace HB:=A_ (below_drew1 HB.1);refine start_ (n:=8) (S:=fun w'=>w'.cell? ⟨g3_,0,none⟩ = some (.func (.func 128) #[] #[.pointer (some ⟨g1_,0,none⟩),.pointer (some ⟨g2_,0,none⟩),.pointer (some ⟨g3_,0,none⟩)])) (ds:=[]) #[F,F,F,F,F,F,F,F] (by kernel_rfl) rfl rfl (blk_cell Ac.1 0) (fun hHeld=>?_);refine with_tabW Aab.tab14 Aab.bits14 (fun HT_ HW_=>?_)
             generalize wr.drew = w47 at Aa Ab Ac HB hHeld ⊢
             refine pu_ (i:=1) (N:=72) #[F,T,F,F,F,F,F,F] HT_.1 rfl rfl (fun _ _ _ h=>h) rfl (h:=?_)
             refine pu_ (i:=3) (N:=74) #[F,T,F,T,F,F,F,F] HT_.1 rfl rfl (fun _ _ _ h=>h) rfl (h:=?_)
             refine take_ (i:=0) (N:=some 71) (v:=?_) (a':=?_) #[T,T,F,T,F,F,F,F] rfl rfl (take_ofW HT_.1 HW_.1 (by kernel_rfl)) (fun _ _ _ h=>h) (Or.inl ⟨by rfl,?_⟩) hHeld ?_ ?_
             rotate_left
             ·intro w' s0
              go_simp
              with_reducible rfl
             rotate_left;·simp only [Act.put,L_,M_,N_,i64_w,i32_w];rfl
             refine join_ (σ:=Value × Value) 3 #[T,T,T,T,T,F,F,F] (fun s_=>[(73,s_.1),(75,s_.2)]) (fun s_ w'=>(w'.cell? ⟨g3_,0,none⟩ = some (.func (.func 128) #[] #[.pointer (some ⟨g1_,0,none⟩),.pointer (some ⟨g2_,0,none⟩),.pointer (some ⟨g3_,0,none⟩)])) ∧ (Kd.R (Kd.int .i64) 3 w' w.heap.size (fun k_=>some k_ ≠ (s_.2 : Value).ownBlock) s_.1 Ah) ∧ (Kd.R (Kd.int .i64) 3 w' w.heap.size (fun k_=>some k_ ≠ (s_.1 : Value).ownBlock) s_.2 Al) ∧ (w'.heap[g1_]? = some (.cells #[.int .i64 a1_0,.slice A1_1 l1_1.length c1_1] 26 (0,0))) ∧ (w'.heap[g2_]? = some (.cells #[.int .i64 a2_0,.slice A2_1 l2_1.length c2_1] 26 (0,0))) ∧ (w'.heap[g3_]? = some (.cells #[.func (.func 128) #[] #[.pointer (some ⟨g1_,0,none⟩),.pointer (some ⟨g2_,0,none⟩),.pointer (some ⟨g3_,0,none⟩)]] 35 (0,0))) ∧ (Below w.heap.size w w')) ?_ ?_
             rotate_left
             ·intro hCont
              refine two_ (i:=2) (j:=4) (Ni:=some 73) (Nj:=some 75) #[T,T,T,T,F,F,F,F] #[T,T,F,T,T,F,F,F] rfl rfl rfl rfl (two_of HT_.1 (by kernel_rfl)) (by decide) (by decide) (fun K hK=>?_) (fun K hK=>?_)
              ·skip
               refine goes_ Tryd.func100 (by kernel_rfl) rfl #[.slice A0 l0.length c0] (by rfl) rfl rfl au_ ?_
               with_reducible refine (Aaz.calls _ _ l0 Ah _ ?side1 ?side2 A43.1).mono ?_
               (case side1=>exact cl_ (Kd.C_below HR0.1 HB.1))
               (case side2=>exact HC0.1)
               rintro e w48 ⟨Ag,rfl,ho0,hb⟩
               refine ⟨_,rfl,?_⟩
               have Ae:=A_ (Kd.R_lower ho0 (below_size bb_));replace Aa:=bz Aa hb;replace Ab:=bz Ab hb;replace Ac:=bz Ac hb;replace HB:=A_ (below_step bb_ hb);(try clear hb);(try clear hb2);(try clear hk);(try clear hi);(try clear ho0);refine hK.out _ _ (blk_cell Ac.1 0) (fun hHeld=>?_)
               clear hK K;refine norm_ (a':=?_) ?_ ?_
               rotate_left
               ·show Act.put _ (some 73) _ = _
                simp only [Act.put,L_,M_,N_,i64_w,i32_w]
                rfl
               refine one_ (i:=4) (N:=some 75) #[T,T,T,T,T,F,F,F] rfl rfl (one_of HT_.1 (by kernel_rfl)) (by decide) (fun K hK=>?_)
               refine Kd.R_lit_step (Kd.int .i64) _ 3 ?hg (N:=75) ?hd (xs:=([x21_1] : List Int)) (inner:=[.int .i64 x21_1]) (ok:=fun _=>True) (okp:=fun _=>True) ?hr ?hp (fun _ hk=>hk) trivial (Below.refl _ _) (Nat.le_refl _) (by simp) ?_;(case hd=>rfl);(case hg=>rfl);(case hr=>go_simp;try rfl);(case hp=>exact (Reps.one (show Kd.M (Kd.int .i64) _ _ _ x21_1 [.int .i64 x21_1] from rfl) (Reps.none _ _)))
               intro Aj w49 ho50 hb hg_ hnew_
               clear hg_ hnew_;(first|rw [← Ak.1] at ho50|(simp only [Int.reduceToNat] at ho50;rw [← Ak.1] at ho50))
               have Ad:=A_ (Kd.R_lower (Kd.R_new' ho50 (Kd.R_lt (rl_ Ae))) (below_size bb_));replace Ae:=A_ (Kd.R_elder' (rl_ Ae) (Kd.R_base ho50) hb);replace Aa:=bz Aa hb;replace Ab:=bz Ab hb;replace Ac:=bz Ac hb;replace HB:=A_ (below_step bb_ hb);clear hb ho50;refine hK.out _ _ (blk_cell Ac.1 0) (fun hHeld=>?_)
               clear hK K;refine norm_ (a':=?_) ?_ ?_
               rotate_left
               ·show Act.put _ (some 75) _ = _
                simp only [Act.put,L_,M_,N_,i64_w,i32_w]
                rfl
               exact norm_ (by simp only [putAll,Act.put,L_,M_,N_]) (hCont (Ag,Aj) _ ⟨hHeld,(rq_ (Kd.R_mono Ae.1 (fun _ hk=>hk.2))),(rq_ (Kd.R_mono Ad.1 (fun _ hk=>hk.2))),(bl_ Aa),(bl_ Ab),(bl_ Ac),bb_⟩)
              ·skip
               refine Kd.R_lit_step (Kd.int .i64) _ 3 ?hg (N:=75) ?hd (xs:=([x21_1] : List Int)) (inner:=[.int .i64 x21_1]) (ok:=fun _=>True) (okp:=fun _=>True) ?hr ?hp (fun _ hk=>hk) trivial (Below.refl _ _) (Nat.le_refl _) (by simp) ?_;(case hd=>rfl);(case hg=>rfl);(case hr=>go_simp;try rfl);(case hp=>exact (Reps.one (show Kd.M (Kd.int .i64) _ _ _ x21_1 [.int .i64 x21_1] from rfl) (Reps.none _ _)))
               intro Aj w48 ho49 hb hg_ hnew_
               clear hg_ hnew_;(first|rw [← Ak.1] at ho49|(simp only [Int.reduceToNat] at ho49;rw [← Ak.1] at ho49))
               have Ad:=A_ (Kd.R_lower ho49 (below_size bb_));replace Aa:=bz Aa hb;replace Ab:=bz Ab hb;replace Ac:=bz Ac hb;replace HB:=A_ (below_step bb_ hb);clear hb ho49;refine hK.out _ _ (blk_cell Ac.1 0) (fun hHeld=>?_)
               clear hK K;refine norm_ (a':=?_) ?_ ?_
               rotate_left
               ·show Act.put _ (some 75) _ = _
                simp only [Act.put,L_,M_,N_,i64_w,i32_w]
                rfl
               refine one_ (i:=2) (N:=some 73) #[T,T,T,T,T,F,F,F] rfl rfl (one_of HT_.1 (by kernel_rfl)) (by decide) (fun K hK=>?_)
               refine goes_ Tryd.func100 (by kernel_rfl) rfl #[.slice A0 l0.length c0] (by rfl) rfl rfl au_ ?_
               with_reducible refine (Aaz.calls _ _ l0 Ah _ ?side1 ?side2 A43.1).mono ?_
               (case side1=>exact cl_ (Kd.C_below HR0.1 HB.1))
               (case side2=>exact HC0.1)
               rintro e w50 ⟨Ag,rfl,ho0,hb⟩
               refine ⟨_,rfl,?_⟩
               have Ae:=A_ (Kd.R_lower (Kd.R_new' ho0 (Kd.R_lt (rl_ Ad))) (below_size bb_));replace Ad:=A_ (Kd.R_elder' (rl_ Ad) (Kd.R_base ho0) hb);replace Aa:=bz Aa hb;replace Ab:=bz Ab hb;replace Ac:=bz Ac hb;replace HB:=A_ (below_step bb_ hb);(try clear hb);(try clear hb2);(try clear hk);(try clear hi);(try clear ho0);refine hK.out _ _ (blk_cell Ac.1 0) (fun hHeld=>?_)
               clear hK K;refine norm_ (a':=?_) ?_ ?_
               rotate_left
               ·show Act.put _ (some 73) _ = _
                simp only [Act.put,L_,M_,N_,i64_w,i32_w]
                rfl
               exact norm_ (by simp only [putAll,Act.put,L_,M_,N_]) (hCont (Ag,Aj) _ ⟨hHeld,(rq_ (Kd.R_mono Ae.1 (fun _ hk=>hk.2))),(rq_ (Kd.R_mono Ad.1 (fun _ hk=>hk.2))),(bl_ Aa),(bl_ Ab),(bl_ Ac),bb_⟩)
             rintro ⟨Ag,Aj⟩ w51 ⟨hS_,h0_,h1_,h2_,h3_,h4_,h5_⟩
             have n0_ : Aside0 (Kd.R (Kd.int .i64) 3 w51 w.heap.size (fun k_=>some k_ ≠ (Aj : Value).ownBlock) Ag Ah):=⟨h0_⟩;have n1_ : Aside0 (Kd.R (Kd.int .i64) 3 w51 w.heap.size (fun k_=>some k_ ≠ (Ag : Value).ownBlock) Aj Al):=⟨h1_⟩;have n2_ : Aside0 (w51.heap[g1_]? = some (.cells #[.int .i64 a1_0,.slice A1_1 l1_1.length c1_1] 26 (0,0))):=⟨h2_⟩;have n3_ : Aside0 (w51.heap[g2_]? = some (.cells #[.int .i64 a2_0,.slice A2_1 l2_1.length c2_1] 26 (0,0))):=⟨h3_⟩;have n4_ : Aside0 (w51.heap[g3_]? = some (.cells #[.func (.func 128) #[] #[.pointer (some ⟨g1_,0,none⟩),.pointer (some ⟨g2_,0,none⟩),.pointer (some ⟨g3_,0,none⟩)]] 35 (0,0))):=⟨h4_⟩;have n5_ : Aside0 (Below w.heap.size w w51):=⟨h5_⟩;clear Aa;clear Ab;clear Ac;clear HB;clear h0_ h1_ h2_ h3_ h4_ h5_;have Ae:=n0_;have Ad:=n1_;have Aa:=n2_;have Ab:=n3_;have Ac:=n4_;have HB:=n5_;clear n0_ n1_ n2_ n3_ n4_ n5_;have hHeld : w51.cell? ⟨g3_,0,none⟩ = some (.func (.func 128) #[] #[.pointer (some ⟨g1_,0,none⟩),.pointer (some ⟨g2_,0,none⟩),.pointer (some ⟨g3_,0,none⟩)]):=hS_;obtain ⟨Ao53,co53,eo53⟩:=Kd.R_slice Ad.1;(first|subst eo53|(injection eo53 with f1_ f2_ f3_;have f4_:=f1_.symm;have f5_:=f3_.symm;clear f1_ f2_ f3_;subst f4_;subst f5_))
             refine norm_ (a':=?_) ?_ ?_
             rotate_left;·simp only [putAll,Act.put,L_,M_,N_];rfl
             refine one_ (i:=5) (N:=some 76) #[T,T,T,T,T,T,F,F] rfl rfl (one_of HT_.1 (by kernel_rfl)) (by decide) (fun K hK=>?_)
             refine Kd.R_append_rows_step (Kd.int .i64) (w0:=w) w.heap.size (by rfl) (.tmp 73) (.tmp 75) 24 3 (.int .i64 0) 8 rfl Tryd.underlying24 info3 rfl (by decide) (by omega) Ag Ah Al _ _ _ (fun k_=>some k_ ≠ (.slice Ao53 Al.length co53 : Value).ownBlock) (fun _=>False) rfl rfl ?aO ?aR (fun _ _ h=>h) (fun _ h=>h.elim) ?aF ?aB ?aS ?aL ?_
             (case aR=>exact cl_ (Kd.R_reads' Ad.1).2.2)
             (case aB=>exact bb_)
             (case aF=>exact (fun k_ hk=>Kd.fresh' (Kd.R_lt (rl_ Ad)) k_ hk))
             (case aO=>exact (rl_ Ae))
             (case aS=>exact (below_size bb_))
             (case aL=>have:=LMc44.1;omega)
             intro Br w52 ho hb hg hat
             rw [← Az.1] at ho;replace Aa:=A_ (blk_grown (g:=g1_) (o:=.cells #[.int .i64 a1_0,.slice A1_1 l1_1.length c1_1] 26 (0,0)) (bl_ Aa) hg (Kd.R_ne Ae.1 Aa.1 (by decide)));replace Ab:=A_ (blk_grown (g:=g2_) (o:=.cells #[.int .i64 a2_0,.slice A2_1 l2_1.length c2_1] 26 (0,0)) (bl_ Ab) hg (Kd.R_ne Ae.1 Ab.1 (by decide)));replace Ac:=A_ (blk_grown (g:=g3_) (o:=.cells #[.func (.func 128) #[] #[.pointer (some ⟨g1_,0,none⟩),.pointer (some ⟨g2_,0,none⟩),.pointer (some ⟨g3_,0,none⟩)]] 35 (0,0)) (bl_ Ac) hg (Kd.R_ne Ae.1 Ac.1 (by decide)));replace Ad:=A_ (Kd.R_after (ok:=(fun _=>True)) (rq_ (Kd.R_mono Ad.1 (fun _ hk=>⟨trivial,hk⟩))) hg hat);replace HB:=A_ (hb);have Aq:=A_ (ho);clear Ae;clear ho hb hg hat;obtain ⟨Ao54,co54,eo54⟩:=Kd.R_slice Aq.1;(first|subst eo54|(injection eo54 with f1_ f2_ f3_;have f4_:=f1_.symm;have f5_:=f3_.symm;clear f1_ f2_ f3_;subst f4_;subst f5_))
             refine hK.out _ _ (blk_cell Ac.1 0) (fun hHeld=>?_)
             clear hK K;refine norm_ (a':=?_) ?_ ?_
             rotate_left
             ·show Act.put _ (some 76) _ = _
              simp only [Act.put,L_,M_,N_,i64_w,i32_w]
              rfl
             refine one_ (i:=6) (N:=some 77) #[T,T,T,T,T,T,T,F] rfl rfl (one_of HT_.1 (by kernel_rfl)) (by decide) (fun K hK=>?_)
             refine goesC_ Tryd.func128 (by kernel_rfl) rfl #[.slice Ao54 As.length co54] #[.pointer (some ⟨g1_,0,none⟩),.pointer (some ⟨g2_,0,none⟩),.pointer (some ⟨g3_,0,none⟩)] #[.slice Ao54 As.length co54,.pointer (some ⟨g1_,0,none⟩),.pointer (some ⟨g2_,0,none⟩),.pointer (some ⟨g3_,0,none⟩)] (by rfl) rfl rfl rfl (by first|rfl|(simp;done)) au_ ?_
             refine (HI.1 _ Ao54 co54 w.heap.size As Ai ?sideB ?sideZ ?sideO A45.1).mono ?_
             (case sideB=>repeat (first|(with_reducible first|exact HB.1|apply below_alloc|apply pw_below_drewN|apply below_drew1|refine below_set ?_ (Aside0.out (by assumption)))|exact HB.1))
             (case sideZ=>exact below_size bb_)
             (case sideO=>(with_reducible repeat (first|apply Kd.R_alloc|apply Kd.R_drewN|apply Kd.R_drew));exact Kd.R_mono Aq.1 (fun _ _=>trivial))
             rintro e w55 ⟨Bs,rfl,ho0,hb,hz_⟩
             have hz_:=hz_ (by rw [Az.1,Ak.1];simp);refine ⟨_,rfl,?_⟩
             have n2_:=A_ ho0;have n3_:=bz Aa hb;have n4_:=bz Ab hb;have n5_:=bz Ac hb;have n6_:=A_ (below_step bb_ hb);clear Ad;clear Aq;clear Aa;clear Ab;clear Ac;clear HB;have Ar:=n2_;have Aa:=n3_;have Ab:=n4_;have Ac:=n5_;have HB:=n6_;clear n2_ n3_ n4_ n5_ n6_;(try clear hb);(try clear hb2);(try clear hk);(try clear hi);(try clear ho0);refine hK.out _ _ (blk_cell Ac.1 0) (fun hHeld=>?_)
             clear hK K;refine norm_ (a':=?_) ?_ ?_
             rotate_left
             ·show Act.put _ (some 77) _ = _
              simp only [Act.put,L_,M_,N_,i64_w,i32_w]
              rfl
             refine pu_ (i:=7) (N:=11) #[T,T,T,T,T,T,T,T] HT_.1 rfl rfl (fun _ _ _ h=>h) rfl (h:=?_)
             refine done_ (done_of HT_.1 (by kernel_rfl)) ?_
             obtain ⟨Ao56,co56,eo56⟩:=Kd.R_slice Ar.1;subst eo56;have hnl_:=Aab.nilFact Ar.1 hz_;clear hz_;try go_wp2
             go_roundg k3
             case measure=>have:=HK1.1;have:=HJ14.1;have:=HK3.1;omega
             case rel=>exact ⟨(wrap64 (x21_1 + 1)),(by first|rfl|(simp;done)|(simp [*];done)),H',⟨by have:=HK1.1;have:=HJ14.1;have:=HK3.1;omega⟩,⟨bl_ Aa⟩,⟨bl_ Ab⟩,⟨bl_ Ac⟩,⟨bb_⟩⟩
            ·rw [if_neg c46] at H;have c46b0 : (Ai == ([] : List Int)) = false:=beq_eq_false_iff_ne.mpr c46;have c46b1 : (Ai != ([] : List Int)) = true:=bne_iff_ne.mpr c46;obtain rfl:=Option.some.inj H;try go_wp2
             replace Aa:=A_ (blk_drew Aa.1);replace Ab:=A_ (blk_drew Ab.1);replace Ac:=A_ (blk_drew Ac.1);replace HB:=A_ (below_drew1 HB.1);refine start_ (n:=8) (S:=fun w'=>w'.cell? ⟨g3_,0,none⟩ = some (.func (.func 128) #[] #[.pointer (some ⟨g1_,0,none⟩),.pointer (some ⟨g2_,0,none⟩),.pointer (some ⟨g3_,0,none⟩)])) (ds:=[]) #[F,F,F,F,F,F,F,F] (by kernel_rfl) rfl rfl (blk_cell Ac.1 0) (fun hHeld=>?_);refine with_tabW Aab.tab14 Aab.bits14 (fun HT_ HW_=>?_)
             generalize wr.drew = w57 at Aa Ab Ac HB hHeld ⊢
             refine pu_ (i:=1) (N:=72) #[F,T,F,F,F,F,F,F] HT_.1 rfl rfl (fun _ _ _ h=>h) rfl (h:=?_)
             refine pu_ (i:=3) (N:=74) #[F,T,F,T,F,F,F,F] HT_.1 rfl rfl (fun _ _ _ h=>h) rfl (h:=?_)
             refine take_ (i:=0) (N:=some 71) (v:=?_) (a':=?_) #[T,T,F,T,F,F,F,F] rfl rfl (take_ofW HT_.1 HW_.1 (by kernel_rfl)) (fun _ _ _ h=>h) (Or.inl ⟨by rfl,?_⟩) hHeld ?_ ?_
             rotate_left
             ·intro w' s0
              go_simp
              with_reducible rfl
             rotate_left;·simp only [Act.put,L_,M_,N_,i64_w,i32_w];rfl
             refine join_ (σ:=Value × Value) 3 #[T,T,T,T,T,F,F,F] (fun s_=>[(73,s_.1),(75,s_.2)]) (fun s_ w'=>(w'.cell? ⟨g3_,0,none⟩ = some (.func (.func 128) #[] #[.pointer (some ⟨g1_,0,none⟩),.pointer (some ⟨g2_,0,none⟩),.pointer (some ⟨g3_,0,none⟩)])) ∧ (Kd.R (Kd.int .i64) 3 w' w.heap.size (fun k_=>some k_ ≠ (s_.2 : Value).ownBlock) s_.1 Ah) ∧ (Kd.R (Kd.int .i64) 3 w' w.heap.size (fun k_=>some k_ ≠ (s_.1 : Value).ownBlock) s_.2 Al) ∧ (w'.heap[g1_]? = some (.cells #[.int .i64 a1_0,.slice A1_1 l1_1.length c1_1] 26 (0,0))) ∧ (w'.heap[g2_]? = some (.cells #[.int .i64 a2_0,.slice A2_1 l2_1.length c2_1] 26 (0,0))) ∧ (w'.heap[g3_]? = some (.cells #[.func (.func 128) #[] #[.pointer (some ⟨g1_,0,none⟩),.pointer (some ⟨g2_,0,none⟩),.pointer (some ⟨g3_,0,none⟩)]] 35 (0,0))) ∧ (Below w.heap.size w w')) ?_ ?_
             rotate_left
             ·intro hCont
              refine two_ (i:=2) (j:=4) (Ni:=some 73) (Nj:=some 75) #[T,T,T,T,F,F,F,F] #[T,T,F,T,T,F,F,F] rfl rfl rfl rfl (two_of HT_.1 (by kernel_rfl)) (by decide) (by decide) (fun K hK=>?_) (fun K hK=>?_)
              ·skip
               refine goes_ Tryd.func100 (by kernel_rfl) rfl #[.slice A0 l0.length c0] (by rfl) rfl rfl au_ ?_
               with_reducible refine (Aaz.calls _ _ l0 Ah _ ?side1 ?side2 A43.1).mono ?_
               (case side1=>exact cl_ (Kd.C_below HR0.1 HB.1))
               (case side2=>exact HC0.1)
               rintro e w58 ⟨Ag,rfl,ho0,hb⟩
               refine ⟨_,rfl,?_⟩
               have Ae:=A_ (Kd.R_lower ho0 (below_size bb_));replace Aa:=bz Aa hb;replace Ab:=bz Ab hb;replace Ac:=bz Ac hb;replace HB:=A_ (below_step bb_ hb);(try clear hb);(try clear hb2);(try clear hk);(try clear hi);(try clear ho0);refine hK.out _ _ (blk_cell Ac.1 0) (fun hHeld=>?_)
               clear hK K;refine norm_ (a':=?_) ?_ ?_
               rotate_left
               ·show Act.put _ (some 73) _ = _
                simp only [Act.put,L_,M_,N_,i64_w,i32_w]
                rfl
               refine one_ (i:=4) (N:=some 75) #[T,T,T,T,T,F,F,F] rfl rfl (one_of HT_.1 (by kernel_rfl)) (by decide) (fun K hK=>?_)
               refine Kd.R_lit_step (Kd.int .i64) _ 3 ?hg (N:=75) ?hd (xs:=([x21_1] : List Int)) (inner:=[.int .i64 x21_1]) (ok:=fun _=>True) (okp:=fun _=>True) ?hr ?hp (fun _ hk=>hk) trivial (Below.refl _ _) (Nat.le_refl _) (by simp) ?_;(case hd=>rfl);(case hg=>rfl);(case hr=>go_simp;try rfl);(case hp=>exact (Reps.one (show Kd.M (Kd.int .i64) _ _ _ x21_1 [.int .i64 x21_1] from rfl) (Reps.none _ _)))
               intro Aj w59 ho60 hb hg_ hnew_
               clear hg_ hnew_;(first|rw [← Ak.1] at ho60|(simp only [Int.reduceToNat] at ho60;rw [← Ak.1] at ho60))
               have Ad:=A_ (Kd.R_lower (Kd.R_new' ho60 (Kd.R_lt (rl_ Ae))) (below_size bb_));replace Ae:=A_ (Kd.R_elder' (rl_ Ae) (Kd.R_base ho60) hb);replace Aa:=bz Aa hb;replace Ab:=bz Ab hb;replace Ac:=bz Ac hb;replace HB:=A_ (below_step bb_ hb);clear hb ho60;refine hK.out _ _ (blk_cell Ac.1 0) (fun hHeld=>?_)
               clear hK K;refine norm_ (a':=?_) ?_ ?_
               rotate_left
               ·show Act.put _ (some 75) _ = _
                simp only [Act.put,L_,M_,N_,i64_w,i32_w]
                rfl
               exact norm_ (by simp only [putAll,Act.put,L_,M_,N_]) (hCont (Ag,Aj) _ ⟨hHeld,(rq_ (Kd.R_mono Ae.1 (fun _ hk=>hk.2))),(rq_ (Kd.R_mono Ad.1 (fun _ hk=>hk.2))),(bl_ Aa),(bl_ Ab),(bl_ Ac),bb_⟩)
              ·skip
               refine Kd.R_lit_step (Kd.int .i64) _ 3 ?hg (N:=75) ?hd (xs:=([x21_1] : List Int)) (inner:=[.int .i64 x21_1]) (ok:=fun _=>True) (okp:=fun _=>True) ?hr ?hp (fun _ hk=>hk) trivial (Below.refl _ _) (Nat.le_refl _) (by simp) ?_;(case hd=>rfl);(case hg=>rfl);(case hr=>go_simp;try rfl);(case hp=>exact (Reps.one (show Kd.M (Kd.int .i64) _ _ _ x21_1 [.int .i64 x21_1] from rfl) (Reps.none _ _)))
               intro Aj w58 ho59 hb hg_ hnew_
               clear hg_ hnew_;(first|rw [← Ak.1] at ho59|(simp only [Int.reduceToNat] at ho59;rw [← Ak.1] at ho59))
               have Ad:=A_ (Kd.R_lower ho59 (below_size bb_));replace Aa:=bz Aa hb;replace Ab:=bz Ab hb;replace Ac:=bz Ac hb;replace HB:=A_ (below_step bb_ hb);clear hb ho59;refine hK.out _ _ (blk_cell Ac.1 0) (fun hHeld=>?_)
               clear hK K;refine norm_ (a':=?_) ?_ ?_
               rotate_left
               ·show Act.put _ (some 75) _ = _
                simp only [Act.put,L_,M_,N_,i64_w,i32_w]
                rfl
               refine one_ (i:=2) (N:=some 73) #[T,T,T,T,T,F,F,F] rfl rfl (one_of HT_.1 (by kernel_rfl)) (by decide) (fun K hK=>?_)
               refine goes_ Tryd.func100 (by kernel_rfl) rfl #[.slice A0 l0.length c0] (by rfl) rfl rfl au_ ?_
               with_reducible refine (Aaz.calls _ _ l0 Ah _ ?side1 ?side2 A43.1).mono ?_
               (case side1=>exact cl_ (Kd.C_below HR0.1 HB.1))
               (case side2=>exact HC0.1)
               rintro e w60 ⟨Ag,rfl,ho0,hb⟩
               refine ⟨_,rfl,?_⟩
               have Ae:=A_ (Kd.R_lower (Kd.R_new' ho0 (Kd.R_lt (rl_ Ad))) (below_size bb_));replace Ad:=A_ (Kd.R_elder' (rl_ Ad) (Kd.R_base ho0) hb);replace Aa:=bz Aa hb;replace Ab:=bz Ab hb;replace Ac:=bz Ac hb;replace HB:=A_ (below_step bb_ hb);(try clear hb);(try clear hb2);(try clear hk);(try clear hi);(try clear ho0);refine hK.out _ _ (blk_cell Ac.1 0) (fun hHeld=>?_)
               clear hK K;refine norm_ (a':=?_) ?_ ?_
               rotate_left
               ·show Act.put _ (some 73) _ = _
                simp only [Act.put,L_,M_,N_,i64_w,i32_w]
                rfl
               exact norm_ (by simp only [putAll,Act.put,L_,M_,N_]) (hCont (Ag,Aj) _ ⟨hHeld,(rq_ (Kd.R_mono Ae.1 (fun _ hk=>hk.2))),(rq_ (Kd.R_mono Ad.1 (fun _ hk=>hk.2))),(bl_ Aa),(bl_ Ab),(bl_ Ac),bb_⟩)
             rintro ⟨Ag,Aj⟩ w61 ⟨hS_,h0_,h1_,h2_,h3_,h4_,h5_⟩
             have n0_ : Aside0 (Kd.R (Kd.int .i64) 3 w61 w.heap.size (fun k_=>some k_ ≠ (Aj : Value).ownBlock) Ag Ah):=⟨h0_⟩;have n1_ : Aside0 (Kd.R (Kd.int .i64) 3 w61 w.heap.size (fun k_=>some k_ ≠ (Ag : Value).ownBlock) Aj Al):=⟨h1_⟩;have n2_ : Aside0 (w61.heap[g1_]? = some (.cells #[.int .i64 a1_0,.slice A1_1 l1_1.length c1_1] 26 (0,0))):=⟨h2_⟩;have n3_ : Aside0 (w61.heap[g2_]? = some (.cells #[.int .i64 a2_0,.slice A2_1 l2_1.length c2_1] 26 (0,0))):=⟨h3_⟩;have n4_ : Aside0 (w61.heap[g3_]? = some (.cells #[.func (.func 128) #[] #[.pointer (some ⟨g1_,0,none⟩),.pointer (some ⟨g2_,0,none⟩),.pointer (some ⟨g3_,0,none⟩)]] 35 (0,0))):=⟨h4_⟩;have n5_ : Aside0 (Below w.heap.size w w61):=⟨h5_⟩;clear Aa;clear Ab;clear Ac;clear HB;clear h0_ h1_ h2_ h3_ h4_ h5_;have Ae:=n0_;have Ad:=n1_;have Aa:=n2_;have Ab:=n3_;have Ac:=n4_;have HB:=n5_;clear n0_ n1_ n2_ n3_ n4_ n5_;have hHeld : w61.cell? ⟨g3_,0,none⟩ = some (.func (.func 128) #[] #[.pointer (some ⟨g1_,0,none⟩),.pointer (some ⟨g2_,0,none⟩),.pointer (some ⟨g3_,0,none⟩)]):=hS_;obtain ⟨Ao63,co63,eo63⟩:=Kd.R_slice Ad.1;(first|subst eo63|(injection eo63 with f1_ f2_ f3_;have f4_:=f1_.symm;have f5_:=f3_.symm;clear f1_ f2_ f3_;subst f4_;subst f5_))
             refine norm_ (a':=?_) ?_ ?_
             rotate_left;·simp only [putAll,Act.put,L_,M_,N_];rfl
             refine one_ (i:=5) (N:=some 76) #[T,T,T,T,T,T,F,F] rfl rfl (one_of HT_.1 (by kernel_rfl)) (by decide) (fun K hK=>?_)
             refine Kd.R_append_rows_step (Kd.int .i64) (w0:=w) w.heap.size (by rfl) (.tmp 73) (.tmp 75) 24 3 (.int .i64 0) 8 rfl Tryd.underlying24 info3 rfl (by decide) (by omega) Ag Ah Al _ _ _ (fun k_=>some k_ ≠ (.slice Ao63 Al.length co63 : Value).ownBlock) (fun _=>False) rfl rfl ?aO ?aR (fun _ _ h=>h) (fun _ h=>h.elim) ?aF ?aB ?aS ?aL ?_
             (case aR=>exact cl_ (Kd.R_reads' Ad.1).2.2)
             (case aB=>exact bb_)
             (case aF=>exact (fun k_ hk=>Kd.fresh' (Kd.R_lt (rl_ Ad)) k_ hk))
             (case aO=>exact (rl_ Ae))
             (case aS=>exact (below_size bb_))
             (case aL=>have:=LMc44.1;omega)
             intro Br w62 ho hb hg hat
             rw [← Az.1] at ho;replace Aa:=A_ (blk_grown (g:=g1_) (o:=.cells #[.int .i64 a1_0,.slice A1_1 l1_1.length c1_1] 26 (0,0)) (bl_ Aa) hg (Kd.R_ne Ae.1 Aa.1 (by decide)));replace Ab:=A_ (blk_grown (g:=g2_) (o:=.cells #[.int .i64 a2_0,.slice A2_1 l2_1.length c2_1] 26 (0,0)) (bl_ Ab) hg (Kd.R_ne Ae.1 Ab.1 (by decide)));replace Ac:=A_ (blk_grown (g:=g3_) (o:=.cells #[.func (.func 128) #[] #[.pointer (some ⟨g1_,0,none⟩),.pointer (some ⟨g2_,0,none⟩),.pointer (some ⟨g3_,0,none⟩)]] 35 (0,0)) (bl_ Ac) hg (Kd.R_ne Ae.1 Ac.1 (by decide)));replace Ad:=A_ (Kd.R_after (ok:=(fun _=>True)) (rq_ (Kd.R_mono Ad.1 (fun _ hk=>⟨trivial,hk⟩))) hg hat);replace HB:=A_ (hb);have Aq:=A_ (ho);clear Ae;clear ho hb hg hat;obtain ⟨Ao64,co64,eo64⟩:=Kd.R_slice Aq.1;(first|subst eo64|(injection eo64 with f1_ f2_ f3_;have f4_:=f1_.symm;have f5_:=f3_.symm;clear f1_ f2_ f3_;subst f4_;subst f5_))
             refine hK.out _ _ (blk_cell Ac.1 0) (fun hHeld=>?_)
             clear hK K;refine norm_ (a':=?_) ?_ ?_
             rotate_left
             ·show Act.put _ (some 76) _ = _
              simp only [Act.put,L_,M_,N_,i64_w,i32_w]
              rfl
             refine one_ (i:=6) (N:=some 77) #[T,T,T,T,T,T,T,F] rfl rfl (one_of HT_.1 (by kernel_rfl)) (by decide) (fun K hK=>?_)
             refine goesC_ Tryd.func128 (by kernel_rfl) rfl #[.slice Ao64 As.length co64] #[.pointer (some ⟨g1_,0,none⟩),.pointer (some ⟨g2_,0,none⟩),.pointer (some ⟨g3_,0,none⟩)] #[.slice Ao64 As.length co64,.pointer (some ⟨g1_,0,none⟩),.pointer (some ⟨g2_,0,none⟩),.pointer (some ⟨g3_,0,none⟩)] (by rfl) rfl rfl rfl (by first|rfl|(simp;done)) au_ ?_
             refine (HI.1 _ Ao64 co64 w.heap.size As Ai ?sideB ?sideZ ?sideO A45.1).mono ?_
             (case sideB=>repeat (first|(with_reducible first|exact HB.1|apply below_alloc|apply pw_below_drewN|apply below_drew1|refine below_set ?_ (Aside0.out (by assumption)))|exact HB.1))
             (case sideZ=>exact below_size bb_)
             (case sideO=>(with_reducible repeat (first|apply Kd.R_alloc|apply Kd.R_drewN|apply Kd.R_drew));exact Kd.R_mono Aq.1 (fun _ _=>trivial))
             rintro e w65 ⟨Bs,rfl,ho0,hb,hz_⟩
             have hz_:=hz_ (by rw [Az.1,Ak.1];simp);refine ⟨_,rfl,?_⟩
             have n2_:=A_ ho0;have n3_:=bz Aa hb;have n4_:=bz Ab hb;have n5_:=bz Ac hb;have n6_:=A_ (below_step bb_ hb);clear Ad;clear Aq;clear Aa;clear Ab;clear Ac;clear HB;have Ar:=n2_;have Aa:=n3_;have Ab:=n4_;have Ac:=n5_;have HB:=n6_;clear n2_ n3_ n4_ n5_ n6_;(try clear hb);(try clear hb2);(try clear hk);(try clear hi);(try clear ho0);refine hK.out _ _ (blk_cell Ac.1 0) (fun hHeld=>?_)
             clear hK K;refine norm_ (a':=?_) ?_ ?_
             rotate_left
             ·show Act.put _ (some 77) _ = _
              simp only [Act.put,L_,M_,N_,i64_w,i32_w]
              rfl
             refine pu_ (i:=7) (N:=11) #[T,T,T,T,T,T,T,T] HT_.1 rfl rfl (fun _ _ _ h=>h) rfl (h:=?_)
             refine done_ (done_of HT_.1 (by kernel_rfl)) ?_
             obtain ⟨Ao66,co66,eo66⟩:=Kd.R_slice Ar.1;subst eo66;have hnl_:=Aab.nilFact Ar.1 hz_;clear hz_;try go_wp2
             go_ret
             exact ⟨_,rfl,rq_ (Kd.R_lower (Kd.R_mono Ar.1 (fun _ _=>trivial)) HBS.1),bb_,fun _ h2_=>absurd h2_ (by simpa using c46b0),fun h1_=>absurd h1_ HC5_.1⟩
           ·rw [if_neg c44] at H;exact absurd H (by simp)
          ·replace c42:=Bool.eq_false_iff.mpr c42;subst c42;rw [if_neg nf_] at H;have H':=A_ H;clear H;go_wp2
           go_roundg k3
           case measure=>have:=HK1.1;have:=HJ14.1;have:=HK3.1;omega
           case rel=>exact ⟨(wrap64 (x21_1 + 1)),(by first|rfl|(simp;done)|(simp [*];done)),H',⟨by have:=HK1.1;have:=HJ14.1;have:=HK3.1;omega⟩,⟨bl_ Aa⟩,⟨bl_ Ab⟩,⟨bl_ Ac⟩,⟨bb_⟩⟩
    ·rw [if_neg c14] at H;have c14b0 : decide (x21_1 < a2_0) = false:=decide_eq_false c14;clear c14;obtain rfl:=Option.some.inj H;go_wp2
     go_ret
     exact ⟨_,rfl,Kd.R_nil _ _ _ _ _,bb_,by intros;rfl,fun h1_=>absurd h1_ HC5_.1⟩
def Aab.f : Nat → List Int → Int → List Int → Int → List Int → Int → Option (List Int)
 | 0,_,_,_,_,_,_=>none
 | k + 1,l0,a1_0,l1_1,a2_0,l2_1,a3_0=>Aab.g (fun z=>Aab.f k z a1_0 l1_1 a2_0 l2_1 a3_0) k l0 a1_0 l1_1 a2_0 l2_1 a3_0
theorem Aab.mono : ∀ a0 a1 a2 a3 a4 a5 k,LeO (Aab.f k a0 a1 a2 a3 a4 a5) (Aab.f (k + 1) a0 a1 a2 a3 a4 a5):=by
 intro a0 a1 a2 a3 a4 a5 k
 induction k generalizing a0 with
 | zero=>intro r h;simp [Aab.f] at h
 | succ k ih=>exact Aab.mono2 (fun z=>ih z) a0 a1 a2 a3 a4 a5 k
theorem Aab.calls : ∀ (k : Nat) (A0 : Option Addr) (c0 : Nat) (l0 : List Int) (g1_ : Nat) (a1_0 : Int) (A1_1 : Option Addr) (c1_1 : Nat) (l1_1 : List Int) (g2_ : Nat) (a2_0 : Int) (A2_1 : Option Addr) (c2_1 : Nat) (l2_1 : List Int) (g3_ : Nat) (a3_0 : Int) (bs : Nat) (r : List Int) (w : World) (hbs : bs ≤ w.heap.size) (ho : Kd.R (Kd.int .i64) 3 w bs (fun _=>True) (.slice A0 l0.length c0) l0) (hb1 : w.heap[g1_]? = some (.cells #[.int .i64 a1_0,.slice A1_1 l1_1.length c1_1] 26 (0,0))) (hr1_1 : Kd.C (Kd.int .i64) w A1_1 l1_1.length l1_1) (hc1_1 : l1_1.length ≤ c1_1) (hb2 : w.heap[g2_]? = some (.cells #[.int .i64 a2_0,.slice A2_1 l2_1.length c2_1] 26 (0,0))) (hr2_1 : Kd.C (Kd.int .i64) w A2_1 l2_1.length l2_1) (hc2_1 : l2_1.length ≤ c2_1) (hb3 : w.heap[g3_]? = some (.cells #[.func (.func 128) #[] #[.pointer (some ⟨g1_,0,none⟩),.pointer (some ⟨g2_,0,none⟩),.pointer (some ⟨g3_,0,none⟩)]] 35 (0,0))) (hn1_2 : g1_ ≠ g2_) (hn1_3 : g1_ ≠ g3_) (hn2_3 : g2_ ≠ g3_) (h : Aab.f k l0 a1_0 l1_1 a2_0 l2_1 a3_0 = some r),
 Calls Tryd.prog 128 #[.slice A0 l0.length c0,.pointer (some ⟨g1_,0,none⟩),.pointer (some ⟨g2_,0,none⟩),.pointer (some ⟨g3_,0,none⟩)] w fun e w'=>∃ v0_ : Value,e = .returned v0_ ∧ Kd.R (Kd.int .i64) 3 w' bs (fun _=>True) v0_ r ∧ Below w.heap.size w w' ∧ (l0 ≠ [] ∨ a1_0 ≠ 0 → r = [] → v0_ = .slice none 0 0) ∧ ((l0.length : Int) = a1_0 → v0_ = .slice A0 l0.length c0):=by
 intro k
 induction k with
 | zero=>intro A0 c0 l0 g1_ a1_0 A1_1 c1_1 l1_1 g2_ a2_0 A2_1 c2_1 l2_1 g3_ a3_0 bs r w hbs ho hb1 hr1_1 hc1_1 hb2 hr2_1 hc2_1 hb3 hn1_2 hn1_3 hn2_3 h;simp [Aab.f] at h
 | succ k ih =>
  intro A0 c0 l0 g1_ a1_0 A1_1 c1_1 l1_1 g2_ a2_0 A2_1 c2_1 l2_1 g3_ a3_0 bs r w hbs ho hb1 hr1_1 hc1_1 hb2 hr2_1 hc2_1 hb3 hn1_2 hn1_3 hn2_3 h
  refine Aab.calls0 k (fun z=>Aab.f k z a1_0 l1_1 a2_0 l2_1 a3_0) A0 c0 l0 g1_ a1_0 A1_1 c1_1 l1_1 g2_ a2_0 A2_1 c2_1 l2_1 g3_ a3_0 bs r w hbs ho hb1 hr1_1 hc1_1 hb2 hr2_1 hc2_1 hb3 hn1_2 hn1_3 hn2_3 ?_ h
  intro W A_ c_ b_ z_ s_ hB_ hb_ hO_ hs_
  refine (ih A_ c_ z_ g1_ a1_0 A1_1 c1_1 l1_1 g2_ a2_0 A2_1 c2_1 l2_1 g3_ a3_0 b_ s_ W hb_ hO_ (blk_below hb1 hB_) (Kd.C_below hr1_1 hB_) hc1_1 (blk_below hb2 hB_) (Kd.C_below hr2_1 hB_) hc2_1 (blk_below hb3 hB_) hn1_2 hn1_3 hn2_3 hs_).mono ?_
  rintro e W' ⟨v,rfl,h1,h2,h3,_⟩
  exact ⟨v,rfl,h1,h2,fun h4=>h3 (.inl h4)⟩
theorem Aat.storeF {P : Program} (w : World) (a : Addr) (m : Mode) (f : Fn) (x y : Array _) : (store a (.func f x y) m).run P w = stored P w a (.func f x y) m:=run_store P w a _ m rfl
attribute [local go_sem] Aat.storeF
theorem Aat.nilIff {w : World} {base e n0 c0 : Nat} {ok : Nat → Prop} {A0 : Option Addr} {y r : List Int} {a : Int} {v : Value} (hy : y = []) (h : Kd.R (Kd.int .i64) e w base ok v r) (h1 : y ≠ [] ∨ a ≠ 0 → r = [] → v = .slice none 0 0) (h2 : (y.length : Int) = a → v = .slice A0 n0 c0) (hn : (Value.slice A0 n0 c0).ownBlock ≠ none) :
 ∀ A n c,v = .slice A n c → A.isNone = !(r != ([] : List Int) || a == 0):=by
 intro A n c hv
 by_cases ha : a = 0
 ·have h3:=h2 (by rw [hy,ha];rfl);rw [hv] at h3;injection h3 with h4;subst h4;subst ha;cases A with
  | none => exact absurd rfl hn
  | some x => simp
 ·by_cases hr : r = []
  ·have h3:=h1 (.inr ha) hr;rw [hv] at h3;injection h3 with h4;rw [h4,hr];simp [ha]
  ·subst hv;obtain ⟨_,_,hC⟩:=Kd.R_reads' h;obtain ⟨ad,e1,_⟩:=hC.2.2 (List.length_pos_iff.2 hr);rw [e1];simp [hr]
def Aat.f (k : Nat) (a0_0 : Int) (l0_1 : List Int) (a1_0 : Int) (l1_1 : List Int) : Option (List Int) := (Aab.f k (([] : List Int)) a1_0 l1_1 a0_0 l0_1 0).bind fun t543 => (some t543)
set_option maxHeartbeats 8000000 in
set_option maxRecDepth 100000 in
theorem Aat.calls (k : Nat) (a0_0 : Int) (A0_1 : Option Addr) (c0_1 : Nat) (l0_1 : List Int) (a1_0 : Int) (A1_1 : Option Addr) (c1_1 : Nat) (l1_1 : List Int) (r : List Int) (w : World) (hr0_1 : Kd.C (Kd.int .i64) w A0_1 l0_1.length l0_1) (hc0_1 : l0_1.length ≤ c0_1) (hr1_1 : Kd.C (Kd.int .i64) w A1_1 l1_1.length l1_1) (hc1_1 : l1_1.length ≤ c1_1) (h : Aat.f k a0_0 l0_1 a1_0 l1_1 = some r) :
 Calls Tryd.prog 82 #[.agg #[.int .i64 a0_0,.slice A0_1 l0_1.length c0_1],.agg #[.int .i64 a1_0,.slice A1_1 l1_1.length c1_1]] w fun e w'=>∃ v0_ : Value,e = .returned (v0_) ∧ Kd.R (Kd.int .i64) 3 w' w.heap.size (fun _=>True) v0_ r ∧ Below w.heap.size w w' ∧ (∀ A n c,v0_ = .slice A n c → A.isNone = !(r != ([] : List Int) || a1_0 == 0)):=by
 have hu28:=Tryd.underlying26;have HR0_1:=A_ hr0_1;have HC0_1:=A_ hc0_1;clear hr0_1 hc0_1;have HR1_1:=A_ hr1_1;have HC1_1:=A_ hc1_1;clear hr1_1 hc1_1;have HB:=A_ (Below.refl w.heap.size w);have H : ((Aab.f k (([] : List Int)) a1_0 l1_1 a0_0 l0_1 0).bind fun Ah=>(some Ah)) = some r:=h;clear h;obtain ⟨Ap,Af⟩ : ∃ y_ : List Int,y_ = (([] : List Int)):=⟨_,rfl⟩;replace H : ((Aab.f k Ap a1_0 l1_1 a0_0 l0_1 0).bind fun Ah=>(some Ah)) = some r:=by first|(rw [Af];with_reducible exact H)|(have H2_:=(Option.bind_some _ _).symm.trans H;rw [Af];with_reducible exact H2_)|(have H2_:=(Option.bind_some _ _).symm.trans H;with_reducible exact H2_)|with_reducible exact H|(rw [Af];exact H)|exact H
 have Ai:=A_ Af;clear Af;replace H:=Option.bind_eq_some_iff.mp H;obtain ⟨Ah,A30,H⟩:=H;(try dsimp only at H);have A3:=A_ A30;clear A30;obtain rfl:=Option.some.inj H;go_enter Tryd.func82,Tryd.ntmps82
 go_wp2_with (first|((with_reducible refine gate_dst (N:=2) rfl ?_);refine box_event ?hg (N:=2) ?hd (cs:=#[.int .i64 a0_0,.slice A0_1 l0_1.length c0_1]) (t:=26) ?hr ?_;(case hd=>rfl);(case hg=>rfl);(case hr=>go_simp;try rfl);intro Aj hg w4 hbox hb;have Aa:=A_ (hbox);have At:=A_ (gw_ (w:=w) hg bb_);have Au:=A_ (gw_ (w:=w) hg bb_);replace HB:=A_ (below_step bb_ hb);clear hb hbox hg)|((with_reducible refine gate_dst (N:=3) rfl ?_);refine box_event ?hg (N:=3) ?hd (cs:=#[.int .i64 a1_0,.slice A1_1 l1_1.length c1_1]) (t:=26) ?hr ?_;(case hd=>rfl);(case hg=>rfl);(case hr=>go_simp;try rfl);intro Ak hg w5 hbox hb;have Ab:=A_ (hbox);have Av:=A_ (gw_ (w:=w) hg bb_);have Aw:=A_ (gw_ (w:=w) hg bb_);replace HB:=A_ (below_step bb_ hb);have Ar:=A_ (nl_ hg Aa);have Am:=A_ (ng_ hg Aa);replace Aa:=bz Aa hb;clear hb hbox hg)|((with_reducible refine gate_dst (N:=5) rfl ?_);refine box_event ?hg (N:=5) ?hd (cs:=#[.nilFunc]) (t:=35) ?hr ?_;(case hd=>rfl);(case hg=>rfl);(case hr=>go_simp;try rfl);intro Ag hg w6 hbox hb;have Ac:=A_ (hbox);have Ax:=A_ (gw_ (w:=w) hg bb_);have Ay:=A_ (gw_ (w:=w) hg bb_);replace HB:=A_ (below_step bb_ hb);have Ad:=A_ (nl_ hg Aa);have An:=A_ (ng_ hg Aa);replace Aa:=bz Aa hb;have Ae:=A_ (nl_ hg Ab);have Ao:=A_ (ng_ hg Ab);replace Ab:=bz Ab hb;clear hb hbox hg;have Z:=An.1;have Z:=Ad.1;have Z:=Ao.1;have Z:=Ae.1;have Z : w6.cell? ⟨Ag,0,none⟩ = some (.nilFunc):=blk_cell Ac.1 0;have Z:=blk_frozen Ac.1 0)|((with_reducible refine gate_dst (N:=8) rfl ?_);refine Kd.R_lit (Kd.int .i64) _ 3 ?hg (N:=8) ?hd (xs:=([] : List Int)) (inner:=[]) (ok:=fun _=>True) (okp:=fun _=>True) ?hr ?hp (fun _ hk=>hk) trivial (Below.refl _ _) (Nat.le_refl _) (by simp) ?_;(case hd=>rfl);(case hg=>rfl);(case hr=>go_simp;try rfl);(case hp=>exact (Reps.none _ _));intro As w10 ho11 hb hg_ hnew_;clear hg_;have HN_:=A_ (show As.ownBlock ≠ none from by obtain ⟨b_,hb_,_⟩:=hnew_;rw [hb_];simp);clear hnew_;(first|rw [← Ai.1] at ho11|(simp only [Int.reduceToNat] at ho11;rw [← Ai.1] at ho11));have Al:=A_ (Kd.R_lower ho11 (below_size bb_));replace Aa:=A_ (blk_below (g:=Aj) (o:=.cells #[.int .i64 a0_0,.slice A0_1 l0_1.length c0_1] 26 (0,0)) (by (with_reducible repeat (first|refine blk_drewN ?_ _|refine blk_drew ?_|refine blk_alloc ?_ _));refine blk_far ?_ Ad.1 _;(with_reducible repeat (first|refine blk_drewN ?_ _|refine blk_drew ?_|refine blk_alloc ?_ _));exact Aa.1) hb);replace Ab:=A_ (blk_below (g:=Ak) (o:=.cells #[.int .i64 a1_0,.slice A1_1 l1_1.length c1_1] 26 (0,0)) (by (with_reducible repeat (first|refine blk_drewN ?_ _|refine blk_drew ?_|refine blk_alloc ?_ _));refine blk_far ?_ Ae.1 _;(with_reducible repeat (first|refine blk_drewN ?_ _|refine blk_drew ?_|refine blk_alloc ?_ _));exact Ab.1) hb);replace Ac:=A_ (blk_below (g:=Ag) (o:=.cells #[.func (.func 128) #[] #[.pointer (some ⟨Ak,0,none⟩),.pointer (some ⟨Aj,0,none⟩),.pointer (some ⟨Ag,0,none⟩)]] 35 (0,0)) (by (with_reducible repeat (first|refine blk_drewN ?_ _|refine blk_drew ?_|refine blk_alloc ?_ _));refine blk_put (cs:=#[.nilFunc]) ?_ 0 _ rfl;(with_reducible repeat (first|refine blk_drewN ?_ _|refine blk_drew ?_|refine blk_alloc ?_ _));exact Ac.1) hb);replace HB:=A_ (below_step bb_ hb);clear hb ho11;obtain ⟨Ao12,co12,eo12⟩:=Kd.R_slice Al.1;subst eo12)|(go_at_call 128;(refine (Aab.calls k Ao12 co12 Ap Ak a1_0 A1_1 c1_1 l1_1 Aj a0_0 A0_1 c0_1 l0_1 Ag 0 w.heap.size Ah _ ?sZ ?sO ?s1 ?s2 ?s3 ?s4 ?s5 ?s6 ?s7 Am.1 Ae.1 Ad.1 A3.1).mono ?_);(case sZ=>exact below_size bb_);(case sO=>(with_reducible repeat (first|apply Kd.R_alloc|apply Kd.R_drewN|apply Kd.R_drew));exact Kd.R_mono Al.1 (fun _ _=>trivial));(case s1=>(with_reducible repeat (first|refine blk_drewN ?_ _|refine blk_drew ?_|refine blk_alloc ?_ _));exact Ab.1);(case s2=>exact Kd.C_below HR1_1.1 bb_);(case s3=>exact HC1_1.1);(case s4=>(with_reducible repeat (first|refine blk_drewN ?_ _|refine blk_drew ?_|refine blk_alloc ?_ _));exact Aa.1);(case s5=>exact Kd.C_below HR0_1.1 bb_);(case s6=>exact HC0_1.1);(case s7=>(with_reducible repeat (first|refine blk_drewN ?_ _|refine blk_drew ?_|refine blk_alloc ?_ _));exact Ac.1);rintro e w13 ⟨Az,rfl,ho0,hb,hz1_,hz2_⟩;have hzz_:=Aat.nilIff (by rw [Ai.1]) ho0 hz1_ hz2_ HN_.1;clear hz1_ hz2_ HN_;have HZ_:=A_ hzz_;clear hzz_;have n1_:=A_ ho0;have n2_:=bz Aa hb;have n3_:=bz Ab hb;have n4_:=bz Ac hb;have n5_:=A_ (below_step bb_ hb);clear Al;clear Aa;clear Ab;clear Ac;clear HB;have Aq:=n1_;have Aa:=n2_;have Ab:=n3_;have Ac:=n4_;have HB:=n5_;clear n1_ n2_ n3_ n4_ n5_;(try clear hb);(try clear hb2);(try clear hk);(try clear hi);(try clear ho0)))
 go_ret
 exact ⟨_,rfl,rq_ (Kd.R_mono Aq.1 (fun _ hk=>trivial)),bb_,HZ_.1⟩
theorem Aa5.nilAt {P : Program} (w : World) (d : Nat) (t e : TypeId) (a : Option Addr) (l c : Nat) (h : P.underlying t = some (.slice e)) : (Op.equalIn (d + 1) t (.slice a l c) (.slice none 0 0)).run P w = .ok a.isNone w:=by
 cases a <;> simp [Op.equalIn,run_underlying h]
theorem Aa5.nilNo {P : Program} (w : World) (t e : TypeId) (a : Option Addr) (l c : Nat) (h : P.underlying t = some (.slice e)) : (binOp .neq t (.slice a l c) (.slice none 0 0)).run P w = .ok (.bool (!a.isNone)) w:=by
 have h1 : (Op.equal t (.slice a l c) (.slice none 0 0)).run P w = .ok a.isNone w:=Aa5.nilAt w 9999 t e a l c h;simp [binOp,h1]
theorem Aa5.nilN (w : World) (a : Option Addr) (l c : Nat) : (binOp .neq 24 (.slice a l c) (.slice none 0 0)).run Tryd.prog w = .ok (.bool (!a.isNone)) w:=Aa5.nilNo w _ _ a l c Tryd.underlying24
attribute [local go_sem] Aa5.nilN
def Aa5.f (k : Nat) (a0_0 : Int) (l0_1 : List Int) (a1_0 : Int) (l1_1 : List Int) : Option (List Int × Bool) := (Aal.f k a0_0 l0_1).bind fun t581 => (if t581 = true then ((Aal.f k a1_0 l1_1).bind fun t582 => (if t582 = true then (if a1_0 > 6 then (some (([] : List Int), false)) else ((Aat.f k a0_0 l0_1 a1_0 l1_1).bind fun t583 => (some (t583, (t583 != ([] : List Int) || a1_0 == 0))))) else (some (([] : List Int), false)))) else (some (([] : List Int), false)))
set_option maxHeartbeats 8000000 in
set_option maxRecDepth 100000 in
theorem Aa5.calls (k : Nat) (a0_0 : Int) (A0_1 : Option Addr) (c0_1 : Nat) (l0_1 : List Int) (a1_0 : Int) (A1_1 : Option Addr) (c1_1 : Nat) (l1_1 : List Int) (r1 : List Int) (r2 : Bool) (w : World) (hr0_1 : Kd.C (Kd.int .i64) w A0_1 l0_1.length l0_1) (hc0_1 : l0_1.length ≤ c0_1) (hr1_1 : Kd.C (Kd.int .i64) w A1_1 l1_1.length l1_1) (hc1_1 : l1_1.length ≤ c1_1) (h : Aa5.f k a0_0 l0_1 a1_0 l1_1 = some (r1,r2)) :
 Calls Tryd.prog 23 #[.agg #[.int .i64 a0_0,.slice A0_1 l0_1.length c0_1],.agg #[.int .i64 a1_0,.slice A1_1 l1_1.length c1_1]] w fun e w'=>∃ v0_ : Value,e = .returned (.tuple #[v0_,.bool r2]) ∧ Kd.R (Kd.int .i64) 3 w' w.heap.size (fun _=>True) v0_ r1 ∧ Below w.heap.size w w':=by
 have hu26:=Tryd.underlying26;have HR0_1:=A_ hr0_1;have HC0_1:=A_ hc0_1;clear hr0_1 hc0_1;have HR1_1:=A_ hr1_1;have HC1_1:=A_ hc1_1;clear hr1_1 hc1_1;have HB:=A_ (Below.refl w.heap.size w);have H : ((Aal.f k a0_0 l0_1).bind fun Ag=>(if Ag = true then ((Aal.f k a1_0 l1_1).bind fun Af=>(if Af = true then (if a1_0 > 6 then (some (([] : List Int),false)) else ((Aat.f k a0_0 l0_1 a1_0 l1_1).bind fun Ac=>(some (Ac,(Ac != ([] : List Int) || a1_0 == 0))))) else (some (([] : List Int),false)))) else (some (([] : List Int),false)))) = some (r1,r2):=h;clear h;replace H:=Option.bind_eq_some_iff.mp H;obtain ⟨Ag,A30,H⟩:=H;replace H : (if Ag = true then ((Aal.f k a1_0 l1_1).bind fun Af=>(if Af = true then (if a1_0 > 6 then (some (([] : List Int),false)) else ((Aat.f k a0_0 l0_1 a1_0 l1_1).bind fun Ac=>(some (Ac,(Ac != ([] : List Int) || a1_0 == 0))))) else (some (([] : List Int),false)))) else (some (([] : List Int),false))) = some (r1,r2):=H;have A3:=A_ A30;clear A30;by_cases c4 : Ag = true
 ·subst c4;have H1 : ((Aal.f k a1_0 l1_1).bind fun Af=>(if Af = true then (if a1_0 > 6 then (some (([] : List Int),false)) else ((Aat.f k a0_0 l0_1 a1_0 l1_1).bind fun Ac=>(some (Ac,(Ac != ([] : List Int) || a1_0 == 0))))) else (some (([] : List Int),false)))) = some (r1,r2):=by rw [if_pos rfl] at H;exact H
  clear H;have H:=H1;clear H1;replace H:=Option.bind_eq_some_iff.mp H;obtain ⟨Af,A50,H⟩:=H;replace H : (if Af = true then (if a1_0 > 6 then (some (([] : List Int),false)) else ((Aat.f k a0_0 l0_1 a1_0 l1_1).bind fun Ac=>(some (Ac,(Ac != ([] : List Int) || a1_0 == 0))))) else (some (([] : List Int),false))) = some (r1,r2):=H;have A5:=A_ A50;clear A50;by_cases c6 : Af = true
  ·subst c6;have H1 : (if a1_0 > 6 then (some (([] : List Int),false)) else ((Aat.f k a0_0 l0_1 a1_0 l1_1).bind fun Ac=>(some (Ac,(Ac != ([] : List Int) || a1_0 == 0))))) = some (r1,r2):=by rw [if_pos rfl] at H;exact H
   clear H;have H:=H1;clear H1;by_cases c7 : a1_0 > 6
   ·rw [if_pos c7] at H;have c7b0 : decide (6 < a1_0) = true:=decide_eq_true c7;clear c7;simp only [Option.some.injEq,Prod.mk.injEq] at H
    obtain ⟨rfl,rfl⟩:=H;go_enter Tryd.func23,Tryd.ntmps23
    go_wp2_with (first|((with_reducible refine gate_dst (N:=2) rfl ?_);refine box_event ?hg (N:=2) ?hd (cs:=#[.int .i64 a0_0,.slice A0_1 l0_1.length c0_1]) (t:=26) ?hr ?_;(case hd=>rfl);(case hg=>rfl);(case hr=>go_simp;try rfl);intro Ah hg w8 hbox hb;have Aa:=A_ (hbox);have Ai:=A_ (gw_ (w:=w) hg bb_);have Aj:=A_ (gw_ (w:=w) hg bb_);replace HB:=A_ (below_step bb_ hb);clear hb hbox hg)|((with_reducible refine gate_dst (N:=3) rfl ?_);refine box_event ?hg (N:=3) ?hd (cs:=#[.int .i64 a1_0,.slice A1_1 l1_1.length c1_1]) (t:=26) ?hr ?_;(case hd=>rfl);(case hg=>rfl);(case hr=>go_simp;try rfl);intro Ak hg w9 hbox hb;have Ab:=A_ (hbox);have Al:=A_ (gw_ (w:=w) hg bb_);have Am:=A_ (gw_ (w:=w) hg bb_);replace HB:=A_ (below_step bb_ hb);have Ad:=A_ (nl_ hg Aa);have Ae:=A_ (ng_ hg Aa);replace Aa:=bz Aa hb;clear hb hbox hg;have Z:=Ad.1;have Z:=Ae.1;obtain ⟨Z,Z,Z,Z⟩:=o2_ Aa.1)|((with_reducible refine gate_callee (f:=61) rfl ?_);refine goesL_ (some 8) rfl rfl Tryd.func61 (by kernel_rfl) rfl #[.agg #[.int .i64 a0_0,.slice A0_1 l0_1.length c0_1]] rfl au_ ?_;(with_reducible refine (Aal.calls k a0_0 _ _ l0_1 true _ ?side1 ?side2 A3.1).mono ?_);(case side1=>exact cl_ (Kd.C_below HR0_1.1 HB.1));(case side2=>exact HC0_1.1);rintro e w12 ⟨rfl,hb⟩;refine ⟨_,rfl,?_⟩;replace Aa:=bz Aa hb;replace Ab:=bz Ab hb;replace HB:=A_ (below_step bb_ hb);(try clear hb);(try clear hb2);(try clear hk);(try clear hi);obtain ⟨Z,Z,Z,Z⟩:=o2_ Ab.1)|(go_at_call 61;(with_reducible refine (Aal.calls k a1_0 _ _ l1_1 true _ ?side1 ?side2 A5.1).mono ?_);(case side1=>exact cl_ (Kd.C_below HR1_1.1 HB.1));(case side2=>exact HC1_1.1);rintro e w14 ⟨rfl,hb⟩;replace Aa:=bz Aa hb;replace Ab:=bz Ab hb;replace HB:=A_ (below_step bb_ hb);(try clear hb);(try clear hb2);(try clear hk);(try clear hi);obtain ⟨Z,Z,Z,Z⟩:=o2_ Ab.1))
    go_ret2
    exact ⟨_,by first|rfl|(rw [hnl27,Bool.not_not] <;> rfl)|(simp [*,errW_none,errW_some] <;> rfl)|(simp [errW_none,errW_some] <;> rfl)|(simp [*,errW_none,errW_some] <;> rfl),by first|exact Kd.R_nil _ _ _ _ _|exact Kd.N_nil _ _ _ _ _|exact Kd.V_nil _ _ _ _ _|exact Kd.Q_nil _ _ _ _ _|exact Kd.S_nil _ _ _ _ _,bb_⟩
   ·rw [if_neg c7] at H;have c7b0 : decide (6 < a1_0) = false:=decide_eq_false c7;clear c7;replace H:=Option.bind_eq_some_iff.mp H;obtain ⟨Ac,Ao,H⟩:=H;replace H : (some (Ac,(Ac != ([] : List Int) || a1_0 == 0))) = some (r1,r2):=H;have A16:=A_ Ao;clear Ao;simp only [Option.some.injEq,Prod.mk.injEq] at H
    obtain ⟨rfl,rfl⟩:=H;go_enter Tryd.func23,Tryd.ntmps23
    go_wp2_with (first|((with_reducible refine gate_dst (N:=2) rfl ?_);refine box_event ?hg (N:=2) ?hd (cs:=#[.int .i64 a0_0,.slice A0_1 l0_1.length c0_1]) (t:=26) ?hr ?_;(case hd=>rfl);(case hg=>rfl);(case hr=>go_simp;try rfl);intro Ah hg w17 hbox hb;have Aa:=A_ (hbox);have Ai:=A_ (gw_ (w:=w) hg bb_);have Aj:=A_ (gw_ (w:=w) hg bb_);replace HB:=A_ (below_step bb_ hb);clear hb hbox hg)|((with_reducible refine gate_dst (N:=3) rfl ?_);refine box_event ?hg (N:=3) ?hd (cs:=#[.int .i64 a1_0,.slice A1_1 l1_1.length c1_1]) (t:=26) ?hr ?_;(case hd=>rfl);(case hg=>rfl);(case hr=>go_simp;try rfl);intro Ak hg w18 hbox hb;have Ab:=A_ (hbox);have Al:=A_ (gw_ (w:=w) hg bb_);have Am:=A_ (gw_ (w:=w) hg bb_);replace HB:=A_ (below_step bb_ hb);have Ad:=A_ (nl_ hg Aa);have Ae:=A_ (ng_ hg Aa);replace Aa:=bz Aa hb;clear hb hbox hg;have Z:=Ad.1;have Z:=Ae.1;obtain ⟨Z,Z,Z,Z⟩:=o2_ Aa.1)|((with_reducible refine gate_callee (f:=61) rfl ?_);refine goesL_ (some 8) rfl rfl Tryd.func61 (by kernel_rfl) rfl #[.agg #[.int .i64 a0_0,.slice A0_1 l0_1.length c0_1]] rfl au_ ?_;(with_reducible refine (Aal.calls k a0_0 _ _ l0_1 true _ ?side1 ?side2 A3.1).mono ?_);(case side1=>exact cl_ (Kd.C_below HR0_1.1 HB.1));(case side2=>exact HC0_1.1);rintro e w21 ⟨rfl,hb⟩;refine ⟨_,rfl,?_⟩;replace Aa:=bz Aa hb;replace Ab:=bz Ab hb;replace HB:=A_ (below_step bb_ hb);(try clear hb);(try clear hb2);(try clear hk);(try clear hi);obtain ⟨Z,Z,Z,Z⟩:=o2_ Ab.1)|(go_at_call 61;(with_reducible refine (Aal.calls k a1_0 _ _ l1_1 true _ ?side1 ?side2 A5.1).mono ?_);(case side1=>exact cl_ (Kd.C_below HR1_1.1 HB.1));(case side2=>exact HC1_1.1);rintro e w23 ⟨rfl,hb⟩;replace Aa:=bz Aa hb;replace Ab:=bz Ab hb;replace HB:=A_ (below_step bb_ hb);(try clear hb);(try clear hb2);(try clear hk);(try clear hi);obtain ⟨Z,Z,Z,Z⟩:=o2_ Ab.1;obtain ⟨Z,Z,Z,Z⟩:=o2_ Aa.1)|((with_reducible refine gate_callee (f:=82) rfl ?_);refine goesL_ (some 22) rfl rfl Tryd.func82 (by kernel_rfl) rfl #[.agg #[.int .i64 a0_0,.slice A0_1 l0_1.length c0_1],.agg #[.int .i64 a1_0,.slice A1_1 l1_1.length c1_1]] rfl au_ ?_;(with_reducible refine (Aat.calls k a0_0 _ _ l0_1 a1_0 _ _ l1_1 Ac _ ?side1 ?side2 ?side3 ?side4 A16.1).mono ?_);(case side1=>exact cl_ (Kd.C_below HR0_1.1 HB.1));(case side2=>exact HC0_1.1);(case side3=>exact cl_ (Kd.C_below HR1_1.1 HB.1));(case side4=>exact HC1_1.1);rintro e w26 ⟨Ap,rfl,ho0,hb,hz_⟩;have HZ_:=A_ hz_;clear hz_;refine ⟨_,rfl,?_⟩;have An:=A_ (Kd.R_lower ho0 (below_size bb_));replace Aa:=bz Aa hb;replace Ab:=bz Ab hb;replace HB:=A_ (below_step bb_ hb);(try clear hb);(try clear hb2);(try clear hk);(try clear hi);(try clear ho0);obtain ⟨Ao27,co27,eo27⟩:=Kd.R_slice An.1;subst eo27;(try have hnl27:=HZ_.1 _ _ _ rfl);(try clear HZ_)))
    go_ret2
    exact ⟨_,by first|rfl|(rw [hnl27,Bool.not_not] <;> rfl)|(simp [*,errW_none,errW_some] <;> rfl)|(simp [errW_none,errW_some] <;> rfl)|(simp [*,errW_none,errW_some] <;> rfl),rl_ An,bb_⟩
  ·replace c6:=Bool.eq_false_iff.mpr c6;subst c6;have H1 : (some (([] : List Int),false)) = some (r1,r2):=by rw [if_neg (show ¬ (false = true) by decide)] at H;exact H
   clear H;have H:=H1;clear H1;simp only [Option.some.injEq,Prod.mk.injEq] at H
   obtain ⟨rfl,rfl⟩:=H;go_enter Tryd.func23,Tryd.ntmps23
   go_wp2_with (first|((with_reducible refine gate_dst (N:=2) rfl ?_);refine box_event ?hg (N:=2) ?hd (cs:=#[.int .i64 a0_0,.slice A0_1 l0_1.length c0_1]) (t:=26) ?hr ?_;(case hd=>rfl);(case hg=>rfl);(case hr=>go_simp;try rfl);intro Ah hg w28 hbox hb;have Aa:=A_ (hbox);have Ai:=A_ (gw_ (w:=w) hg bb_);have Aj:=A_ (gw_ (w:=w) hg bb_);replace HB:=A_ (below_step bb_ hb);clear hb hbox hg)|((with_reducible refine gate_dst (N:=3) rfl ?_);refine box_event ?hg (N:=3) ?hd (cs:=#[.int .i64 a1_0,.slice A1_1 l1_1.length c1_1]) (t:=26) ?hr ?_;(case hd=>rfl);(case hg=>rfl);(case hr=>go_simp;try rfl);intro Ak hg w29 hbox hb;have Ab:=A_ (hbox);have Al:=A_ (gw_ (w:=w) hg bb_);have Am:=A_ (gw_ (w:=w) hg bb_);replace HB:=A_ (below_step bb_ hb);have Ad:=A_ (nl_ hg Aa);have Ae:=A_ (ng_ hg Aa);replace Aa:=bz Aa hb;clear hb hbox hg;have Z:=Ad.1;have Z:=Ae.1;obtain ⟨Z,Z,Z,Z⟩:=o2_ Aa.1)|((with_reducible refine gate_callee (f:=61) rfl ?_);refine goesL_ (some 8) rfl rfl Tryd.func61 (by kernel_rfl) rfl #[.agg #[.int .i64 a0_0,.slice A0_1 l0_1.length c0_1]] rfl au_ ?_;(with_reducible refine (Aal.calls k a0_0 _ _ l0_1 true _ ?side1 ?side2 A3.1).mono ?_);(case side1=>exact cl_ (Kd.C_below HR0_1.1 HB.1));(case side2=>exact HC0_1.1);rintro e w32 ⟨rfl,hb⟩;refine ⟨_,rfl,?_⟩;replace Aa:=bz Aa hb;replace Ab:=bz Ab hb;replace HB:=A_ (below_step bb_ hb);(try clear hb);(try clear hb2);(try clear hk);(try clear hi);obtain ⟨Z,Z,Z,Z⟩:=o2_ Ab.1)|(go_at_call 61;(with_reducible refine (Aal.calls k a1_0 _ _ l1_1 false _ ?side1 ?side2 A5.1).mono ?_);(case side1=>exact cl_ (Kd.C_below HR1_1.1 HB.1));(case side2=>exact HC1_1.1);rintro e w34 ⟨rfl,hb⟩;replace Aa:=bz Aa hb;replace Ab:=bz Ab hb;replace HB:=A_ (below_step bb_ hb);(try clear hb);(try clear hb2);(try clear hk);(try clear hi)))
   go_ret2
   exact ⟨_,by first|rfl|(rw [hnl27,Bool.not_not] <;> rfl)|(simp [*,errW_none,errW_some] <;> rfl)|(simp [errW_none,errW_some] <;> rfl)|(simp [*,errW_none,errW_some] <;> rfl),by first|exact Kd.R_nil _ _ _ _ _|exact Kd.N_nil _ _ _ _ _|exact Kd.V_nil _ _ _ _ _|exact Kd.Q_nil _ _ _ _ _|exact Kd.S_nil _ _ _ _ _,bb_⟩
 ·replace c4:=Bool.eq_false_iff.mpr c4;subst c4;have H1 : (some (([] : List Int),false)) = some (r1,r2):=by rw [if_neg (show ¬ (false = true) by decide)] at H;exact H
  clear H;have H:=H1;clear H1;simp only [Option.some.injEq,Prod.mk.injEq] at H
  obtain ⟨rfl,rfl⟩:=H;go_enter Tryd.func23,Tryd.ntmps23
  go_wp2_with (first|((with_reducible refine gate_dst (N:=2) rfl ?_);refine box_event ?hg (N:=2) ?hd (cs:=#[.int .i64 a0_0,.slice A0_1 l0_1.length c0_1]) (t:=26) ?hr ?_;(case hd=>rfl);(case hg=>rfl);(case hr=>go_simp;try rfl);intro Ah hg w35 hbox hb;have Aa:=A_ (hbox);have Ai:=A_ (gw_ (w:=w) hg bb_);have Aj:=A_ (gw_ (w:=w) hg bb_);replace HB:=A_ (below_step bb_ hb);clear hb hbox hg)|((with_reducible refine gate_dst (N:=3) rfl ?_);refine box_event ?hg (N:=3) ?hd (cs:=#[.int .i64 a1_0,.slice A1_1 l1_1.length c1_1]) (t:=26) ?hr ?_;(case hd=>rfl);(case hg=>rfl);(case hr=>go_simp;try rfl);intro Ak hg w36 hbox hb;have Ab:=A_ (hbox);have Al:=A_ (gw_ (w:=w) hg bb_);have Am:=A_ (gw_ (w:=w) hg bb_);replace HB:=A_ (below_step bb_ hb);have Ad:=A_ (nl_ hg Aa);have Ae:=A_ (ng_ hg Aa);replace Aa:=bz Aa hb;clear hb hbox hg;have Z:=Ad.1;have Z:=Ae.1;obtain ⟨Z,Z,Z,Z⟩:=o2_ Aa.1)|((with_reducible refine gate_callee (f:=61) rfl ?_);refine goesL_ (some 8) rfl rfl Tryd.func61 (by kernel_rfl) rfl #[.agg #[.int .i64 a0_0,.slice A0_1 l0_1.length c0_1]] rfl au_ ?_;(with_reducible refine (Aal.calls k a0_0 _ _ l0_1 false _ ?side1 ?side2 A3.1).mono ?_);(case side1=>exact cl_ (Kd.C_below HR0_1.1 HB.1));(case side2=>exact HC0_1.1);rintro e w39 ⟨rfl,hb⟩;refine ⟨_,rfl,?_⟩;replace Aa:=bz Aa hb;replace Ab:=bz Ab hb;replace HB:=A_ (below_step bb_ hb);(try clear hb);(try clear hb2);(try clear hk);(try clear hi)))
  go_ret2
  exact ⟨_,by first|rfl|(rw [hnl27,Bool.not_not] <;> rfl)|(simp [*,errW_none,errW_some] <;> rfl)|(simp [errW_none,errW_some] <;> rfl)|(simp [*,errW_none,errW_some] <;> rfl),by first|exact Kd.R_nil _ _ _ _ _|exact Kd.N_nil _ _ _ _ _|exact Kd.V_nil _ _ _ _ _|exact Kd.Q_nil _ _ _ _ _|exact Kd.S_nil _ _ _ _ _,bb_⟩
end Go.Proofs.YtfjpilcmjabikaaDoor.P

