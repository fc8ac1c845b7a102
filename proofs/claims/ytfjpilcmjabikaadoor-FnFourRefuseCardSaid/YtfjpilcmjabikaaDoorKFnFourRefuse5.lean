/- A part of the proof that the law FnFourRefuse holds at every input. Written by wip/pack.py: the kit's printed words that are used, the functions' walks as wip/gen.py prints them, and hand proofs. -/
import Derived.Test.YtfjpilcmjabikaaDoorKFnFourRefuse4
namespace Go.Proofs.YtfjpilcmjabikaaDoor.P
open Go.RowKit Go.Proofs.YtfjpilcmjabikaaDoorW.PrintWords Go.Proofs.YtfjpilcmjabikaaDoorW.PrintLast Go.Proofs.YtfjpilcmjabikaaDoorW.PrintMore
open Bool renaming true → T, false → F
open List renaming setIfInBounds_toArray → L_, set_cons_zero → M_, set_cons_succ → N_, map_toArray → P_, map_cons → Q_, map_nil → R_, length_drop → S_, length_take → U_
open Aside0 renaming mk → A_
attribute [local go_sem] max2_int min2_int max_two min_two max_three min_three max_four min_four
set_option linter.unusedVariables false
set_option linter.unusedSimpArgs false
attribute [local go_sem] fldOrder_0 fldOrder_1
mutual
def laws_FnFourRefuse.j0 : Nat → List Int → Bool → Bool → Int → List Int → Option (Bool)
 | 0,_,_,_,_,_=>none
 | k + 1,x6,x7,x50,x1314000,x1314001=>if x50 = true then (some false) else ((impl_IsIntervalOrder.f k x1314000 x1314001).bind fun bt1323=>((impl_LowerLevels.f k x1314000 x1314001).bind fun bt1325=>((impl_EndsOf.f k x1314000 x1314001).bind fun bt1329=>((impl_MagnitudeOf.f k x1314000 x1314001).bind fun bt1333=>((impl_SetsAlong.f k x1314000 x1314001).bind fun bt1335=>((impl_IsOrder.f k x1314000 x1314001).bind fun t1339=>(if (bt1323.2 != t1339) = true then (laws_FnFourRefuse.j1 k x6 x7 true x1314000 x1314001) else (if bt1323.2 = true then (if (x7 != (!bt1323.1)) = true then (laws_FnFourRefuse.j1 k x6 x7 true x1314000 x1314001) else (if (bt1325.2 != bt1323.1) = true then (laws_FnFourRefuse.j1 k x6 x7 true x1314000 x1314001) else (if (bt1329.2 != bt1323.1) = true then (laws_FnFourRefuse.j1 k x6 x7 true x1314000 x1314001) else (if (bt1333.2 != bt1323.1) = true then (laws_FnFourRefuse.j1 k x6 x7 true x1314000 x1314001) else (laws_FnFourRefuse.j1 k x6 x7 (bt1335.2 != bt1323.1) x1314000 x1314001))))) else (if (x7 != false) = true then (laws_FnFourRefuse.j1 k x6 x7 true x1314000 x1314001) else (if (bt1325.2 != bt1323.1) = true then (laws_FnFourRefuse.j1 k x6 x7 true x1314000 x1314001) else (if (bt1329.2 != bt1323.1) = true then (laws_FnFourRefuse.j1 k x6 x7 true x1314000 x1314001) else (if (bt1333.2 != bt1323.1) = true then (laws_FnFourRefuse.j1 k x6 x7 true x1314000 x1314001) else (laws_FnFourRefuse.j1 k x6 x7 (bt1335.2 != bt1323.1) x1314000 x1314001)))))))))))))
def laws_FnFourRefuse.j1 : Nat → List Int → Bool → Bool → Int → List Int → Option (Bool)
 | 0,_,_,_,_,_=>none
 | k + 1,x6,x7,x108,x1314000,x1314001=>if x108 = true then (some false) else (if x7 = true then (if 0 < (x6.length : Int) then (if 1 < (x6.length : Int) then (if 2 < (x6.length : Int) then (if 3 < (x6.length : Int) then (if 0 ≤ (rd x6 0) then (if (rd x6 0) < (x1314001.length : Int) then ((laws_pIn.f (rd x1314001 (rd x6 0)) (rd x6 1)).bind fun t1345=>(if t1345 = true then (if 0 ≤ (rd x6 2) then (if (rd x6 2) < (x1314001.length : Int) then ((laws_pIn.f (rd x1314001 (rd x6 2)) (rd x6 3)).bind fun t1347=>(if t1347 = true then ((laws_pIn.f (rd x1314001 (rd x6 0)) (rd x6 3)).bind fun t1349=>(if t1349 = true then (laws_FnFourRefuse.j2 k x6 true x1314000 x1314001) else ((laws_pIn.f (rd x1314001 (rd x6 2)) (rd x6 1)).bind fun t1351=>(laws_FnFourRefuse.j2 k x6 t1351 x1314000 x1314001)))) else (laws_FnFourRefuse.j2 k x6 true x1314000 x1314001))) else (none)) else (none)) else (laws_FnFourRefuse.j2 k x6 true x1314000 x1314001))) else (none)) else (none)) else (none)) else (none)) else (none)) else (none)) else (some true))
def laws_FnFourRefuse.j2 : Nat → List Int → Bool → Int → List Int → Option (Bool)
 | 0,_,_,_,_=>none
 | k + 1,x6,x158,x1314000,x1314001=>if x158 = true then (some false) else ((impl_FindPattern.f k x1314000 x1314001 4 (([2,0,8,0] : List Int))).bind fun bt1356=>(if bt1356.2 = true then ((laws_pSame.f k bt1356.1 x6).bind fun t1360=>(some t1360)) else (some false)))
end
def laws_FnFourRefuse.f (k : Nat) (l0 : List Int) (l1 : List Int) : Option (Bool) := (laws_big.f l0 l1).bind fun t1308 => (if t1308 = true then (some true) else ((spec_DrawTwoTwoOf.f k l0).bind fun bt1309 => ((impl_TwoTwoOf.f k bt1309.1 bt1309.2).bind fun bt1314 => ((spec_TwoTwoOf.f k bt1309.1 bt1309.2).bind fun bt1318 => (if (bt1314.2 != bt1318.2) = true then (laws_FnFourRefuse.j0 k bt1314.1 bt1314.2 true bt1309.1 bt1309.2) else ((laws_pSame.f k bt1314.1 bt1318.1).bind fun t1322 => (laws_FnFourRefuse.j0 k bt1314.1 bt1314.2 (!t1322) bt1309.1 bt1309.2)))))))
set_option maxHeartbeats 8000000 in
set_option maxRecDepth 100000 in
theorem laws_FnFourRefuse.calls (k : Nat) (A0 : Option Addr) (c0 : Nat) (l0 : List Int) (A1 : Option Addr) (c1 : Nat) (l1 : List Int) (r : Bool) (w : World) (hr0 : Kd.C (Kd.int .u8) w A0 l0.length l0) (hc0 : l0.length ≤ c0) (hr1 : Kd.C (Kd.int .u8) w A1 l1.length l1) (hc1 : l1.length ≤ c1) (hT : TabOK w) (h : laws_FnFourRefuse.f k l0 l1 = some r) :
 Calls Tryd.prog 8 #[.slice A0 l0.length c0,.slice A1 l1.length c1] w fun e w'=>e = .returned (.bool r) ∧ Below w.heap.size w w':=by
 have hu26:=Tryd.underlying26;have HT:=A_ hT;clear hT;have HR0:=A_ hr0;have HC0:=A_ hc0;clear hr0 hc0;have HR1:=A_ hr1;have HC1:=A_ hc1;clear hr1 hc1;have HB:=A_ (Below.refl w.heap.size w);have H : ((laws_big.f l0 l1).bind fun t1308=>(if t1308 = true then (some true) else ((spec_DrawTwoTwoOf.f k l0).bind fun bt1309=>((impl_TwoTwoOf.f k bt1309.1 bt1309.2).bind fun bt1314=>((spec_TwoTwoOf.f k bt1309.1 bt1309.2).bind fun bt1318=>(if (bt1314.2 != bt1318.2) = true then (laws_FnFourRefuse.j0 k bt1314.1 bt1314.2 true bt1309.1 bt1309.2) else ((laws_pSame.f k bt1314.1 bt1318.1).bind fun t1322=>(laws_FnFourRefuse.j0 k bt1314.1 bt1314.2 (!t1322) bt1309.1 bt1309.2)))))))) = some r:=h;clear h;replace H:=Option.bind_eq_some_iff.mp H;obtain ⟨t1308,A30,H⟩:=H;replace H : (if t1308 = true then (some true) else ((spec_DrawTwoTwoOf.f k l0).bind fun bt1309=>((impl_TwoTwoOf.f k bt1309.1 bt1309.2).bind fun bt1314=>((spec_TwoTwoOf.f k bt1309.1 bt1309.2).bind fun bt1318=>(if (bt1314.2 != bt1318.2) = true then (laws_FnFourRefuse.j0 k bt1314.1 bt1314.2 true bt1309.1 bt1309.2) else ((laws_pSame.f k bt1314.1 bt1318.1).bind fun t1322=>(laws_FnFourRefuse.j0 k bt1314.1 bt1314.2 (!t1322) bt1309.1 bt1309.2))))))) = some r:=H;have A3:=A_ A30;clear A30;by_cases c4 : t1308 = true
 ·subst c4;have H1 : (some true) = some r:=by rw [if_pos rfl] at H;exact H
  clear H;have H:=H1;clear H1;obtain rfl:=Option.some.inj H;go_enter Tryd.func8,Tryd.ntmps8
  go_wp2_with (first|(go_at_call 9;(with_reducible refine (laws_big.calls _ _ l0 _ _ l1 true _ ?side1 ?side2 ?side3 ?side4 A3.out).mono ?_);(case side1=>repeat (first|exact HR0.out|(with_reducible refine Kd.C_alloc ?_ _)|(with_reducible refine Kd.C_drewN ?_ _)|(with_reducible refine Kd.C_drew ?_)));(case side2=>exact HC0.out);(case side3=>repeat (first|exact HR1.out|(with_reducible refine Kd.C_alloc ?_ _)|(with_reducible refine Kd.C_drewN ?_ _)|(with_reducible refine Kd.C_drew ?_)));(case side4=>exact HC1.out);rintro e w' ⟨rfl,⟨nd,rfl⟩⟩;(try first|exact ⟨rfl,_,World.drewN_drewN _ _ _⟩|exact ⟨rfl,_,Eq.trans (World.drewN_drewN _ _ _) (congrArg (World.drewN _) (Nat.add_assoc _ _ _))⟩)))
  repeat (go_quiet (first|(go_at_call 9;(with_reducible refine (laws_big.calls _ _ l0 _ _ l1 true _ ?side1 ?side2 ?side3 ?side4 A3.out).mono ?_);(case side1=>repeat (first|exact HR0.out|(with_reducible refine Kd.C_alloc ?_ _)|(with_reducible refine Kd.C_drewN ?_ _)|(with_reducible refine Kd.C_drew ?_)));(case side2=>exact HC0.out);(case side3=>repeat (first|exact HR1.out|(with_reducible refine Kd.C_alloc ?_ _)|(with_reducible refine Kd.C_drewN ?_ _)|(with_reducible refine Kd.C_drew ?_)));(case side4=>exact HC1.out);rintro e w' ⟨rfl,⟨nd,rfl⟩⟩;(try first|exact ⟨rfl,_,World.drewN_drewN _ _ _⟩|exact ⟨rfl,_,Eq.trans (World.drewN_drewN _ _ _) (congrArg (World.drewN _) (Nat.add_assoc _ _ _))⟩)));try go_wp2_with (first|(go_at_call 9;(with_reducible refine (laws_big.calls _ _ l0 _ _ l1 true _ ?side1 ?side2 ?side3 ?side4 A3.out).mono ?_);(case side1=>repeat (first|exact HR0.out|(with_reducible refine Kd.C_alloc ?_ _)|(with_reducible refine Kd.C_drewN ?_ _)|(with_reducible refine Kd.C_drew ?_)));(case side2=>exact HC0.out);(case side3=>repeat (first|exact HR1.out|(with_reducible refine Kd.C_alloc ?_ _)|(with_reducible refine Kd.C_drewN ?_ _)|(with_reducible refine Kd.C_drew ?_)));(case side4=>exact HC1.out);rintro e w' ⟨rfl,⟨nd,rfl⟩⟩;(try first|exact ⟨rfl,_,World.drewN_drewN _ _ _⟩|exact ⟨rfl,_,Eq.trans (World.drewN_drewN _ _ _) (congrArg (World.drewN _) (Nat.add_assoc _ _ _))⟩))))
  go_ret
  exact ⟨by first|rfl|(simp [errW_none,errW_some] <;> rfl)|(simp [*,errW_none,errW_some] <;> rfl),bb_⟩
 ·replace c4:=Bool.eq_false_iff.mpr c4;subst c4;have H1 : ((spec_DrawTwoTwoOf.f k l0).bind fun bt1309=>((impl_TwoTwoOf.f k bt1309.1 bt1309.2).bind fun bt1314=>((spec_TwoTwoOf.f k bt1309.1 bt1309.2).bind fun bt1318=>(if (bt1314.2 != bt1318.2) = true then (laws_FnFourRefuse.j0 k bt1314.1 bt1314.2 true bt1309.1 bt1309.2) else ((laws_pSame.f k bt1314.1 bt1318.1).bind fun t1322=>(laws_FnFourRefuse.j0 k bt1314.1 bt1314.2 (!t1322) bt1309.1 bt1309.2)))))) = some r:=by rw [if_neg (show ¬ (false = true) by decide)] at H;exact H
  clear H;have H:=H1;clear H1;replace H:=Option.bind_eq_some_iff.mp H;obtain ⟨⟨t1309,t1310⟩,A50,H⟩:=H;replace H : ((impl_TwoTwoOf.f k t1309 t1310).bind fun bt1314=>((spec_TwoTwoOf.f k t1309 t1310).bind fun bt1318=>(if (bt1314.2 != bt1318.2) = true then (laws_FnFourRefuse.j0 k bt1314.1 bt1314.2 true t1309 t1310) else ((laws_pSame.f k bt1314.1 bt1318.1).bind fun t1322=>(laws_FnFourRefuse.j0 k bt1314.1 bt1314.2 (!t1322) t1309 t1310))))) = some r:=H;have A5:=A_ A50;clear A50;replace H:=Option.bind_eq_some_iff.mp H;obtain ⟨⟨t1314,t1317⟩,A60,H⟩:=H;replace H : ((spec_TwoTwoOf.f k t1309 t1310).bind fun bt1318=>(if (t1317 != bt1318.2) = true then (laws_FnFourRefuse.j0 k t1314 t1317 true t1309 t1310) else ((laws_pSame.f k t1314 bt1318.1).bind fun t1322=>(laws_FnFourRefuse.j0 k t1314 t1317 (!t1322) t1309 t1310)))) = some r:=H;have A6:=A_ A60;clear A60;replace H:=Option.bind_eq_some_iff.mp H;obtain ⟨⟨t1318,t1321⟩,A70,H⟩:=H;replace H : (if (t1317 != t1321) = true then (laws_FnFourRefuse.j0 k t1314 t1317 true t1309 t1310) else ((laws_pSame.f k t1314 t1318).bind fun t1322=>(laws_FnFourRefuse.j0 k t1314 t1317 (!t1322) t1309 t1310))) = some r:=H;have A7:=A_ A70;clear A70;have HC8:=A_ H;clear H;go_enter Tryd.func8,Tryd.ntmps8
  go_upto_region 6 with (first|(go_at_call 9;(with_reducible refine (laws_big.calls _ _ l0 _ _ l1 false _ ?side1 ?side2 ?side3 ?side4 A3.out).mono ?_);(case side1=>repeat (first|exact HR0.out|(with_reducible refine Kd.C_alloc ?_ _)|(with_reducible refine Kd.C_drewN ?_ _)|(with_reducible refine Kd.C_drew ?_)));(case side2=>exact HC0.out);(case side3=>repeat (first|exact HR1.out|(with_reducible refine Kd.C_alloc ?_ _)|(with_reducible refine Kd.C_drewN ?_ _)|(with_reducible refine Kd.C_drew ?_)));(case side4=>exact HC1.out);rintro e w' ⟨rfl,⟨nd,rfl⟩⟩;(try first|exact ⟨rfl,_,World.drewN_drewN _ _ _⟩|exact ⟨rfl,_,Eq.trans (World.drewN_drewN _ _ _) (congrArg (World.drewN _) (Nat.add_assoc _ _ _))⟩))|(go_at_call 50;(with_reducible refine (spec_DrawTwoTwoOf.calls k _ _ l0 t1309 t1310 _ ?side1 ?side2 A5.out).mono ?_);(case side1=>repeat (first|exact HR0.out|(with_reducible refine Kd.C_alloc ?_ _)|(with_reducible refine Kd.C_drewN ?_ _)|(with_reducible refine Kd.C_drew ?_)));(case side2=>exact HC0.out);rintro e w9 ⟨v1311,rfl,ho0,hb⟩;have HO1312:=A_ (Kd.R_lower ho0 (below_size bb_));replace HB:=A_ (below_step bb_ hb);(try clear hb);(try clear hb2);(try clear hk);(try clear hi);(try clear ho0))|((with_reducible refine gate_dst (N:=5) rfl ?_);refine box_event ?hg (N:=5) ?hd (cs:=#[.int .i64 0,.slice none 0 0]) (t:=26) ?hr ?_;(case hd=>rfl);(case hg=>rfl);(case hr=>first|(go_simp;done)|(go_simp;rfl));intro gb1313 hg w10 hbox hb;replace HO1312:=rb_ HO1312 hb;have BK1313:=A_ (hbox);have GW1313:=A_ ((by rw [hg];exact (below_size bb_) : w.heap.size ≤ gb1313));have GE1313:=A_ ((by rw [hg];exact (below_size bb_) : w.heap.size ≤ gb1313));replace HB:=A_ (below_step bb_ hb);clear hb hbox hg;have hcz11_0 : w10.cell? ⟨gb1313,0,none⟩ = some (.int .i64 0):=blk_cell BK1313.out 0;have hcz11_1 : w10.cell? ⟨gb1313,1,none⟩ = some (.slice none 0 0):=blk_cell BK1313.out 1;have hfz11_0:=blk_frozen BK1313.out 0;have hfz11_1:=blk_frozen BK1313.out 1;obtain ⟨Ao12,co12,eo12⟩:=Kd.R_slice HO1312.out;subst eo12)|(go_at_call 51;(with_reducible refine (impl_TwoTwoOf.calls k t1309 _ _ t1310 t1314 t1317 _ ?side1 ?side2 ?side3 A6.out).mono ?_);(case side1=>refine (Kd.R_reads' (e:=3) (base:=w.heap.size) (ok:=fun k_=>True) (n:=t1310.length) (c:=co12) ?_).2.2;exact (by (with_reducible repeat (first|apply Kd.R_alloc|apply Kd.R_drewN|apply Kd.R_drew));exact (Kd.R_mono (Kd.R_far (p:=⟨gb1313,1,none⟩) (Kd.R_far (p:=⟨gb1313,0,none⟩) (Kd.R_types HO1312.out BK1313.out (by decide)) (fun _ hk=>hk.2) (.int .i64 t1309)) (fun _ hk=>hk.2) (.slice Ao12 t1310.length co12)) (fun _ h_=>h_.1))));(case side2=>exact (Kd.R_reads' HO1312.out).2.1);(case side3=>first|exact HT.out|exact HT.out.below bb_|(repeat (first|exact HT.out|apply TabOK.drewN|apply TabOK.drew|apply TabOK.alloc)));rintro e w13 ⟨v1315,rfl,ho0,hb⟩;have HO1316:=A_ (Kd.R_lower (Kd.R_new' ho0 (Kd.R_lt (by (with_reducible repeat (first|apply Kd.R_alloc|apply Kd.R_drewN|apply Kd.R_drew));exact (Kd.R_mono (Kd.R_far (p:=⟨gb1313,1,none⟩) (Kd.R_far (p:=⟨gb1313,0,none⟩) (Kd.R_types HO1312.out BK1313.out (by decide)) (fun _ hk=>hk.2) (.int .i64 t1309)) (fun _ hk=>hk.2) (.slice Ao12 t1310.length co12)) (fun _ h_=>h_.1))))) (below_size bb_));replace HO1312:=A_ (Kd.R_elder' (by (with_reducible repeat (first|apply Kd.R_alloc|apply Kd.R_drewN|apply Kd.R_drew));exact (Kd.R_mono (Kd.R_far (p:=⟨gb1313,1,none⟩) (Kd.R_far (p:=⟨gb1313,0,none⟩) (Kd.R_types HO1312.out BK1313.out (by decide)) (fun _ hk=>hk.2) (.int .i64 t1309)) (fun _ hk=>hk.2) (.slice Ao12 t1310.length co12)) (fun _ h_=>h_.1))) (Kd.R_base ho0) hb);replace BK1313:=A_ (blk_below (g:=gb1313) (o:=.cells #[.int .i64 t1309,.slice Ao12 t1310.length co12] 26 (0,0)) (by (with_reducible repeat (first|refine blk_drewN ?_ _|refine blk_drew ?_|refine blk_alloc ?_ _));refine blk_put (cs:=#[.int .i64 t1309,.slice none 0 0]) ?_ 1 _ rfl;(with_reducible repeat (first|refine blk_drewN ?_ _|refine blk_drew ?_|refine blk_alloc ?_ _));refine blk_put (cs:=#[.int .i64 0,.slice none 0 0]) ?_ 0 _ rfl;(with_reducible repeat (first|refine blk_drewN ?_ _|refine blk_drew ?_|refine blk_alloc ?_ _));exact BK1313.out) hb);replace HB:=A_ (below_step bb_ hb);(try clear hb);(try clear hb2);(try clear hk);(try clear hi);(try clear ho0);have hcz14_0 : w13.cell? ⟨gb1313,0,none⟩ = some (.int .i64 t1309):=blk_cell BK1313.out 0;have hcz14_1 : w13.cell? ⟨gb1313,1,none⟩ = some (.slice Ao12 t1310.length co12):=blk_cell BK1313.out 1;have hfz14_0:=blk_frozen BK1313.out 0;have hfz14_1:=blk_frozen BK1313.out 1)|(go_at_call 52;(with_reducible refine (spec_TwoTwoOf.calls k t1309 _ _ t1310 t1318 t1321 _ ?side1 ?side2 A7.out).mono ?_);(case side1=>exact cl_ (Kd.R_reads' HO1312.out).2.2);(case side2=>exact (Kd.R_reads' HO1312.out).2.1);rintro e w15 ⟨v1319,rfl,ho0,hb⟩;have HO1320:=A_ (Kd.R_lower (Kd.R_new' (Kd.R_new' ho0 (Kd.R_lt (rl_ HO1312))) (Kd.R_lt (rl_ HO1316))) (below_size bb_));replace HO1312:=A_ (Kd.R_elder' (rl_ HO1312) (Kd.R_base ho0) hb);replace HO1316:=A_ (Kd.R_elder' (rl_ HO1316) (Kd.R_base ho0) hb);replace BK1313:=bz BK1313 hb;replace HB:=A_ (below_step bb_ hb);(try clear hb);(try clear hb2);(try clear hk);(try clear hi);(try clear ho0)))
  repeat (go_quiet (first|(go_at_call 9;(with_reducible refine (laws_big.calls _ _ l0 _ _ l1 false _ ?side1 ?side2 ?side3 ?side4 A3.out).mono ?_);(case side1=>repeat (first|exact HR0.out|(with_reducible refine Kd.C_alloc ?_ _)|(with_reducible refine Kd.C_drewN ?_ _)|(with_reducible refine Kd.C_drew ?_)));(case side2=>exact HC0.out);(case side3=>repeat (first|exact HR1.out|(with_reducible refine Kd.C_alloc ?_ _)|(with_reducible refine Kd.C_drewN ?_ _)|(with_reducible refine Kd.C_drew ?_)));(case side4=>exact HC1.out);rintro e w' ⟨rfl,⟨nd,rfl⟩⟩;(try first|exact ⟨rfl,_,World.drewN_drewN _ _ _⟩|exact ⟨rfl,_,Eq.trans (World.drewN_drewN _ _ _) (congrArg (World.drewN _) (Nat.add_assoc _ _ _))⟩))|(go_at_call 50;(with_reducible refine (spec_DrawTwoTwoOf.calls k _ _ l0 t1309 t1310 _ ?side1 ?side2 A5.out).mono ?_);(case side1=>repeat (first|exact HR0.out|(with_reducible refine Kd.C_alloc ?_ _)|(with_reducible refine Kd.C_drewN ?_ _)|(with_reducible refine Kd.C_drew ?_)));(case side2=>exact HC0.out);rintro e w9 ⟨v1311,rfl,ho0,hb⟩;have HO1312:=A_ (Kd.R_lower ho0 (below_size bb_));replace HB:=A_ (below_step bb_ hb);(try clear hb);(try clear hb2);(try clear hk);(try clear hi);(try clear ho0))|((with_reducible refine gate_dst (N:=5) rfl ?_);refine box_event ?hg (N:=5) ?hd (cs:=#[.int .i64 0,.slice none 0 0]) (t:=26) ?hr ?_;(case hd=>rfl);(case hg=>rfl);(case hr=>first|(go_simp;done)|(go_simp;rfl));intro gb1313 hg w10 hbox hb;replace HO1312:=rb_ HO1312 hb;have BK1313:=A_ (hbox);have GW1313:=A_ ((by rw [hg];exact (below_size bb_) : w.heap.size ≤ gb1313));have GE1313:=A_ ((by rw [hg];exact (below_size bb_) : w.heap.size ≤ gb1313));replace HB:=A_ (below_step bb_ hb);clear hb hbox hg;have hcz11_0 : w10.cell? ⟨gb1313,0,none⟩ = some (.int .i64 0):=blk_cell BK1313.out 0;have hcz11_1 : w10.cell? ⟨gb1313,1,none⟩ = some (.slice none 0 0):=blk_cell BK1313.out 1;have hfz11_0:=blk_frozen BK1313.out 0;have hfz11_1:=blk_frozen BK1313.out 1;obtain ⟨Ao12,co12,eo12⟩:=Kd.R_slice HO1312.out;subst eo12)|(go_at_call 51;(with_reducible refine (impl_TwoTwoOf.calls k t1309 _ _ t1310 t1314 t1317 _ ?side1 ?side2 ?side3 A6.out).mono ?_);(case side1=>refine (Kd.R_reads' (e:=3) (base:=w.heap.size) (ok:=fun k_=>True) (n:=t1310.length) (c:=co12) ?_).2.2;exact (by (with_reducible repeat (first|apply Kd.R_alloc|apply Kd.R_drewN|apply Kd.R_drew));exact (Kd.R_mono (Kd.R_far (p:=⟨gb1313,1,none⟩) (Kd.R_far (p:=⟨gb1313,0,none⟩) (Kd.R_types HO1312.out BK1313.out (by decide)) (fun _ hk=>hk.2) (.int .i64 t1309)) (fun _ hk=>hk.2) (.slice Ao12 t1310.length co12)) (fun _ h_=>h_.1))));(case side2=>exact (Kd.R_reads' HO1312.out).2.1);(case side3=>first|exact HT.out|exact HT.out.below bb_|(repeat (first|exact HT.out|apply TabOK.drewN|apply TabOK.drew|apply TabOK.alloc)));rintro e w13 ⟨v1315,rfl,ho0,hb⟩;have HO1316:=A_ (Kd.R_lower (Kd.R_new' ho0 (Kd.R_lt (by (with_reducible repeat (first|apply Kd.R_alloc|apply Kd.R_drewN|apply Kd.R_drew));exact (Kd.R_mono (Kd.R_far (p:=⟨gb1313,1,none⟩) (Kd.R_far (p:=⟨gb1313,0,none⟩) (Kd.R_types HO1312.out BK1313.out (by decide)) (fun _ hk=>hk.2) (.int .i64 t1309)) (fun _ hk=>hk.2) (.slice Ao12 t1310.length co12)) (fun _ h_=>h_.1))))) (below_size bb_));replace HO1312:=A_ (Kd.R_elder' (by (with_reducible repeat (first|apply Kd.R_alloc|apply Kd.R_drewN|apply Kd.R_drew));exact (Kd.R_mono (Kd.R_far (p:=⟨gb1313,1,none⟩) (Kd.R_far (p:=⟨gb1313,0,none⟩) (Kd.R_types HO1312.out BK1313.out (by decide)) (fun _ hk=>hk.2) (.int .i64 t1309)) (fun _ hk=>hk.2) (.slice Ao12 t1310.length co12)) (fun _ h_=>h_.1))) (Kd.R_base ho0) hb);replace BK1313:=A_ (blk_below (g:=gb1313) (o:=.cells #[.int .i64 t1309,.slice Ao12 t1310.length co12] 26 (0,0)) (by (with_reducible repeat (first|refine blk_drewN ?_ _|refine blk_drew ?_|refine blk_alloc ?_ _));refine blk_put (cs:=#[.int .i64 t1309,.slice none 0 0]) ?_ 1 _ rfl;(with_reducible repeat (first|refine blk_drewN ?_ _|refine blk_drew ?_|refine blk_alloc ?_ _));refine blk_put (cs:=#[.int .i64 0,.slice none 0 0]) ?_ 0 _ rfl;(with_reducible repeat (first|refine blk_drewN ?_ _|refine blk_drew ?_|refine blk_alloc ?_ _));exact BK1313.out) hb);replace HB:=A_ (below_step bb_ hb);(try clear hb);(try clear hb2);(try clear hk);(try clear hi);(try clear ho0);have hcz14_0 : w13.cell? ⟨gb1313,0,none⟩ = some (.int .i64 t1309):=blk_cell BK1313.out 0;have hcz14_1 : w13.cell? ⟨gb1313,1,none⟩ = some (.slice Ao12 t1310.length co12):=blk_cell BK1313.out 1;have hfz14_0:=blk_frozen BK1313.out 0;have hfz14_1:=blk_frozen BK1313.out 1)|(go_at_call 52;(with_reducible refine (spec_TwoTwoOf.calls k t1309 _ _ t1310 t1318 t1321 _ ?side1 ?side2 A7.out).mono ?_);(case side1=>exact cl_ (Kd.R_reads' HO1312.out).2.2);(case side2=>exact (Kd.R_reads' HO1312.out).2.1);rintro e w15 ⟨v1319,rfl,ho0,hb⟩;have HO1320:=A_ (Kd.R_lower (Kd.R_new' (Kd.R_new' ho0 (Kd.R_lt (rl_ HO1312))) (Kd.R_lt (rl_ HO1316))) (below_size bb_));replace HO1312:=A_ (Kd.R_elder' (rl_ HO1312) (Kd.R_base ho0) hb);replace HO1316:=A_ (Kd.R_elder' (rl_ HO1316) (Kd.R_base ho0) hb);replace BK1313:=bz BK1313 hb;replace HB:=A_ (below_step bb_ hb);(try clear hb);(try clear hb2);(try clear hk);(try clear hi);(try clear ho0)));go_upto_region 6 with (first|(go_at_call 9;(with_reducible refine (laws_big.calls _ _ l0 _ _ l1 false _ ?side1 ?side2 ?side3 ?side4 A3.out).mono ?_);(case side1=>repeat (first|exact HR0.out|(with_reducible refine Kd.C_alloc ?_ _)|(with_reducible refine Kd.C_drewN ?_ _)|(with_reducible refine Kd.C_drew ?_)));(case side2=>exact HC0.out);(case side3=>repeat (first|exact HR1.out|(with_reducible refine Kd.C_alloc ?_ _)|(with_reducible refine Kd.C_drewN ?_ _)|(with_reducible refine Kd.C_drew ?_)));(case side4=>exact HC1.out);rintro e w' ⟨rfl,⟨nd,rfl⟩⟩;(try first|exact ⟨rfl,_,World.drewN_drewN _ _ _⟩|exact ⟨rfl,_,Eq.trans (World.drewN_drewN _ _ _) (congrArg (World.drewN _) (Nat.add_assoc _ _ _))⟩))|(go_at_call 50;(with_reducible refine (spec_DrawTwoTwoOf.calls k _ _ l0 t1309 t1310 _ ?side1 ?side2 A5.out).mono ?_);(case side1=>repeat (first|exact HR0.out|(with_reducible refine Kd.C_alloc ?_ _)|(with_reducible refine Kd.C_drewN ?_ _)|(with_reducible refine Kd.C_drew ?_)));(case side2=>exact HC0.out);rintro e w9 ⟨v1311,rfl,ho0,hb⟩;have HO1312:=A_ (Kd.R_lower ho0 (below_size bb_));replace HB:=A_ (below_step bb_ hb);(try clear hb);(try clear hb2);(try clear hk);(try clear hi);(try clear ho0))|((with_reducible refine gate_dst (N:=5) rfl ?_);refine box_event ?hg (N:=5) ?hd (cs:=#[.int .i64 0,.slice none 0 0]) (t:=26) ?hr ?_;(case hd=>rfl);(case hg=>rfl);(case hr=>first|(go_simp;done)|(go_simp;rfl));intro gb1313 hg w10 hbox hb;replace HO1312:=rb_ HO1312 hb;have BK1313:=A_ (hbox);have GW1313:=A_ ((by rw [hg];exact (below_size bb_) : w.heap.size ≤ gb1313));have GE1313:=A_ ((by rw [hg];exact (below_size bb_) : w.heap.size ≤ gb1313));replace HB:=A_ (below_step bb_ hb);clear hb hbox hg;have hcz11_0 : w10.cell? ⟨gb1313,0,none⟩ = some (.int .i64 0):=blk_cell BK1313.out 0;have hcz11_1 : w10.cell? ⟨gb1313,1,none⟩ = some (.slice none 0 0):=blk_cell BK1313.out 1;have hfz11_0:=blk_frozen BK1313.out 0;have hfz11_1:=blk_frozen BK1313.out 1;obtain ⟨Ao12,co12,eo12⟩:=Kd.R_slice HO1312.out;subst eo12)|(go_at_call 51;(with_reducible refine (impl_TwoTwoOf.calls k t1309 _ _ t1310 t1314 t1317 _ ?side1 ?side2 ?side3 A6.out).mono ?_);(case side1=>refine (Kd.R_reads' (e:=3) (base:=w.heap.size) (ok:=fun k_=>True) (n:=t1310.length) (c:=co12) ?_).2.2;exact (by (with_reducible repeat (first|apply Kd.R_alloc|apply Kd.R_drewN|apply Kd.R_drew));exact (Kd.R_mono (Kd.R_far (p:=⟨gb1313,1,none⟩) (Kd.R_far (p:=⟨gb1313,0,none⟩) (Kd.R_types HO1312.out BK1313.out (by decide)) (fun _ hk=>hk.2) (.int .i64 t1309)) (fun _ hk=>hk.2) (.slice Ao12 t1310.length co12)) (fun _ h_=>h_.1))));(case side2=>exact (Kd.R_reads' HO1312.out).2.1);(case side3=>first|exact HT.out|exact HT.out.below bb_|(repeat (first|exact HT.out|apply TabOK.drewN|apply TabOK.drew|apply TabOK.alloc)));rintro e w13 ⟨v1315,rfl,ho0,hb⟩;have HO1316:=A_ (Kd.R_lower (Kd.R_new' ho0 (Kd.R_lt (by (with_reducible repeat (first|apply Kd.R_alloc|apply Kd.R_drewN|apply Kd.R_drew));exact (Kd.R_mono (Kd.R_far (p:=⟨gb1313,1,none⟩) (Kd.R_far (p:=⟨gb1313,0,none⟩) (Kd.R_types HO1312.out BK1313.out (by decide)) (fun _ hk=>hk.2) (.int .i64 t1309)) (fun _ hk=>hk.2) (.slice Ao12 t1310.length co12)) (fun _ h_=>h_.1))))) (below_size bb_));replace HO1312:=A_ (Kd.R_elder' (by (with_reducible repeat (first|apply Kd.R_alloc|apply Kd.R_drewN|apply Kd.R_drew));exact (Kd.R_mono (Kd.R_far (p:=⟨gb1313,1,none⟩) (Kd.R_far (p:=⟨gb1313,0,none⟩) (Kd.R_types HO1312.out BK1313.out (by decide)) (fun _ hk=>hk.2) (.int .i64 t1309)) (fun _ hk=>hk.2) (.slice Ao12 t1310.length co12)) (fun _ h_=>h_.1))) (Kd.R_base ho0) hb);replace BK1313:=A_ (blk_below (g:=gb1313) (o:=.cells #[.int .i64 t1309,.slice Ao12 t1310.length co12] 26 (0,0)) (by (with_reducible repeat (first|refine blk_drewN ?_ _|refine blk_drew ?_|refine blk_alloc ?_ _));refine blk_put (cs:=#[.int .i64 t1309,.slice none 0 0]) ?_ 1 _ rfl;(with_reducible repeat (first|refine blk_drewN ?_ _|refine blk_drew ?_|refine blk_alloc ?_ _));refine blk_put (cs:=#[.int .i64 0,.slice none 0 0]) ?_ 0 _ rfl;(with_reducible repeat (first|refine blk_drewN ?_ _|refine blk_drew ?_|refine blk_alloc ?_ _));exact BK1313.out) hb);replace HB:=A_ (below_step bb_ hb);(try clear hb);(try clear hb2);(try clear hk);(try clear hi);(try clear ho0);have hcz14_0 : w13.cell? ⟨gb1313,0,none⟩ = some (.int .i64 t1309):=blk_cell BK1313.out 0;have hcz14_1 : w13.cell? ⟨gb1313,1,none⟩ = some (.slice Ao12 t1310.length co12):=blk_cell BK1313.out 1;have hfz14_0:=blk_frozen BK1313.out 0;have hfz14_1:=blk_frozen BK1313.out 1)|(go_at_call 52;(with_reducible refine (spec_TwoTwoOf.calls k t1309 _ _ t1310 t1318 t1321 _ ?side1 ?side2 A7.out).mono ?_);(case side1=>exact cl_ (Kd.R_reads' HO1312.out).2.2);(case side2=>exact (Kd.R_reads' HO1312.out).2.1);rintro e w15 ⟨v1319,rfl,ho0,hb⟩;have HO1320:=A_ (Kd.R_lower (Kd.R_new' (Kd.R_new' ho0 (Kd.R_lt (rl_ HO1312))) (Kd.R_lt (rl_ HO1316))) (below_size bb_));replace HO1312:=A_ (Kd.R_elder' (rl_ HO1312) (Kd.R_base ho0) hb);replace HO1316:=A_ (Kd.R_elder' (rl_ HO1316) (Kd.R_base ho0) hb);replace BK1313:=bz BK1313 hb;replace HB:=A_ (below_step bb_ hb);(try clear hb);(try clear hb2);(try clear hk);(try clear hi);(try clear ho0))))
  (try simp only [Act.put,L_,M_,N_]);go_cut [50] (fun v50 wc=>∃ (kq : Nat) (x50_7 : Bool),v50 = .bool x50_7 ∧ Aside0 (laws_FnFourRefuse.j0 kq t1314 t1317 x50_7 t1309 t1310 = some r) ∧ Aside0 (kq ≤ k) ∧ Aside0 (Kd.R (Kd.int .i64) 3 wc w.heap.size (fun k_=>some k_ ≠ ((.slice Ao12 t1310.length co12) : Value).ownBlock) v1315 t1314) ∧ Aside0 (Kd.R (Kd.int .i64) 3 wc w.heap.size (fun k_=>some k_ ≠ (v1315 : Value).ownBlock) (.slice Ao12 t1310.length co12) t1310) ∧ Aside0 (wc.heap[gb1313]? = some (.cells #[.int .i64 t1309,(.slice Ao12 t1310.length co12)] 26 (0,0))) ∧ Aside0 (Below w.heap.size w wc))
  case first =>
   have H:=HC8.out;clear HC8;by_cases c16 : (t1317 != t1321) = true
   ·rw [if_pos c16] at H;have c16b0 : (t1317 != t1321) = true:=c16;(try (have c16b1 : decide (t1317 = t1321) = false:=by simpa using c16));(try (have c16b2 : (t1317 == t1321) = false:=by simpa using c16));(try (have c16b3 : ¬ (t1317 = t1321):=by simpa using c16));clear c16;(first|rw [c16b0]|(simp only [i64_w,i32_w];rw [c16b0])|skip)
    have H':=A_ H;clear H;go_wp2
    repeat (go_quiet (fail);try go_wp2)
    go_meet
    case rel=>exact ⟨_,(true),(by first|rfl|(simp;done)|(simp [*];done)),H',⟨by first|omega|exact Nat.le_refl _⟩,⟨by (with_reducible repeat (first|apply Kd.R_alloc|apply Kd.R_drewN|apply Kd.R_drew));exact Kd.R_mono HO1316.out (fun _ hk=>hk.1.2)⟩,⟨by (with_reducible repeat (first|apply Kd.R_alloc|apply Kd.R_drewN|apply Kd.R_drew));exact Kd.R_mono HO1312.out (fun _ hk=>hk.1.2)⟩,⟨bl_ BK1313⟩,⟨bb_⟩⟩
   ·rw [if_neg c16] at H;have c16b0 : (t1317 != t1321) = false:=by simpa using c16
    (try (have c16b1 : decide (t1317 = t1321) = true:=by simpa using c16));(try (have c16b2 : (t1317 == t1321) = true:=by simpa using c16));clear c16;(first|rw [c16b0]|(simp only [i64_w,i32_w];rw [c16b0])|skip)
    replace H:=Option.bind_eq_some_iff.mp H;obtain ⟨t1322,A170,H⟩:=H;replace H : (laws_FnFourRefuse.j0 k t1314 t1317 (!t1322) t1309 t1310) = some r:=H;have A17:=A_ A170;clear A170;have H':=A_ H;clear H;obtain ⟨Ao18,co18,eo18⟩:=Kd.R_slice HO1316.out;subst eo18;obtain ⟨Ao19,co19,eo19⟩:=Kd.R_slice HO1320.out;subst eo19;go_wp2_with (first|(go_at_call 25;(with_reducible refine (laws_pSame.calls k _ _ t1314 _ _ t1318 t1322 _ ?side1 ?side2 ?side3 ?side4 A17.out).mono ?_);(case side1=>exact cl_ (Kd.R_reads' HO1316.out).2.2);(case side2=>exact (Kd.R_reads' HO1316.out).2.1);(case side3=>exact cl_ (Kd.R_reads' HO1320.out).2.2);(case side4=>exact (Kd.R_reads' HO1320.out).2.1);rintro e w' ⟨rfl,⟨nd,rfl⟩⟩;(try first|exact ⟨rfl,_,World.drewN_drewN _ _ _⟩|exact ⟨rfl,_,Eq.trans (World.drewN_drewN _ _ _) (congrArg (World.drewN _) (Nat.add_assoc _ _ _))⟩)))
    repeat (go_quiet (first|(go_at_call 25;(with_reducible refine (laws_pSame.calls k _ _ t1314 _ _ t1318 t1322 _ ?side1 ?side2 ?side3 ?side4 A17.out).mono ?_);(case side1=>exact cl_ (Kd.R_reads' HO1316.out).2.2);(case side2=>exact (Kd.R_reads' HO1316.out).2.1);(case side3=>exact cl_ (Kd.R_reads' HO1320.out).2.2);(case side4=>exact (Kd.R_reads' HO1320.out).2.1);rintro e w' ⟨rfl,⟨nd,rfl⟩⟩;(try first|exact ⟨rfl,_,World.drewN_drewN _ _ _⟩|exact ⟨rfl,_,Eq.trans (World.drewN_drewN _ _ _) (congrArg (World.drewN _) (Nat.add_assoc _ _ _))⟩)));try go_wp2_with (first|(go_at_call 25;(with_reducible refine (laws_pSame.calls k _ _ t1314 _ _ t1318 t1322 _ ?side1 ?side2 ?side3 ?side4 A17.out).mono ?_);(case side1=>exact cl_ (Kd.R_reads' HO1316.out).2.2);(case side2=>exact (Kd.R_reads' HO1316.out).2.1);(case side3=>exact cl_ (Kd.R_reads' HO1320.out).2.2);(case side4=>exact (Kd.R_reads' HO1320.out).2.1);rintro e w' ⟨rfl,⟨nd,rfl⟩⟩;(try first|exact ⟨rfl,_,World.drewN_drewN _ _ _⟩|exact ⟨rfl,_,Eq.trans (World.drewN_drewN _ _ _) (congrArg (World.drewN _) (Nat.add_assoc _ _ _))⟩))))
    go_meet
    case rel=>exact ⟨_,(!t1322),(by first|rfl|(simp;done)|(simp [*];done)),H',⟨by first|omega|exact Nat.le_refl _⟩,⟨by (with_reducible repeat (first|apply Kd.R_alloc|apply Kd.R_drewN|apply Kd.R_drew));exact Kd.R_mono HO1316.out (fun _ hk=>hk.1.2)⟩,⟨by (with_reducible repeat (first|apply Kd.R_alloc|apply Kd.R_drewN|apply Kd.R_drew));exact Kd.R_mono HO1312.out (fun _ hk=>hk.1.2)⟩,⟨bl_ BK1313⟩,⟨bb_⟩⟩
  case rest =>
   clear HC8;try clear c1
   try clear p2
   try clear c4
   try clear c8
   try clear c16
   try clear c16b0
   try clear c16b1
   try clear c16b2
   try clear hcz11_0
   try clear hcz11_1
   try clear hcz14_0
   try clear hcz14_1
   try clear hfz11_0
   try clear hfz11_1
   try clear hfz14_0
   try clear hfz14_1
   obtain ⟨kq,x50_7,rfl,HA,HJ7,HO_6,HO_1314001,BK1313,HB⟩:=hcut;cases kq with
   | zero=>exact absurd HA.out (by simp [laws_FnFourRefuse.j0])
   | succ kj7 =>
    have H:=HA.out;clear HA;simp only [laws_FnFourRefuse.j0] at H
    by_cases c20 : x50_7 = true
    ·subst c20;have H1 : (some false) = some r:=by rw [if_pos rfl] at H;exact H
     clear H;have H:=H1;clear H1;obtain rfl:=Option.some.inj H;go_wp2
     repeat (go_quiet (fail);try go_wp2)
     go_ret
     exact ⟨by first|rfl|(simp [errW_none,errW_some] <;> rfl)|(simp [*,errW_none,errW_some] <;> rfl),bb_⟩
    ·replace c20:=Bool.eq_false_iff.mpr c20;subst c20;have H1 : ((impl_IsIntervalOrder.f kj7 t1309 t1310).bind fun bt1323=>((impl_LowerLevels.f kj7 t1309 t1310).bind fun bt1325=>((impl_EndsOf.f kj7 t1309 t1310).bind fun bt1329=>((impl_MagnitudeOf.f kj7 t1309 t1310).bind fun bt1333=>((impl_SetsAlong.f kj7 t1309 t1310).bind fun bt1335=>((impl_IsOrder.f kj7 t1309 t1310).bind fun t1339=>(if (bt1323.2 != t1339) = true then (laws_FnFourRefuse.j1 kj7 t1314 t1317 true t1309 t1310) else (if bt1323.2 = true then (if (t1317 != (!bt1323.1)) = true then (laws_FnFourRefuse.j1 kj7 t1314 t1317 true t1309 t1310) else (if (bt1325.2 != bt1323.1) = true then (laws_FnFourRefuse.j1 kj7 t1314 t1317 true t1309 t1310) else (if (bt1329.2 != bt1323.1) = true then (laws_FnFourRefuse.j1 kj7 t1314 t1317 true t1309 t1310) else (if (bt1333.2 != bt1323.1) = true then (laws_FnFourRefuse.j1 kj7 t1314 t1317 true t1309 t1310) else (laws_FnFourRefuse.j1 kj7 t1314 t1317 (bt1335.2 != bt1323.1) t1309 t1310))))) else (if (t1317 != false) = true then (laws_FnFourRefuse.j1 kj7 t1314 t1317 true t1309 t1310) else (if (bt1325.2 != bt1323.1) = true then (laws_FnFourRefuse.j1 kj7 t1314 t1317 true t1309 t1310) else (if (bt1329.2 != bt1323.1) = true then (laws_FnFourRefuse.j1 kj7 t1314 t1317 true t1309 t1310) else (if (bt1333.2 != bt1323.1) = true then (laws_FnFourRefuse.j1 kj7 t1314 t1317 true t1309 t1310) else (laws_FnFourRefuse.j1 kj7 t1314 t1317 (bt1335.2 != bt1323.1) t1309 t1310))))))))))))) = some r:=by rw [if_neg (show ¬ (false = true) by decide)] at H;exact H
     clear H;have H:=H1;clear H1;replace H:=Option.bind_eq_some_iff.mp H;obtain ⟨⟨t1323,t1324⟩,A210,H⟩:=H;replace H : ((impl_LowerLevels.f kj7 t1309 t1310).bind fun bt1325=>((impl_EndsOf.f kj7 t1309 t1310).bind fun bt1329=>((impl_MagnitudeOf.f kj7 t1309 t1310).bind fun bt1333=>((impl_SetsAlong.f kj7 t1309 t1310).bind fun bt1335=>((impl_IsOrder.f kj7 t1309 t1310).bind fun t1339=>(if (t1324 != t1339) = true then (laws_FnFourRefuse.j1 kj7 t1314 t1317 true t1309 t1310) else (if t1324 = true then (if (t1317 != (!t1323)) = true then (laws_FnFourRefuse.j1 kj7 t1314 t1317 true t1309 t1310) else (if (bt1325.2 != t1323) = true then (laws_FnFourRefuse.j1 kj7 t1314 t1317 true t1309 t1310) else (if (bt1329.2 != t1323) = true then (laws_FnFourRefuse.j1 kj7 t1314 t1317 true t1309 t1310) else (if (bt1333.2 != t1323) = true then (laws_FnFourRefuse.j1 kj7 t1314 t1317 true t1309 t1310) else (laws_FnFourRefuse.j1 kj7 t1314 t1317 (bt1335.2 != t1323) t1309 t1310))))) else (if (t1317 != false) = true then (laws_FnFourRefuse.j1 kj7 t1314 t1317 true t1309 t1310) else (if (bt1325.2 != t1323) = true then (laws_FnFourRefuse.j1 kj7 t1314 t1317 true t1309 t1310) else (if (bt1329.2 != t1323) = true then (laws_FnFourRefuse.j1 kj7 t1314 t1317 true t1309 t1310) else (if (bt1333.2 != t1323) = true then (laws_FnFourRefuse.j1 kj7 t1314 t1317 true t1309 t1310) else (laws_FnFourRefuse.j1 kj7 t1314 t1317 (bt1335.2 != t1323) t1309 t1310)))))))))))) = some r:=H;have A21:=A_ A210;clear A210;replace H:=Option.bind_eq_some_iff.mp H;obtain ⟨⟨t1325,t1328⟩,A220,H⟩:=H;replace H : ((impl_EndsOf.f kj7 t1309 t1310).bind fun bt1329=>((impl_MagnitudeOf.f kj7 t1309 t1310).bind fun bt1333=>((impl_SetsAlong.f kj7 t1309 t1310).bind fun bt1335=>((impl_IsOrder.f kj7 t1309 t1310).bind fun t1339=>(if (t1324 != t1339) = true then (laws_FnFourRefuse.j1 kj7 t1314 t1317 true t1309 t1310) else (if t1324 = true then (if (t1317 != (!t1323)) = true then (laws_FnFourRefuse.j1 kj7 t1314 t1317 true t1309 t1310) else (if (t1328 != t1323) = true then (laws_FnFourRefuse.j1 kj7 t1314 t1317 true t1309 t1310) else (if (bt1329.2 != t1323) = true then (laws_FnFourRefuse.j1 kj7 t1314 t1317 true t1309 t1310) else (if (bt1333.2 != t1323) = true then (laws_FnFourRefuse.j1 kj7 t1314 t1317 true t1309 t1310) else (laws_FnFourRefuse.j1 kj7 t1314 t1317 (bt1335.2 != t1323) t1309 t1310))))) else (if (t1317 != false) = true then (laws_FnFourRefuse.j1 kj7 t1314 t1317 true t1309 t1310) else (if (t1328 != t1323) = true then (laws_FnFourRefuse.j1 kj7 t1314 t1317 true t1309 t1310) else (if (bt1329.2 != t1323) = true then (laws_FnFourRefuse.j1 kj7 t1314 t1317 true t1309 t1310) else (if (bt1333.2 != t1323) = true then (laws_FnFourRefuse.j1 kj7 t1314 t1317 true t1309 t1310) else (laws_FnFourRefuse.j1 kj7 t1314 t1317 (bt1335.2 != t1323) t1309 t1310))))))))))) = some r:=H;have A22:=A_ A220;clear A220;replace H:=Option.bind_eq_some_iff.mp H;obtain ⟨⟨t1329,t1332⟩,A230,H⟩:=H;replace H : ((impl_MagnitudeOf.f kj7 t1309 t1310).bind fun bt1333=>((impl_SetsAlong.f kj7 t1309 t1310).bind fun bt1335=>((impl_IsOrder.f kj7 t1309 t1310).bind fun t1339=>(if (t1324 != t1339) = true then (laws_FnFourRefuse.j1 kj7 t1314 t1317 true t1309 t1310) else (if t1324 = true then (if (t1317 != (!t1323)) = true then (laws_FnFourRefuse.j1 kj7 t1314 t1317 true t1309 t1310) else (if (t1328 != t1323) = true then (laws_FnFourRefuse.j1 kj7 t1314 t1317 true t1309 t1310) else (if (t1332 != t1323) = true then (laws_FnFourRefuse.j1 kj7 t1314 t1317 true t1309 t1310) else (if (bt1333.2 != t1323) = true then (laws_FnFourRefuse.j1 kj7 t1314 t1317 true t1309 t1310) else (laws_FnFourRefuse.j1 kj7 t1314 t1317 (bt1335.2 != t1323) t1309 t1310))))) else (if (t1317 != false) = true then (laws_FnFourRefuse.j1 kj7 t1314 t1317 true t1309 t1310) else (if (t1328 != t1323) = true then (laws_FnFourRefuse.j1 kj7 t1314 t1317 true t1309 t1310) else (if (t1332 != t1323) = true then (laws_FnFourRefuse.j1 kj7 t1314 t1317 true t1309 t1310) else (if (bt1333.2 != t1323) = true then (laws_FnFourRefuse.j1 kj7 t1314 t1317 true t1309 t1310) else (laws_FnFourRefuse.j1 kj7 t1314 t1317 (bt1335.2 != t1323) t1309 t1310)))))))))) = some r:=H;have A23:=A_ A230;clear A230;replace H:=Option.bind_eq_some_iff.mp H;obtain ⟨⟨t1333,t1334⟩,A240,H⟩:=H;replace H : ((impl_SetsAlong.f kj7 t1309 t1310).bind fun bt1335=>((impl_IsOrder.f kj7 t1309 t1310).bind fun t1339=>(if (t1324 != t1339) = true then (laws_FnFourRefuse.j1 kj7 t1314 t1317 true t1309 t1310) else (if t1324 = true then (if (t1317 != (!t1323)) = true then (laws_FnFourRefuse.j1 kj7 t1314 t1317 true t1309 t1310) else (if (t1328 != t1323) = true then (laws_FnFourRefuse.j1 kj7 t1314 t1317 true t1309 t1310) else (if (t1332 != t1323) = true then (laws_FnFourRefuse.j1 kj7 t1314 t1317 true t1309 t1310) else (if (t1334 != t1323) = true then (laws_FnFourRefuse.j1 kj7 t1314 t1317 true t1309 t1310) else (laws_FnFourRefuse.j1 kj7 t1314 t1317 (bt1335.2 != t1323) t1309 t1310))))) else (if (t1317 != false) = true then (laws_FnFourRefuse.j1 kj7 t1314 t1317 true t1309 t1310) else (if (t1328 != t1323) = true then (laws_FnFourRefuse.j1 kj7 t1314 t1317 true t1309 t1310) else (if (t1332 != t1323) = true then (laws_FnFourRefuse.j1 kj7 t1314 t1317 true t1309 t1310) else (if (t1334 != t1323) = true then (laws_FnFourRefuse.j1 kj7 t1314 t1317 true t1309 t1310) else (laws_FnFourRefuse.j1 kj7 t1314 t1317 (bt1335.2 != t1323) t1309 t1310))))))))) = some r:=H;have A24:=A_ A240;clear A240;replace H:=Option.bind_eq_some_iff.mp H;obtain ⟨⟨t1335,t1338⟩,A250,H⟩:=H;replace H : ((impl_IsOrder.f kj7 t1309 t1310).bind fun t1339=>(if (t1324 != t1339) = true then (laws_FnFourRefuse.j1 kj7 t1314 t1317 true t1309 t1310) else (if t1324 = true then (if (t1317 != (!t1323)) = true then (laws_FnFourRefuse.j1 kj7 t1314 t1317 true t1309 t1310) else (if (t1328 != t1323) = true then (laws_FnFourRefuse.j1 kj7 t1314 t1317 true t1309 t1310) else (if (t1332 != t1323) = true then (laws_FnFourRefuse.j1 kj7 t1314 t1317 true t1309 t1310) else (if (t1334 != t1323) = true then (laws_FnFourRefuse.j1 kj7 t1314 t1317 true t1309 t1310) else (laws_FnFourRefuse.j1 kj7 t1314 t1317 (t1338 != t1323) t1309 t1310))))) else (if (t1317 != false) = true then (laws_FnFourRefuse.j1 kj7 t1314 t1317 true t1309 t1310) else (if (t1328 != t1323) = true then (laws_FnFourRefuse.j1 kj7 t1314 t1317 true t1309 t1310) else (if (t1332 != t1323) = true then (laws_FnFourRefuse.j1 kj7 t1314 t1317 true t1309 t1310) else (if (t1334 != t1323) = true then (laws_FnFourRefuse.j1 kj7 t1314 t1317 true t1309 t1310) else (laws_FnFourRefuse.j1 kj7 t1314 t1317 (t1338 != t1323) t1309 t1310)))))))) = some r:=H;have A25:=A_ A250;clear A250;have HC26:=A_ H;clear H;have hcz27_0 : wc.cell? ⟨gb1313,0,none⟩ = some (.int .i64 t1309):=blk_cell BK1313.out 0;have hcz27_1 : wc.cell? ⟨gb1313,1,none⟩ = some (.slice Ao12 t1310.length co12):=blk_cell BK1313.out 1;have hfz27_0:=blk_frozen BK1313.out 0;have hfz27_1:=blk_frozen BK1313.out 1;go_upto_region 13 with (first|(go_at_call 53;(with_reducible refine (impl_IsIntervalOrder.calls kj7 t1309 _ _ t1310 t1323 t1324 _ ?side1 ?side2 ?side3 A21.out).mono ?_);(case side1=>exact cl_ (Kd.R_reads' HO_1314001.out).2.2);(case side2=>exact (Kd.R_reads' HO_1314001.out).2.1);(case side3=>first|exact HT.out|exact HT.out.below bb_|(repeat (first|exact HT.out|apply TabOK.drewN|apply TabOK.drew|apply TabOK.alloc)));rintro e w28 ⟨rfl,hb⟩;replace HO_6:=rb_ HO_6 hb;replace HO_1314001:=rb_ HO_1314001 hb;replace BK1313:=bz BK1313 hb;replace HB:=A_ (below_step bb_ hb);(try clear hb);(try clear hb2);(try clear hk);(try clear hi);have hcz29_0 : w28.cell? ⟨gb1313,0,none⟩ = some (.int .i64 t1309):=blk_cell BK1313.out 0;have hcz29_1 : w28.cell? ⟨gb1313,1,none⟩ = some (.slice Ao12 t1310.length co12):=blk_cell BK1313.out 1;have hfz29_0:=blk_frozen BK1313.out 0;have hfz29_1:=blk_frozen BK1313.out 1)|(go_at_call 54;(with_reducible refine (impl_LowerLevels.calls kj7 t1309 _ _ t1310 t1325 t1328 _ ?side1 ?side2 ?side3 A22.out).mono ?_);(case side1=>exact cl_ (Kd.R_reads' HO_1314001.out).2.2);(case side2=>exact (Kd.R_reads' HO_1314001.out).2.1);(case side3=>first|exact HT.out|exact HT.out.below bb_|(repeat (first|exact HT.out|apply TabOK.drewN|apply TabOK.drew|apply TabOK.alloc)));rintro e w30 ⟨v1326,rfl,ho0,hb⟩;have HO1327:=A_ (Kd.R_lower (Kd.R_new' (Kd.R_new' ho0 (Kd.R_lt (rl_ HO_6))) (Kd.R_lt (rl_ HO_1314001))) (below_size bb_));replace HO_6:=A_ (Kd.R_elder' (rl_ HO_6) (Kd.R_base ho0) hb);replace HO_1314001:=A_ (Kd.R_elder' (rl_ HO_1314001) (Kd.R_base ho0) hb);replace BK1313:=bz BK1313 hb;replace HB:=A_ (below_step bb_ hb);(try clear hb);(try clear hb2);(try clear hk);(try clear hi);(try clear ho0);have hcz31_0 : w30.cell? ⟨gb1313,0,none⟩ = some (.int .i64 t1309):=blk_cell BK1313.out 0;have hcz31_1 : w30.cell? ⟨gb1313,1,none⟩ = some (.slice Ao12 t1310.length co12):=blk_cell BK1313.out 1;have hfz31_0:=blk_frozen BK1313.out 0;have hfz31_1:=blk_frozen BK1313.out 1)|(go_at_call 55;(with_reducible refine (impl_EndsOf.calls kj7 t1309 _ _ t1310 t1329 t1332 _ ?side1 ?side2 ?side3 A23.out).mono ?_);(case side1=>exact cl_ (Kd.R_reads' HO_1314001.out).2.2);(case side2=>exact (Kd.R_reads' HO_1314001.out).2.1);(case side3=>first|exact HT.out|exact HT.out.below bb_|(repeat (first|exact HT.out|apply TabOK.drewN|apply TabOK.drew|apply TabOK.alloc)));rintro e w32 ⟨v1330,rfl,ho0,hb⟩;replace HO_6:=rb_ HO_6 hb;replace HO_1314001:=rb_ HO_1314001 hb;replace HO1327:=rb_ HO1327 hb;have HO1331:=A_ (Kd.R_lower ho0 (below_size bb_));replace BK1313:=bz BK1313 hb;replace HB:=A_ (below_step bb_ hb);(try clear hb);(try clear hb2);(try clear hk);(try clear hi);(try clear ho0);have hcz33_0 : w32.cell? ⟨gb1313,0,none⟩ = some (.int .i64 t1309):=blk_cell BK1313.out 0;have hcz33_1 : w32.cell? ⟨gb1313,1,none⟩ = some (.slice Ao12 t1310.length co12):=blk_cell BK1313.out 1;have hfz33_0:=blk_frozen BK1313.out 0;have hfz33_1:=blk_frozen BK1313.out 1)|(go_at_call 56;(with_reducible refine (impl_MagnitudeOf.calls kj7 t1309 _ _ t1310 t1333 t1334 _ ?side1 ?side2 ?side3 A24.out).mono ?_);(case side1=>exact cl_ (Kd.R_reads' HO_1314001.out).2.2);(case side2=>exact (Kd.R_reads' HO_1314001.out).2.1);(case side3=>first|exact HT.out|exact HT.out.below bb_|(repeat (first|exact HT.out|apply TabOK.drewN|apply TabOK.drew|apply TabOK.alloc)));rintro e w34 ⟨rfl,hb⟩;replace HO_6:=rb_ HO_6 hb;replace HO_1314001:=rb_ HO_1314001 hb;replace HO1327:=rb_ HO1327 hb;replace HO1331:=rb_ HO1331 hb;replace BK1313:=bz BK1313 hb;replace HB:=A_ (below_step bb_ hb);(try clear hb);(try clear hb2);(try clear hk);(try clear hi);have hcz35_0 : w34.cell? ⟨gb1313,0,none⟩ = some (.int .i64 t1309):=blk_cell BK1313.out 0;have hcz35_1 : w34.cell? ⟨gb1313,1,none⟩ = some (.slice Ao12 t1310.length co12):=blk_cell BK1313.out 1;have hfz35_0:=blk_frozen BK1313.out 0;have hfz35_1:=blk_frozen BK1313.out 1)|(go_at_call 57;(with_reducible refine (impl_SetsAlong.calls kj7 t1309 _ _ t1310 t1335 t1338 _ ?side1 ?side2 ?side3 A25.out).mono ?_);(case side1=>exact cl_ (Kd.R_reads' HO_1314001.out).2.2);(case side2=>exact (Kd.R_reads' HO_1314001.out).2.1);(case side3=>first|exact HT.out|exact HT.out.below bb_|(repeat (first|exact HT.out|apply TabOK.drewN|apply TabOK.drew|apply TabOK.alloc)));rintro e w36 ⟨v1336,rfl,ho0,hb⟩;replace HO1331:=rb_ HO1331 hb;have HO1337:=A_ (Kd.R_lower (Kd.R_new' (Kd.R_new' (Kd.R_new' ho0 (Kd.R_lt (rl_ HO_6))) (Kd.R_lt (rl_ HO_1314001))) (Kd.R_lt (rl_ HO1327))) (below_size bb_));replace HO_6:=A_ (Kd.R_elder' (rl_ HO_6) (Kd.R_base ho0) hb);replace HO_1314001:=A_ (Kd.R_elder' (rl_ HO_1314001) (Kd.R_base ho0) hb);replace HO1327:=A_ (Kd.R_elder' (rl_ HO1327) (Kd.R_base ho0) hb);replace BK1313:=bz BK1313 hb;replace HB:=A_ (below_step bb_ hb);(try clear hb);(try clear hb2);(try clear hk);(try clear hi);(try clear ho0)))
     repeat (go_quiet (first|(go_at_call 53;(with_reducible refine (impl_IsIntervalOrder.calls kj7 t1309 _ _ t1310 t1323 t1324 _ ?side1 ?side2 ?side3 A21.out).mono ?_);(case side1=>exact cl_ (Kd.R_reads' HO_1314001.out).2.2);(case side2=>exact (Kd.R_reads' HO_1314001.out).2.1);(case side3=>first|exact HT.out|exact HT.out.below bb_|(repeat (first|exact HT.out|apply TabOK.drewN|apply TabOK.drew|apply TabOK.alloc)));rintro e w28 ⟨rfl,hb⟩;replace HO_6:=rb_ HO_6 hb;replace HO_1314001:=rb_ HO_1314001 hb;replace BK1313:=bz BK1313 hb;replace HB:=A_ (below_step bb_ hb);(try clear hb);(try clear hb2);(try clear hk);(try clear hi);have hcz29_0 : w28.cell? ⟨gb1313,0,none⟩ = some (.int .i64 t1309):=blk_cell BK1313.out 0;have hcz29_1 : w28.cell? ⟨gb1313,1,none⟩ = some (.slice Ao12 t1310.length co12):=blk_cell BK1313.out 1;have hfz29_0:=blk_frozen BK1313.out 0;have hfz29_1:=blk_frozen BK1313.out 1)|(go_at_call 54;(with_reducible refine (impl_LowerLevels.calls kj7 t1309 _ _ t1310 t1325 t1328 _ ?side1 ?side2 ?side3 A22.out).mono ?_);(case side1=>exact cl_ (Kd.R_reads' HO_1314001.out).2.2);(case side2=>exact (Kd.R_reads' HO_1314001.out).2.1);(case side3=>first|exact HT.out|exact HT.out.below bb_|(repeat (first|exact HT.out|apply TabOK.drewN|apply TabOK.drew|apply TabOK.alloc)));rintro e w30 ⟨v1326,rfl,ho0,hb⟩;have HO1327:=A_ (Kd.R_lower (Kd.R_new' (Kd.R_new' ho0 (Kd.R_lt (rl_ HO_6))) (Kd.R_lt (rl_ HO_1314001))) (below_size bb_));replace HO_6:=A_ (Kd.R_elder' (rl_ HO_6) (Kd.R_base ho0) hb);replace HO_1314001:=A_ (Kd.R_elder' (rl_ HO_1314001) (Kd.R_base ho0) hb);replace BK1313:=bz BK1313 hb;replace HB:=A_ (below_step bb_ hb);(try clear hb);(try clear hb2);(try clear hk);(try clear hi);(try clear ho0);have hcz31_0 : w30.cell? ⟨gb1313,0,none⟩ = some (.int .i64 t1309):=blk_cell BK1313.out 0;have hcz31_1 : w30.cell? ⟨gb1313,1,none⟩ = some (.slice Ao12 t1310.length co12):=blk_cell BK1313.out 1;have hfz31_0:=blk_frozen BK1313.out 0;have hfz31_1:=blk_frozen BK1313.out 1)|(go_at_call 55;(with_reducible refine (impl_EndsOf.calls kj7 t1309 _ _ t1310 t1329 t1332 _ ?side1 ?side2 ?side3 A23.out).mono ?_);(case side1=>exact cl_ (Kd.R_reads' HO_1314001.out).2.2);(case side2=>exact (Kd.R_reads' HO_1314001.out).2.1);(case side3=>first|exact HT.out|exact HT.out.below bb_|(repeat (first|exact HT.out|apply TabOK.drewN|apply TabOK.drew|apply TabOK.alloc)));rintro e w32 ⟨v1330,rfl,ho0,hb⟩;replace HO_6:=rb_ HO_6 hb;replace HO_1314001:=rb_ HO_1314001 hb;replace HO1327:=rb_ HO1327 hb;have HO1331:=A_ (Kd.R_lower ho0 (below_size bb_));replace BK1313:=bz BK1313 hb;replace HB:=A_ (below_step bb_ hb);(try clear hb);(try clear hb2);(try clear hk);(try clear hi);(try clear ho0);have hcz33_0 : w32.cell? ⟨gb1313,0,none⟩ = some (.int .i64 t1309):=blk_cell BK1313.out 0;have hcz33_1 : w32.cell? ⟨gb1313,1,none⟩ = some (.slice Ao12 t1310.length co12):=blk_cell BK1313.out 1;have hfz33_0:=blk_frozen BK1313.out 0;have hfz33_1:=blk_frozen BK1313.out 1)|(go_at_call 56;(with_reducible refine (impl_MagnitudeOf.calls kj7 t1309 _ _ t1310 t1333 t1334 _ ?side1 ?side2 ?side3 A24.out).mono ?_);(case side1=>exact cl_ (Kd.R_reads' HO_1314001.out).2.2);(case side2=>exact (Kd.R_reads' HO_1314001.out).2.1);(case side3=>first|exact HT.out|exact HT.out.below bb_|(repeat (first|exact HT.out|apply TabOK.drewN|apply TabOK.drew|apply TabOK.alloc)));rintro e w34 ⟨rfl,hb⟩;replace HO_6:=rb_ HO_6 hb;replace HO_1314001:=rb_ HO_1314001 hb;replace HO1327:=rb_ HO1327 hb;replace HO1331:=rb_ HO1331 hb;replace BK1313:=bz BK1313 hb;replace HB:=A_ (below_step bb_ hb);(try clear hb);(try clear hb2);(try clear hk);(try clear hi);have hcz35_0 : w34.cell? ⟨gb1313,0,none⟩ = some (.int .i64 t1309):=blk_cell BK1313.out 0;have hcz35_1 : w34.cell? ⟨gb1313,1,none⟩ = some (.slice Ao12 t1310.length co12):=blk_cell BK1313.out 1;have hfz35_0:=blk_frozen BK1313.out 0;have hfz35_1:=blk_frozen BK1313.out 1)|(go_at_call 57;(with_reducible refine (impl_SetsAlong.calls kj7 t1309 _ _ t1310 t1335 t1338 _ ?side1 ?side2 ?side3 A25.out).mono ?_);(case side1=>exact cl_ (Kd.R_reads' HO_1314001.out).2.2);(case side2=>exact (Kd.R_reads' HO_1314001.out).2.1);(case side3=>first|exact HT.out|exact HT.out.below bb_|(repeat (first|exact HT.out|apply TabOK.drewN|apply TabOK.drew|apply TabOK.alloc)));rintro e w36 ⟨v1336,rfl,ho0,hb⟩;replace HO1331:=rb_ HO1331 hb;have HO1337:=A_ (Kd.R_lower (Kd.R_new' (Kd.R_new' (Kd.R_new' ho0 (Kd.R_lt (rl_ HO_6))) (Kd.R_lt (rl_ HO_1314001))) (Kd.R_lt (rl_ HO1327))) (below_size bb_));replace HO_6:=A_ (Kd.R_elder' (rl_ HO_6) (Kd.R_base ho0) hb);replace HO_1314001:=A_ (Kd.R_elder' (rl_ HO_1314001) (Kd.R_base ho0) hb);replace HO1327:=A_ (Kd.R_elder' (rl_ HO1327) (Kd.R_base ho0) hb);replace BK1313:=bz BK1313 hb;replace HB:=A_ (below_step bb_ hb);(try clear hb);(try clear hb2);(try clear hk);(try clear hi);(try clear ho0)));go_upto_region 13 with (first|(go_at_call 53;(with_reducible refine (impl_IsIntervalOrder.calls kj7 t1309 _ _ t1310 t1323 t1324 _ ?side1 ?side2 ?side3 A21.out).mono ?_);(case side1=>exact cl_ (Kd.R_reads' HO_1314001.out).2.2);(case side2=>exact (Kd.R_reads' HO_1314001.out).2.1);(case side3=>first|exact HT.out|exact HT.out.below bb_|(repeat (first|exact HT.out|apply TabOK.drewN|apply TabOK.drew|apply TabOK.alloc)));rintro e w28 ⟨rfl,hb⟩;replace HO_6:=rb_ HO_6 hb;replace HO_1314001:=rb_ HO_1314001 hb;replace BK1313:=bz BK1313 hb;replace HB:=A_ (below_step bb_ hb);(try clear hb);(try clear hb2);(try clear hk);(try clear hi);have hcz29_0 : w28.cell? ⟨gb1313,0,none⟩ = some (.int .i64 t1309):=blk_cell BK1313.out 0;have hcz29_1 : w28.cell? ⟨gb1313,1,none⟩ = some (.slice Ao12 t1310.length co12):=blk_cell BK1313.out 1;have hfz29_0:=blk_frozen BK1313.out 0;have hfz29_1:=blk_frozen BK1313.out 1)|(go_at_call 54;(with_reducible refine (impl_LowerLevels.calls kj7 t1309 _ _ t1310 t1325 t1328 _ ?side1 ?side2 ?side3 A22.out).mono ?_);(case side1=>exact cl_ (Kd.R_reads' HO_1314001.out).2.2);(case side2=>exact (Kd.R_reads' HO_1314001.out).2.1);(case side3=>first|exact HT.out|exact HT.out.below bb_|(repeat (first|exact HT.out|apply TabOK.drewN|apply TabOK.drew|apply TabOK.alloc)));rintro e w30 ⟨v1326,rfl,ho0,hb⟩;have HO1327:=A_ (Kd.R_lower (Kd.R_new' (Kd.R_new' ho0 (Kd.R_lt (rl_ HO_6))) (Kd.R_lt (rl_ HO_1314001))) (below_size bb_));replace HO_6:=A_ (Kd.R_elder' (rl_ HO_6) (Kd.R_base ho0) hb);replace HO_1314001:=A_ (Kd.R_elder' (rl_ HO_1314001) (Kd.R_base ho0) hb);replace BK1313:=bz BK1313 hb;replace HB:=A_ (below_step bb_ hb);(try clear hb);(try clear hb2);(try clear hk);(try clear hi);(try clear ho0);have hcz31_0 : w30.cell? ⟨gb1313,0,none⟩ = some (.int .i64 t1309):=blk_cell BK1313.out 0;have hcz31_1 : w30.cell? ⟨gb1313,1,none⟩ = some (.slice Ao12 t1310.length co12):=blk_cell BK1313.out 1;have hfz31_0:=blk_frozen BK1313.out 0;have hfz31_1:=blk_frozen BK1313.out 1)|(go_at_call 55;(with_reducible refine (impl_EndsOf.calls kj7 t1309 _ _ t1310 t1329 t1332 _ ?side1 ?side2 ?side3 A23.out).mono ?_);(case side1=>exact cl_ (Kd.R_reads' HO_1314001.out).2.2);(case side2=>exact (Kd.R_reads' HO_1314001.out).2.1);(case side3=>first|exact HT.out|exact HT.out.below bb_|(repeat (first|exact HT.out|apply TabOK.drewN|apply TabOK.drew|apply TabOK.alloc)));rintro e w32 ⟨v1330,rfl,ho0,hb⟩;replace HO_6:=rb_ HO_6 hb;replace HO_1314001:=rb_ HO_1314001 hb;replace HO1327:=rb_ HO1327 hb;have HO1331:=A_ (Kd.R_lower ho0 (below_size bb_));replace BK1313:=bz BK1313 hb;replace HB:=A_ (below_step bb_ hb);(try clear hb);(try clear hb2);(try clear hk);(try clear hi);(try clear ho0);have hcz33_0 : w32.cell? ⟨gb1313,0,none⟩ = some (.int .i64 t1309):=blk_cell BK1313.out 0;have hcz33_1 : w32.cell? ⟨gb1313,1,none⟩ = some (.slice Ao12 t1310.length co12):=blk_cell BK1313.out 1;have hfz33_0:=blk_frozen BK1313.out 0;have hfz33_1:=blk_frozen BK1313.out 1)|(go_at_call 56;(with_reducible refine (impl_MagnitudeOf.calls kj7 t1309 _ _ t1310 t1333 t1334 _ ?side1 ?side2 ?side3 A24.out).mono ?_);(case side1=>exact cl_ (Kd.R_reads' HO_1314001.out).2.2);(case side2=>exact (Kd.R_reads' HO_1314001.out).2.1);(case side3=>first|exact HT.out|exact HT.out.below bb_|(repeat (first|exact HT.out|apply TabOK.drewN|apply TabOK.drew|apply TabOK.alloc)));rintro e w34 ⟨rfl,hb⟩;replace HO_6:=rb_ HO_6 hb;replace HO_1314001:=rb_ HO_1314001 hb;replace HO1327:=rb_ HO1327 hb;replace HO1331:=rb_ HO1331 hb;replace BK1313:=bz BK1313 hb;replace HB:=A_ (below_step bb_ hb);(try clear hb);(try clear hb2);(try clear hk);(try clear hi);have hcz35_0 : w34.cell? ⟨gb1313,0,none⟩ = some (.int .i64 t1309):=blk_cell BK1313.out 0;have hcz35_1 : w34.cell? ⟨gb1313,1,none⟩ = some (.slice Ao12 t1310.length co12):=blk_cell BK1313.out 1;have hfz35_0:=blk_frozen BK1313.out 0;have hfz35_1:=blk_frozen BK1313.out 1)|(go_at_call 57;(with_reducible refine (impl_SetsAlong.calls kj7 t1309 _ _ t1310 t1335 t1338 _ ?side1 ?side2 ?side3 A25.out).mono ?_);(case side1=>exact cl_ (Kd.R_reads' HO_1314001.out).2.2);(case side2=>exact (Kd.R_reads' HO_1314001.out).2.1);(case side3=>first|exact HT.out|exact HT.out.below bb_|(repeat (first|exact HT.out|apply TabOK.drewN|apply TabOK.drew|apply TabOK.alloc)));rintro e w36 ⟨v1336,rfl,ho0,hb⟩;replace HO1331:=rb_ HO1331 hb;have HO1337:=A_ (Kd.R_lower (Kd.R_new' (Kd.R_new' (Kd.R_new' ho0 (Kd.R_lt (rl_ HO_6))) (Kd.R_lt (rl_ HO_1314001))) (Kd.R_lt (rl_ HO1327))) (below_size bb_));replace HO_6:=A_ (Kd.R_elder' (rl_ HO_6) (Kd.R_base ho0) hb);replace HO_1314001:=A_ (Kd.R_elder' (rl_ HO_1314001) (Kd.R_base ho0) hb);replace HO1327:=A_ (Kd.R_elder' (rl_ HO1327) (Kd.R_base ho0) hb);replace BK1313:=bz BK1313 hb;replace HB:=A_ (below_step bb_ hb);(try clear hb);(try clear hb2);(try clear hk);(try clear hi);(try clear ho0))))
     (try simp only [Act.put,L_,M_,N_]);go_cut [108] (fun v108 wc=>∃ (kq : Nat) (x108_25 : Bool),v108 = .bool x108_25 ∧ Aside0 (laws_FnFourRefuse.j1 kq t1314 t1317 x108_25 t1309 t1310 = some r) ∧ Aside0 (kq ≤ kj7) ∧ Aside0 (Kd.R (Kd.int .i64) 3 wc w.heap.size (fun k_=>some k_ ≠ ((.slice Ao12 t1310.length co12) : Value).ownBlock) v1315 t1314) ∧ Aside0 (Kd.R (Kd.int .i64) 3 wc w.heap.size (fun k_=>some k_ ≠ (v1315 : Value).ownBlock) (.slice Ao12 t1310.length co12) t1310) ∧ Aside0 (wc.heap[gb1313]? = some (.cells #[.int .i64 t1309,(.slice Ao12 t1310.length co12)] 26 (0,0))) ∧ Aside0 (Below w.heap.size w wc))
     case first =>
      have H:=HC26.out;clear HC26;replace H:=Option.bind_eq_some_iff.mp H;obtain ⟨t1339,A370,H⟩:=H;replace H : (if (t1324 != t1339) = true then (laws_FnFourRefuse.j1 kj7 t1314 t1317 true t1309 t1310) else (if t1324 = true then (if (t1317 != (!t1323)) = true then (laws_FnFourRefuse.j1 kj7 t1314 t1317 true t1309 t1310) else (if (t1328 != t1323) = true then (laws_FnFourRefuse.j1 kj7 t1314 t1317 true t1309 t1310) else (if (t1332 != t1323) = true then (laws_FnFourRefuse.j1 kj7 t1314 t1317 true t1309 t1310) else (if (t1334 != t1323) = true then (laws_FnFourRefuse.j1 kj7 t1314 t1317 true t1309 t1310) else (laws_FnFourRefuse.j1 kj7 t1314 t1317 (t1338 != t1323) t1309 t1310))))) else (if (t1317 != false) = true then (laws_FnFourRefuse.j1 kj7 t1314 t1317 true t1309 t1310) else (if (t1328 != t1323) = true then (laws_FnFourRefuse.j1 kj7 t1314 t1317 true t1309 t1310) else (if (t1332 != t1323) = true then (laws_FnFourRefuse.j1 kj7 t1314 t1317 true t1309 t1310) else (if (t1334 != t1323) = true then (laws_FnFourRefuse.j1 kj7 t1314 t1317 true t1309 t1310) else (laws_FnFourRefuse.j1 kj7 t1314 t1317 (t1338 != t1323) t1309 t1310))))))) = some r:=H;have A37:=A_ A370;clear A370;by_cases c38 : (t1324 != t1339) = true
      ·rw [if_pos c38] at H;have c38b0 : (t1324 != t1339) = true:=c38;(try (have c38b1 : decide (t1324 = t1339) = false:=by simpa using c38));(try (have c38b2 : (t1324 == t1339) = false:=by simpa using c38));(try (have c38b3 : ¬ (t1324 = t1339):=by simpa using c38));clear c38;(first|rw [c38b0]|(simp only [i64_w,i32_w];rw [c38b0])|skip)
       have H':=A_ H;clear H;have hcz39_0 : w36.cell? ⟨gb1313,0,none⟩ = some (.int .i64 t1309):=blk_cell BK1313.out 0;have hcz39_1 : w36.cell? ⟨gb1313,1,none⟩ = some (.slice Ao12 t1310.length co12):=blk_cell BK1313.out 1;have hfz39_0:=blk_frozen BK1313.out 0;have hfz39_1:=blk_frozen BK1313.out 1;go_wp2_with (first|(go_at_call 16;(with_reducible refine (impl_IsOrder.calls kj7 t1309 _ _ t1310 t1339 _ ?side1 ?side2 ?side3 A37.out).mono ?_);(case side1=>exact cl_ (Kd.R_reads' HO_1314001.out).2.2);(case side2=>exact (Kd.R_reads' HO_1314001.out).2.1);(case side3=>first|exact HT.out|exact HT.out.below bb_|(repeat (first|exact HT.out|apply TabOK.drewN|apply TabOK.drew|apply TabOK.alloc)));rintro e w40 ⟨rfl,hb⟩;replace HO_6:=rb_ HO_6 hb;replace HO_1314001:=rb_ HO_1314001 hb;replace HO1327:=rb_ HO1327 hb;replace HO1331:=rb_ HO1331 hb;replace HO1337:=rb_ HO1337 hb;replace BK1313:=bz BK1313 hb;replace HB:=A_ (below_step bb_ hb);(try clear hb);(try clear hb2);(try clear hk);(try clear hi)))
       repeat (go_quiet (first|(go_at_call 16;(with_reducible refine (impl_IsOrder.calls kj7 t1309 _ _ t1310 t1339 _ ?side1 ?side2 ?side3 A37.out).mono ?_);(case side1=>exact cl_ (Kd.R_reads' HO_1314001.out).2.2);(case side2=>exact (Kd.R_reads' HO_1314001.out).2.1);(case side3=>first|exact HT.out|exact HT.out.below bb_|(repeat (first|exact HT.out|apply TabOK.drewN|apply TabOK.drew|apply TabOK.alloc)));rintro e w40 ⟨rfl,hb⟩;replace HO_6:=rb_ HO_6 hb;replace HO_1314001:=rb_ HO_1314001 hb;replace HO1327:=rb_ HO1327 hb;replace HO1331:=rb_ HO1331 hb;replace HO1337:=rb_ HO1337 hb;replace BK1313:=bz BK1313 hb;replace HB:=A_ (below_step bb_ hb);(try clear hb);(try clear hb2);(try clear hk);(try clear hi)));try go_wp2_with (first|(go_at_call 16;(with_reducible refine (impl_IsOrder.calls kj7 t1309 _ _ t1310 t1339 _ ?side1 ?side2 ?side3 A37.out).mono ?_);(case side1=>exact cl_ (Kd.R_reads' HO_1314001.out).2.2);(case side2=>exact (Kd.R_reads' HO_1314001.out).2.1);(case side3=>first|exact HT.out|exact HT.out.below bb_|(repeat (first|exact HT.out|apply TabOK.drewN|apply TabOK.drew|apply TabOK.alloc)));rintro e w40 ⟨rfl,hb⟩;replace HO_6:=rb_ HO_6 hb;replace HO_1314001:=rb_ HO_1314001 hb;replace HO1327:=rb_ HO1327 hb;replace HO1331:=rb_ HO1331 hb;replace HO1337:=rb_ HO1337 hb;replace BK1313:=bz BK1313 hb;replace HB:=A_ (below_step bb_ hb);(try clear hb);(try clear hb2);(try clear hk);(try clear hi))))
       go_meet
       case rel=>exact ⟨_,(true),(by first|rfl|(simp;done)|(simp [*];done)),H',⟨by have:=HJ7.out;first|omega|exact Nat.le_refl _⟩,⟨by (with_reducible repeat (first|apply Kd.R_alloc|apply Kd.R_drewN|apply Kd.R_drew));exact Kd.R_mono HO_6.out (fun _ hk=>hk.1.1)⟩,⟨by (with_reducible repeat (first|apply Kd.R_alloc|apply Kd.R_drewN|apply Kd.R_drew));exact Kd.R_mono HO_1314001.out (fun _ hk=>hk.1.1)⟩,⟨bl_ BK1313⟩,⟨bb_⟩⟩
      ·rw [if_neg c38] at H;have c38b0 : (t1324 != t1339) = false:=by simpa using c38
       (try (have c38b1 : decide (t1324 = t1339) = true:=by simpa using c38));(try (have c38b2 : (t1324 == t1339) = true:=by simpa using c38));clear c38;(first|rw [c38b0]|(simp only [i64_w,i32_w];rw [c38b0])|skip)
       by_cases c41 : t1324 = true
       ·subst c41;have H1 : (if (t1317 != (!t1323)) = true then (laws_FnFourRefuse.j1 kj7 t1314 t1317 true t1309 t1310) else (if (t1328 != t1323) = true then (laws_FnFourRefuse.j1 kj7 t1314 t1317 true t1309 t1310) else (if (t1332 != t1323) = true then (laws_FnFourRefuse.j1 kj7 t1314 t1317 true t1309 t1310) else (if (t1334 != t1323) = true then (laws_FnFourRefuse.j1 kj7 t1314 t1317 true t1309 t1310) else (laws_FnFourRefuse.j1 kj7 t1314 t1317 (t1338 != t1323) t1309 t1310))))) = some r:=by rw [if_pos rfl] at H;exact H
        clear H;have H:=H1;clear H1;by_cases c42 : (t1317 != (!t1323)) = true
        ·rw [if_pos c42] at H;have c42b0 : (t1317 != (!t1323)) = true:=c42;(try (have c42b1 : decide (t1317 = (!t1323)) = false:=by simpa using c42));(try (have c42b2 : (t1317 == (!t1323)) = false:=by simpa using c42));(try (have c42b3 : ¬ (t1317 = (!t1323)):=by simpa using c42));clear c42;have H':=A_ H;clear H;have hcz43_0 : w36.cell? ⟨gb1313,0,none⟩ = some (.int .i64 t1309):=blk_cell BK1313.out 0;have hcz43_1 : w36.cell? ⟨gb1313,1,none⟩ = some (.slice Ao12 t1310.length co12):=blk_cell BK1313.out 1;have hfz43_0:=blk_frozen BK1313.out 0;have hfz43_1:=blk_frozen BK1313.out 1;go_wp2_with (first|(go_at_call 16;(with_reducible refine (impl_IsOrder.calls kj7 t1309 _ _ t1310 t1339 _ ?side1 ?side2 ?side3 A37.out).mono ?_);(case side1=>exact cl_ (Kd.R_reads' HO_1314001.out).2.2);(case side2=>exact (Kd.R_reads' HO_1314001.out).2.1);(case side3=>first|exact HT.out|exact HT.out.below bb_|(repeat (first|exact HT.out|apply TabOK.drewN|apply TabOK.drew|apply TabOK.alloc)));rintro e w44 ⟨rfl,hb⟩;replace HO_6:=rb_ HO_6 hb;replace HO_1314001:=rb_ HO_1314001 hb;replace HO1327:=rb_ HO1327 hb;replace HO1331:=rb_ HO1331 hb;replace HO1337:=rb_ HO1337 hb;replace BK1313:=bz BK1313 hb;replace HB:=A_ (below_step bb_ hb);(try clear hb);(try clear hb2);(try clear hk);(try clear hi)))
         repeat (go_quiet (first|(go_at_call 16;(with_reducible refine (impl_IsOrder.calls kj7 t1309 _ _ t1310 t1339 _ ?side1 ?side2 ?side3 A37.out).mono ?_);(case side1=>exact cl_ (Kd.R_reads' HO_1314001.out).2.2);(case side2=>exact (Kd.R_reads' HO_1314001.out).2.1);(case side3=>first|exact HT.out|exact HT.out.below bb_|(repeat (first|exact HT.out|apply TabOK.drewN|apply TabOK.drew|apply TabOK.alloc)));rintro e w44 ⟨rfl,hb⟩;replace HO_6:=rb_ HO_6 hb;replace HO_1314001:=rb_ HO_1314001 hb;replace HO1327:=rb_ HO1327 hb;replace HO1331:=rb_ HO1331 hb;replace HO1337:=rb_ HO1337 hb;replace BK1313:=bz BK1313 hb;replace HB:=A_ (below_step bb_ hb);(try clear hb);(try clear hb2);(try clear hk);(try clear hi)));try go_wp2_with (first|(go_at_call 16;(with_reducible refine (impl_IsOrder.calls kj7 t1309 _ _ t1310 t1339 _ ?side1 ?side2 ?side3 A37.out).mono ?_);(case side1=>exact cl_ (Kd.R_reads' HO_1314001.out).2.2);(case side2=>exact (Kd.R_reads' HO_1314001.out).2.1);(case side3=>first|exact HT.out|exact HT.out.below bb_|(repeat (first|exact HT.out|apply TabOK.drewN|apply TabOK.drew|apply TabOK.alloc)));rintro e w44 ⟨rfl,hb⟩;replace HO_6:=rb_ HO_6 hb;replace HO_1314001:=rb_ HO_1314001 hb;replace HO1327:=rb_ HO1327 hb;replace HO1331:=rb_ HO1331 hb;replace HO1337:=rb_ HO1337 hb;replace BK1313:=bz BK1313 hb;replace HB:=A_ (below_step bb_ hb);(try clear hb);(try clear hb2);(try clear hk);(try clear hi))))
         go_meet
         case rel=>exact ⟨_,(true),(by first|rfl|(simp;done)|(simp [*];done)),H',⟨by have:=HJ7.out;first|omega|exact Nat.le_refl _⟩,⟨by (with_reducible repeat (first|apply Kd.R_alloc|apply Kd.R_drewN|apply Kd.R_drew));exact Kd.R_mono HO_6.out (fun _ hk=>hk.1.1)⟩,⟨by (with_reducible repeat (first|apply Kd.R_alloc|apply Kd.R_drewN|apply Kd.R_drew));exact Kd.R_mono HO_1314001.out (fun _ hk=>hk.1.1)⟩,⟨bl_ BK1313⟩,⟨bb_⟩⟩
        ·rw [if_neg c42] at H;obtain rfl : t1317 = (!t1323):=by revert c42;cases t1317 <;> cases t1323 <;> simp
         clear c42;by_cases c45 : (t1328 != t1323) = true
         ·rw [if_pos c45] at H;have c45b0 : (t1328 != t1323) = true:=c45;(try (have c45b1 : decide (t1328 = t1323) = false:=by simpa using c45));(try (have c45b2 : (t1328 == t1323) = false:=by simpa using c45));(try (have c45b3 : ¬ (t1328 = t1323):=by simpa using c45));clear c45;have H':=A_ H;clear H;have hcz46_0 : w36.cell? ⟨gb1313,0,none⟩ = some (.int .i64 t1309):=blk_cell BK1313.out 0;have hcz46_1 : w36.cell? ⟨gb1313,1,none⟩ = some (.slice Ao12 t1310.length co12):=blk_cell BK1313.out 1;have hfz46_0:=blk_frozen BK1313.out 0;have hfz46_1:=blk_frozen BK1313.out 1;go_wp2_with (first|(go_at_call 16;(with_reducible refine (impl_IsOrder.calls kj7 t1309 _ _ t1310 t1339 _ ?side1 ?side2 ?side3 A37.out).mono ?_);(case side1=>exact cl_ (Kd.R_reads' HO_1314001.out).2.2);(case side2=>exact (Kd.R_reads' HO_1314001.out).2.1);(case side3=>first|exact HT.out|exact HT.out.below bb_|(repeat (first|exact HT.out|apply TabOK.drewN|apply TabOK.drew|apply TabOK.alloc)));rintro e w47 ⟨rfl,hb⟩;replace HO_6:=rb_ HO_6 hb;replace HO_1314001:=rb_ HO_1314001 hb;replace HO1327:=rb_ HO1327 hb;replace HO1331:=rb_ HO1331 hb;replace HO1337:=rb_ HO1337 hb;replace BK1313:=bz BK1313 hb;replace HB:=A_ (below_step bb_ hb);(try clear hb);(try clear hb2);(try clear hk);(try clear hi)))
          repeat (go_quiet (first|(go_at_call 16;(with_reducible refine (impl_IsOrder.calls kj7 t1309 _ _ t1310 t1339 _ ?side1 ?side2 ?side3 A37.out).mono ?_);(case side1=>exact cl_ (Kd.R_reads' HO_1314001.out).2.2);(case side2=>exact (Kd.R_reads' HO_1314001.out).2.1);(case side3=>first|exact HT.out|exact HT.out.below bb_|(repeat (first|exact HT.out|apply TabOK.drewN|apply TabOK.drew|apply TabOK.alloc)));rintro e w47 ⟨rfl,hb⟩;replace HO_6:=rb_ HO_6 hb;replace HO_1314001:=rb_ HO_1314001 hb;replace HO1327:=rb_ HO1327 hb;replace HO1331:=rb_ HO1331 hb;replace HO1337:=rb_ HO1337 hb;replace BK1313:=bz BK1313 hb;replace HB:=A_ (below_step bb_ hb);(try clear hb);(try clear hb2);(try clear hk);(try clear hi)));try go_wp2_with (first|(go_at_call 16;(with_reducible refine (impl_IsOrder.calls kj7 t1309 _ _ t1310 t1339 _ ?side1 ?side2 ?side3 A37.out).mono ?_);(case side1=>exact cl_ (Kd.R_reads' HO_1314001.out).2.2);(case side2=>exact (Kd.R_reads' HO_1314001.out).2.1);(case side3=>first|exact HT.out|exact HT.out.below bb_|(repeat (first|exact HT.out|apply TabOK.drewN|apply TabOK.drew|apply TabOK.alloc)));rintro e w47 ⟨rfl,hb⟩;replace HO_6:=rb_ HO_6 hb;replace HO_1314001:=rb_ HO_1314001 hb;replace HO1327:=rb_ HO1327 hb;replace HO1331:=rb_ HO1331 hb;replace HO1337:=rb_ HO1337 hb;replace BK1313:=bz BK1313 hb;replace HB:=A_ (below_step bb_ hb);(try clear hb);(try clear hb2);(try clear hk);(try clear hi))))
          go_meet
          case rel=>exact ⟨_,(true),(by first|rfl|(simp;done)|(simp [*];done)),H',⟨by have:=HJ7.out;first|omega|exact Nat.le_refl _⟩,⟨by (with_reducible repeat (first|apply Kd.R_alloc|apply Kd.R_drewN|apply Kd.R_drew));exact Kd.R_mono HO_6.out (fun _ hk=>hk.1.1)⟩,⟨by (with_reducible repeat (first|apply Kd.R_alloc|apply Kd.R_drewN|apply Kd.R_drew));exact Kd.R_mono HO_1314001.out (fun _ hk=>hk.1.1)⟩,⟨bl_ BK1313⟩,⟨bb_⟩⟩
         ·rw [if_neg c45] at H;have c45b0 : (t1328 != t1323) = false:=by simpa using c45
          (try (have c45b1 : decide (t1328 = t1323) = true:=by simpa using c45));(try (have c45b2 : (t1328 == t1323) = true:=by simpa using c45));clear c45;by_cases c48 : (t1332 != t1323) = true
          ·rw [if_pos c48] at H;have c48b0 : (t1332 != t1323) = true:=c48;(try (have c48b1 : decide (t1332 = t1323) = false:=by simpa using c48));(try (have c48b2 : (t1332 == t1323) = false:=by simpa using c48));(try (have c48b3 : ¬ (t1332 = t1323):=by simpa using c48));clear c48;have H':=A_ H;clear H;have hcz49_0 : w36.cell? ⟨gb1313,0,none⟩ = some (.int .i64 t1309):=blk_cell BK1313.out 0;have hcz49_1 : w36.cell? ⟨gb1313,1,none⟩ = some (.slice Ao12 t1310.length co12):=blk_cell BK1313.out 1;have hfz49_0:=blk_frozen BK1313.out 0;have hfz49_1:=blk_frozen BK1313.out 1;go_wp2_with (first|(go_at_call 16;(with_reducible refine (impl_IsOrder.calls kj7 t1309 _ _ t1310 t1339 _ ?side1 ?side2 ?side3 A37.out).mono ?_);(case side1=>exact cl_ (Kd.R_reads' HO_1314001.out).2.2);(case side2=>exact (Kd.R_reads' HO_1314001.out).2.1);(case side3=>first|exact HT.out|exact HT.out.below bb_|(repeat (first|exact HT.out|apply TabOK.drewN|apply TabOK.drew|apply TabOK.alloc)));rintro e w50 ⟨rfl,hb⟩;replace HO_6:=rb_ HO_6 hb;replace HO_1314001:=rb_ HO_1314001 hb;replace HO1327:=rb_ HO1327 hb;replace HO1331:=rb_ HO1331 hb;replace HO1337:=rb_ HO1337 hb;replace BK1313:=bz BK1313 hb;replace HB:=A_ (below_step bb_ hb);(try clear hb);(try clear hb2);(try clear hk);(try clear hi)))
           repeat (go_quiet (first|(go_at_call 16;(with_reducible refine (impl_IsOrder.calls kj7 t1309 _ _ t1310 t1339 _ ?side1 ?side2 ?side3 A37.out).mono ?_);(case side1=>exact cl_ (Kd.R_reads' HO_1314001.out).2.2);(case side2=>exact (Kd.R_reads' HO_1314001.out).2.1);(case side3=>first|exact HT.out|exact HT.out.below bb_|(repeat (first|exact HT.out|apply TabOK.drewN|apply TabOK.drew|apply TabOK.alloc)));rintro e w50 ⟨rfl,hb⟩;replace HO_6:=rb_ HO_6 hb;replace HO_1314001:=rb_ HO_1314001 hb;replace HO1327:=rb_ HO1327 hb;replace HO1331:=rb_ HO1331 hb;replace HO1337:=rb_ HO1337 hb;replace BK1313:=bz BK1313 hb;replace HB:=A_ (below_step bb_ hb);(try clear hb);(try clear hb2);(try clear hk);(try clear hi)));try go_wp2_with (first|(go_at_call 16;(with_reducible refine (impl_IsOrder.calls kj7 t1309 _ _ t1310 t1339 _ ?side1 ?side2 ?side3 A37.out).mono ?_);(case side1=>exact cl_ (Kd.R_reads' HO_1314001.out).2.2);(case side2=>exact (Kd.R_reads' HO_1314001.out).2.1);(case side3=>first|exact HT.out|exact HT.out.below bb_|(repeat (first|exact HT.out|apply TabOK.drewN|apply TabOK.drew|apply TabOK.alloc)));rintro e w50 ⟨rfl,hb⟩;replace HO_6:=rb_ HO_6 hb;replace HO_1314001:=rb_ HO_1314001 hb;replace HO1327:=rb_ HO1327 hb;replace HO1331:=rb_ HO1331 hb;replace HO1337:=rb_ HO1337 hb;replace BK1313:=bz BK1313 hb;replace HB:=A_ (below_step bb_ hb);(try clear hb);(try clear hb2);(try clear hk);(try clear hi))))
           go_meet
           case rel=>exact ⟨_,(true),(by first|rfl|(simp;done)|(simp [*];done)),H',⟨by have:=HJ7.out;first|omega|exact Nat.le_refl _⟩,⟨by (with_reducible repeat (first|apply Kd.R_alloc|apply Kd.R_drewN|apply Kd.R_drew));exact Kd.R_mono HO_6.out (fun _ hk=>hk.1.1)⟩,⟨by (with_reducible repeat (first|apply Kd.R_alloc|apply Kd.R_drewN|apply Kd.R_drew));exact Kd.R_mono HO_1314001.out (fun _ hk=>hk.1.1)⟩,⟨bl_ BK1313⟩,⟨bb_⟩⟩
          ·rw [if_neg c48] at H;have c48b0 : (t1332 != t1323) = false:=by simpa using c48
           (try (have c48b1 : decide (t1332 = t1323) = true:=by simpa using c48));(try (have c48b2 : (t1332 == t1323) = true:=by simpa using c48));clear c48;by_cases c51 : (t1334 != t1323) = true
           ·rw [if_pos c51] at H;have c51b0 : (t1334 != t1323) = true:=c51;(try (have c51b1 : decide (t1334 = t1323) = false:=by simpa using c51));(try (have c51b2 : (t1334 == t1323) = false:=by simpa using c51));(try (have c51b3 : ¬ (t1334 = t1323):=by simpa using c51));clear c51;have H':=A_ H;clear H;have hcz52_0 : w36.cell? ⟨gb1313,0,none⟩ = some (.int .i64 t1309):=blk_cell BK1313.out 0;have hcz52_1 : w36.cell? ⟨gb1313,1,none⟩ = some (.slice Ao12 t1310.length co12):=blk_cell BK1313.out 1;have hfz52_0:=blk_frozen BK1313.out 0;have hfz52_1:=blk_frozen BK1313.out 1;go_wp2_with (first|(go_at_call 16;(with_reducible refine (impl_IsOrder.calls kj7 t1309 _ _ t1310 t1339 _ ?side1 ?side2 ?side3 A37.out).mono ?_);(case side1=>exact cl_ (Kd.R_reads' HO_1314001.out).2.2);(case side2=>exact (Kd.R_reads' HO_1314001.out).2.1);(case side3=>first|exact HT.out|exact HT.out.below bb_|(repeat (first|exact HT.out|apply TabOK.drewN|apply TabOK.drew|apply TabOK.alloc)));rintro e w53 ⟨rfl,hb⟩;replace HO_6:=rb_ HO_6 hb;replace HO_1314001:=rb_ HO_1314001 hb;replace HO1327:=rb_ HO1327 hb;replace HO1331:=rb_ HO1331 hb;replace HO1337:=rb_ HO1337 hb;replace BK1313:=bz BK1313 hb;replace HB:=A_ (below_step bb_ hb);(try clear hb);(try clear hb2);(try clear hk);(try clear hi)))
            repeat (go_quiet (first|(go_at_call 16;(with_reducible refine (impl_IsOrder.calls kj7 t1309 _ _ t1310 t1339 _ ?side1 ?side2 ?side3 A37.out).mono ?_);(case side1=>exact cl_ (Kd.R_reads' HO_1314001.out).2.2);(case side2=>exact (Kd.R_reads' HO_1314001.out).2.1);(case side3=>first|exact HT.out|exact HT.out.below bb_|(repeat (first|exact HT.out|apply TabOK.drewN|apply TabOK.drew|apply TabOK.alloc)));rintro e w53 ⟨rfl,hb⟩;replace HO_6:=rb_ HO_6 hb;replace HO_1314001:=rb_ HO_1314001 hb;replace HO1327:=rb_ HO1327 hb;replace HO1331:=rb_ HO1331 hb;replace HO1337:=rb_ HO1337 hb;replace BK1313:=bz BK1313 hb;replace HB:=A_ (below_step bb_ hb);(try clear hb);(try clear hb2);(try clear hk);(try clear hi)));try go_wp2_with (first|(go_at_call 16;(with_reducible refine (impl_IsOrder.calls kj7 t1309 _ _ t1310 t1339 _ ?side1 ?side2 ?side3 A37.out).mono ?_);(case side1=>exact cl_ (Kd.R_reads' HO_1314001.out).2.2);(case side2=>exact (Kd.R_reads' HO_1314001.out).2.1);(case side3=>first|exact HT.out|exact HT.out.below bb_|(repeat (first|exact HT.out|apply TabOK.drewN|apply TabOK.drew|apply TabOK.alloc)));rintro e w53 ⟨rfl,hb⟩;replace HO_6:=rb_ HO_6 hb;replace HO_1314001:=rb_ HO_1314001 hb;replace HO1327:=rb_ HO1327 hb;replace HO1331:=rb_ HO1331 hb;replace HO1337:=rb_ HO1337 hb;replace BK1313:=bz BK1313 hb;replace HB:=A_ (below_step bb_ hb);(try clear hb);(try clear hb2);(try clear hk);(try clear hi))))
            go_meet
            case rel=>exact ⟨_,(true),(by first|rfl|(simp;done)|(simp [*];done)),H',⟨by have:=HJ7.out;first|omega|exact Nat.le_refl _⟩,⟨by (with_reducible repeat (first|apply Kd.R_alloc|apply Kd.R_drewN|apply Kd.R_drew));exact Kd.R_mono HO_6.out (fun _ hk=>hk.1.1)⟩,⟨by (with_reducible repeat (first|apply Kd.R_alloc|apply Kd.R_drewN|apply Kd.R_drew));exact Kd.R_mono HO_1314001.out (fun _ hk=>hk.1.1)⟩,⟨bl_ BK1313⟩,⟨bb_⟩⟩
           ·rw [if_neg c51] at H;have c51b0 : (t1334 != t1323) = false:=by simpa using c51
            (try (have c51b1 : decide (t1334 = t1323) = true:=by simpa using c51));(try (have c51b2 : (t1334 == t1323) = true:=by simpa using c51));clear c51;have H':=A_ H;clear H;have hcz54_0 : w36.cell? ⟨gb1313,0,none⟩ = some (.int .i64 t1309):=blk_cell BK1313.out 0;have hcz54_1 : w36.cell? ⟨gb1313,1,none⟩ = some (.slice Ao12 t1310.length co12):=blk_cell BK1313.out 1;have hfz54_0:=blk_frozen BK1313.out 0;have hfz54_1:=blk_frozen BK1313.out 1;go_wp2_with (first|(go_at_call 16;(with_reducible refine (impl_IsOrder.calls kj7 t1309 _ _ t1310 t1339 _ ?side1 ?side2 ?side3 A37.out).mono ?_);(case side1=>exact cl_ (Kd.R_reads' HO_1314001.out).2.2);(case side2=>exact (Kd.R_reads' HO_1314001.out).2.1);(case side3=>first|exact HT.out|exact HT.out.below bb_|(repeat (first|exact HT.out|apply TabOK.drewN|apply TabOK.drew|apply TabOK.alloc)));rintro e w55 ⟨rfl,hb⟩;replace HO_6:=rb_ HO_6 hb;replace HO_1314001:=rb_ HO_1314001 hb;replace HO1327:=rb_ HO1327 hb;replace HO1331:=rb_ HO1331 hb;replace HO1337:=rb_ HO1337 hb;replace BK1313:=bz BK1313 hb;replace HB:=A_ (below_step bb_ hb);(try clear hb);(try clear hb2);(try clear hk);(try clear hi)))
            repeat (go_quiet (first|(go_at_call 16;(with_reducible refine (impl_IsOrder.calls kj7 t1309 _ _ t1310 t1339 _ ?side1 ?side2 ?side3 A37.out).mono ?_);(case side1=>exact cl_ (Kd.R_reads' HO_1314001.out).2.2);(case side2=>exact (Kd.R_reads' HO_1314001.out).2.1);(case side3=>first|exact HT.out|exact HT.out.below bb_|(repeat (first|exact HT.out|apply TabOK.drewN|apply TabOK.drew|apply TabOK.alloc)));rintro e w55 ⟨rfl,hb⟩;replace HO_6:=rb_ HO_6 hb;replace HO_1314001:=rb_ HO_1314001 hb;replace HO1327:=rb_ HO1327 hb;replace HO1331:=rb_ HO1331 hb;replace HO1337:=rb_ HO1337 hb;replace BK1313:=bz BK1313 hb;replace HB:=A_ (below_step bb_ hb);(try clear hb);(try clear hb2);(try clear hk);(try clear hi)));try go_wp2_with (first|(go_at_call 16;(with_reducible refine (impl_IsOrder.calls kj7 t1309 _ _ t1310 t1339 _ ?side1 ?side2 ?side3 A37.out).mono ?_);(case side1=>exact cl_ (Kd.R_reads' HO_1314001.out).2.2);(case side2=>exact (Kd.R_reads' HO_1314001.out).2.1);(case side3=>first|exact HT.out|exact HT.out.below bb_|(repeat (first|exact HT.out|apply TabOK.drewN|apply TabOK.drew|apply TabOK.alloc)));rintro e w55 ⟨rfl,hb⟩;replace HO_6:=rb_ HO_6 hb;replace HO_1314001:=rb_ HO_1314001 hb;replace HO1327:=rb_ HO1327 hb;replace HO1331:=rb_ HO1331 hb;replace HO1337:=rb_ HO1337 hb;replace BK1313:=bz BK1313 hb;replace HB:=A_ (below_step bb_ hb);(try clear hb);(try clear hb2);(try clear hk);(try clear hi))))
            go_meet
            case rel=>exact ⟨_,((t1338 != t1323)),(by first|rfl|(simp;done)|(simp [*];done)),H',⟨by have:=HJ7.out;first|omega|exact Nat.le_refl _⟩,⟨by (with_reducible repeat (first|apply Kd.R_alloc|apply Kd.R_drewN|apply Kd.R_drew));exact Kd.R_mono HO_6.out (fun _ hk=>hk.1.1)⟩,⟨by (with_reducible repeat (first|apply Kd.R_alloc|apply Kd.R_drewN|apply Kd.R_drew));exact Kd.R_mono HO_1314001.out (fun _ hk=>hk.1.1)⟩,⟨bl_ BK1313⟩,⟨bb_⟩⟩
       ·replace c41:=Bool.eq_false_iff.mpr c41;subst c41;have H1 : (if (t1317 != false) = true then (laws_FnFourRefuse.j1 kj7 t1314 t1317 true t1309 t1310) else (if (t1328 != t1323) = true then (laws_FnFourRefuse.j1 kj7 t1314 t1317 true t1309 t1310) else (if (t1332 != t1323) = true then (laws_FnFourRefuse.j1 kj7 t1314 t1317 true t1309 t1310) else (if (t1334 != t1323) = true then (laws_FnFourRefuse.j1 kj7 t1314 t1317 true t1309 t1310) else (laws_FnFourRefuse.j1 kj7 t1314 t1317 (t1338 != t1323) t1309 t1310))))) = some r:=by rw [if_neg (show ¬ (false = true) by decide)] at H;exact H
        clear H;have H:=H1;clear H1;by_cases c56 : (t1317 != false) = true
        ·rw [if_pos c56] at H;obtain rfl : t1317 = true:=by simpa using c56
         clear c56;have H':=A_ H;clear H;have hcz57_0 : w36.cell? ⟨gb1313,0,none⟩ = some (.int .i64 t1309):=blk_cell BK1313.out 0;have hcz57_1 : w36.cell? ⟨gb1313,1,none⟩ = some (.slice Ao12 t1310.length co12):=blk_cell BK1313.out 1;have hfz57_0:=blk_frozen BK1313.out 0;have hfz57_1:=blk_frozen BK1313.out 1;go_wp2_with (first|(go_at_call 16;(with_reducible refine (impl_IsOrder.calls kj7 t1309 _ _ t1310 t1339 _ ?side1 ?side2 ?side3 A37.out).mono ?_);(case side1=>exact cl_ (Kd.R_reads' HO_1314001.out).2.2);(case side2=>exact (Kd.R_reads' HO_1314001.out).2.1);(case side3=>first|exact HT.out|exact HT.out.below bb_|(repeat (first|exact HT.out|apply TabOK.drewN|apply TabOK.drew|apply TabOK.alloc)));rintro e w58 ⟨rfl,hb⟩;replace HO_6:=rb_ HO_6 hb;replace HO_1314001:=rb_ HO_1314001 hb;replace HO1327:=rb_ HO1327 hb;replace HO1331:=rb_ HO1331 hb;replace HO1337:=rb_ HO1337 hb;replace BK1313:=bz BK1313 hb;replace HB:=A_ (below_step bb_ hb);(try clear hb);(try clear hb2);(try clear hk);(try clear hi)))
         repeat (go_quiet (first|(go_at_call 16;(with_reducible refine (impl_IsOrder.calls kj7 t1309 _ _ t1310 t1339 _ ?side1 ?side2 ?side3 A37.out).mono ?_);(case side1=>exact cl_ (Kd.R_reads' HO_1314001.out).2.2);(case side2=>exact (Kd.R_reads' HO_1314001.out).2.1);(case side3=>first|exact HT.out|exact HT.out.below bb_|(repeat (first|exact HT.out|apply TabOK.drewN|apply TabOK.drew|apply TabOK.alloc)));rintro e w58 ⟨rfl,hb⟩;replace HO_6:=rb_ HO_6 hb;replace HO_1314001:=rb_ HO_1314001 hb;replace HO1327:=rb_ HO1327 hb;replace HO1331:=rb_ HO1331 hb;replace HO1337:=rb_ HO1337 hb;replace BK1313:=bz BK1313 hb;replace HB:=A_ (below_step bb_ hb);(try clear hb);(try clear hb2);(try clear hk);(try clear hi)));try go_wp2_with (first|(go_at_call 16;(with_reducible refine (impl_IsOrder.calls kj7 t1309 _ _ t1310 t1339 _ ?side1 ?side2 ?side3 A37.out).mono ?_);(case side1=>exact cl_ (Kd.R_reads' HO_1314001.out).2.2);(case side2=>exact (Kd.R_reads' HO_1314001.out).2.1);(case side3=>first|exact HT.out|exact HT.out.below bb_|(repeat (first|exact HT.out|apply TabOK.drewN|apply TabOK.drew|apply TabOK.alloc)));rintro e w58 ⟨rfl,hb⟩;replace HO_6:=rb_ HO_6 hb;replace HO_1314001:=rb_ HO_1314001 hb;replace HO1327:=rb_ HO1327 hb;replace HO1331:=rb_ HO1331 hb;replace HO1337:=rb_ HO1337 hb;replace BK1313:=bz BK1313 hb;replace HB:=A_ (below_step bb_ hb);(try clear hb);(try clear hb2);(try clear hk);(try clear hi))))
         go_meet
         case rel=>exact ⟨_,(true),(by first|rfl|(simp;done)|(simp [*];done)),H',⟨by have:=HJ7.out;first|omega|exact Nat.le_refl _⟩,⟨by (with_reducible repeat (first|apply Kd.R_alloc|apply Kd.R_drewN|apply Kd.R_drew));exact Kd.R_mono HO_6.out (fun _ hk=>hk.1.1)⟩,⟨by (with_reducible repeat (first|apply Kd.R_alloc|apply Kd.R_drewN|apply Kd.R_drew));exact Kd.R_mono HO_1314001.out (fun _ hk=>hk.1.1)⟩,⟨bl_ BK1313⟩,⟨bb_⟩⟩
        ·rw [if_neg c56] at H;obtain rfl : t1317 = false:=by simpa using c56
         clear c56;by_cases c59 : (t1328 != t1323) = true
         ·rw [if_pos c59] at H;have c59b0 : (t1328 != t1323) = true:=c59;(try (have c59b1 : decide (t1328 = t1323) = false:=by simpa using c59));(try (have c59b2 : (t1328 == t1323) = false:=by simpa using c59));(try (have c59b3 : ¬ (t1328 = t1323):=by simpa using c59));clear c59;have H':=A_ H;clear H;have hcz60_0 : w36.cell? ⟨gb1313,0,none⟩ = some (.int .i64 t1309):=blk_cell BK1313.out 0;have hcz60_1 : w36.cell? ⟨gb1313,1,none⟩ = some (.slice Ao12 t1310.length co12):=blk_cell BK1313.out 1;have hfz60_0:=blk_frozen BK1313.out 0;have hfz60_1:=blk_frozen BK1313.out 1;go_wp2_with (first|(go_at_call 16;(with_reducible refine (impl_IsOrder.calls kj7 t1309 _ _ t1310 t1339 _ ?side1 ?side2 ?side3 A37.out).mono ?_);(case side1=>exact cl_ (Kd.R_reads' HO_1314001.out).2.2);(case side2=>exact (Kd.R_reads' HO_1314001.out).2.1);(case side3=>first|exact HT.out|exact HT.out.below bb_|(repeat (first|exact HT.out|apply TabOK.drewN|apply TabOK.drew|apply TabOK.alloc)));rintro e w61 ⟨rfl,hb⟩;replace HO_6:=rb_ HO_6 hb;replace HO_1314001:=rb_ HO_1314001 hb;replace HO1327:=rb_ HO1327 hb;replace HO1331:=rb_ HO1331 hb;replace HO1337:=rb_ HO1337 hb;replace BK1313:=bz BK1313 hb;replace HB:=A_ (below_step bb_ hb);(try clear hb);(try clear hb2);(try clear hk);(try clear hi)))
          repeat (go_quiet (first|(go_at_call 16;(with_reducible refine (impl_IsOrder.calls kj7 t1309 _ _ t1310 t1339 _ ?side1 ?side2 ?side3 A37.out).mono ?_);(case side1=>exact cl_ (Kd.R_reads' HO_1314001.out).2.2);(case side2=>exact (Kd.R_reads' HO_1314001.out).2.1);(case side3=>first|exact HT.out|exact HT.out.below bb_|(repeat (first|exact HT.out|apply TabOK.drewN|apply TabOK.drew|apply TabOK.alloc)));rintro e w61 ⟨rfl,hb⟩;replace HO_6:=rb_ HO_6 hb;replace HO_1314001:=rb_ HO_1314001 hb;replace HO1327:=rb_ HO1327 hb;replace HO1331:=rb_ HO1331 hb;replace HO1337:=rb_ HO1337 hb;replace BK1313:=bz BK1313 hb;replace HB:=A_ (below_step bb_ hb);(try clear hb);(try clear hb2);(try clear hk);(try clear hi)));try go_wp2_with (first|(go_at_call 16;(with_reducible refine (impl_IsOrder.calls kj7 t1309 _ _ t1310 t1339 _ ?side1 ?side2 ?side3 A37.out).mono ?_);(case side1=>exact cl_ (Kd.R_reads' HO_1314001.out).2.2);(case side2=>exact (Kd.R_reads' HO_1314001.out).2.1);(case side3=>first|exact HT.out|exact HT.out.below bb_|(repeat (first|exact HT.out|apply TabOK.drewN|apply TabOK.drew|apply TabOK.alloc)));rintro e w61 ⟨rfl,hb⟩;replace HO_6:=rb_ HO_6 hb;replace HO_1314001:=rb_ HO_1314001 hb;replace HO1327:=rb_ HO1327 hb;replace HO1331:=rb_ HO1331 hb;replace HO1337:=rb_ HO1337 hb;replace BK1313:=bz BK1313 hb;replace HB:=A_ (below_step bb_ hb);(try clear hb);(try clear hb2);(try clear hk);(try clear hi))))
          go_meet
          case rel=>exact ⟨_,(true),(by first|rfl|(simp;done)|(simp [*];done)),H',⟨by have:=HJ7.out;first|omega|exact Nat.le_refl _⟩,⟨by (with_reducible repeat (first|apply Kd.R_alloc|apply Kd.R_drewN|apply Kd.R_drew));exact Kd.R_mono HO_6.out (fun _ hk=>hk.1.1)⟩,⟨by (with_reducible repeat (first|apply Kd.R_alloc|apply Kd.R_drewN|apply Kd.R_drew));exact Kd.R_mono HO_1314001.out (fun _ hk=>hk.1.1)⟩,⟨bl_ BK1313⟩,⟨bb_⟩⟩
         ·rw [if_neg c59] at H;have c59b0 : (t1328 != t1323) = false:=by simpa using c59
          (try (have c59b1 : decide (t1328 = t1323) = true:=by simpa using c59));(try (have c59b2 : (t1328 == t1323) = true:=by simpa using c59));clear c59;by_cases c62 : (t1332 != t1323) = true
          ·rw [if_pos c62] at H;have c62b0 : (t1332 != t1323) = true:=c62;(try (have c62b1 : decide (t1332 = t1323) = false:=by simpa using c62));(try (have c62b2 : (t1332 == t1323) = false:=by simpa using c62));(try (have c62b3 : ¬ (t1332 = t1323):=by simpa using c62));clear c62;have H':=A_ H;clear H;have hcz63_0 : w36.cell? ⟨gb1313,0,none⟩ = some (.int .i64 t1309):=blk_cell BK1313.out 0;have hcz63_1 : w36.cell? ⟨gb1313,1,none⟩ = some (.slice Ao12 t1310.length co12):=blk_cell BK1313.out 1;have hfz63_0:=blk_frozen BK1313.out 0;have hfz63_1:=blk_frozen BK1313.out 1;go_wp2_with (first|(go_at_call 16;(with_reducible refine (impl_IsOrder.calls kj7 t1309 _ _ t1310 t1339 _ ?side1 ?side2 ?side3 A37.out).mono ?_);(case side1=>exact cl_ (Kd.R_reads' HO_1314001.out).2.2);(case side2=>exact (Kd.R_reads' HO_1314001.out).2.1);(case side3=>first|exact HT.out|exact HT.out.below bb_|(repeat (first|exact HT.out|apply TabOK.drewN|apply TabOK.drew|apply TabOK.alloc)));rintro e w64 ⟨rfl,hb⟩;replace HO_6:=rb_ HO_6 hb;replace HO_1314001:=rb_ HO_1314001 hb;replace HO1327:=rb_ HO1327 hb;replace HO1331:=rb_ HO1331 hb;replace HO1337:=rb_ HO1337 hb;replace BK1313:=bz BK1313 hb;replace HB:=A_ (below_step bb_ hb);(try clear hb);(try clear hb2);(try clear hk);(try clear hi)))
           repeat (go_quiet (first|(go_at_call 16;(with_reducible refine (impl_IsOrder.calls kj7 t1309 _ _ t1310 t1339 _ ?side1 ?side2 ?side3 A37.out).mono ?_);(case side1=>exact cl_ (Kd.R_reads' HO_1314001.out).2.2);(case side2=>exact (Kd.R_reads' HO_1314001.out).2.1);(case side3=>first|exact HT.out|exact HT.out.below bb_|(repeat (first|exact HT.out|apply TabOK.drewN|apply TabOK.drew|apply TabOK.alloc)));rintro e w64 ⟨rfl,hb⟩;replace HO_6:=rb_ HO_6 hb;replace HO_1314001:=rb_ HO_1314001 hb;replace HO1327:=rb_ HO1327 hb;replace HO1331:=rb_ HO1331 hb;replace HO1337:=rb_ HO1337 hb;replace BK1313:=bz BK1313 hb;replace HB:=A_ (below_step bb_ hb);(try clear hb);(try clear hb2);(try clear hk);(try clear hi)));try go_wp2_with (first|(go_at_call 16;(with_reducible refine (impl_IsOrder.calls kj7 t1309 _ _ t1310 t1339 _ ?side1 ?side2 ?side3 A37.out).mono ?_);(case side1=>exact cl_ (Kd.R_reads' HO_1314001.out).2.2);(case side2=>exact (Kd.R_reads' HO_1314001.out).2.1);(case side3=>first|exact HT.out|exact HT.out.below bb_|(repeat (first|exact HT.out|apply TabOK.drewN|apply TabOK.drew|apply TabOK.alloc)));rintro e w64 ⟨rfl,hb⟩;replace HO_6:=rb_ HO_6 hb;replace HO_1314001:=rb_ HO_1314001 hb;replace HO1327:=rb_ HO1327 hb;replace HO1331:=rb_ HO1331 hb;replace HO1337:=rb_ HO1337 hb;replace BK1313:=bz BK1313 hb;replace HB:=A_ (below_step bb_ hb);(try clear hb);(try clear hb2);(try clear hk);(try clear hi))))
           go_meet
           case rel=>exact ⟨_,(true),(by first|rfl|(simp;done)|(simp [*];done)),H',⟨by have:=HJ7.out;first|omega|exact Nat.le_refl _⟩,⟨by (with_reducible repeat (first|apply Kd.R_alloc|apply Kd.R_drewN|apply Kd.R_drew));exact Kd.R_mono HO_6.out (fun _ hk=>hk.1.1)⟩,⟨by (with_reducible repeat (first|apply Kd.R_alloc|apply Kd.R_drewN|apply Kd.R_drew));exact Kd.R_mono HO_1314001.out (fun _ hk=>hk.1.1)⟩,⟨bl_ BK1313⟩,⟨bb_⟩⟩
          ·rw [if_neg c62] at H;have c62b0 : (t1332 != t1323) = false:=by simpa using c62
           (try (have c62b1 : decide (t1332 = t1323) = true:=by simpa using c62));(try (have c62b2 : (t1332 == t1323) = true:=by simpa using c62));clear c62;by_cases c65 : (t1334 != t1323) = true
           ·rw [if_pos c65] at H;have c65b0 : (t1334 != t1323) = true:=c65;(try (have c65b1 : decide (t1334 = t1323) = false:=by simpa using c65));(try (have c65b2 : (t1334 == t1323) = false:=by simpa using c65));(try (have c65b3 : ¬ (t1334 = t1323):=by simpa using c65));clear c65;have H':=A_ H;clear H;have hcz66_0 : w36.cell? ⟨gb1313,0,none⟩ = some (.int .i64 t1309):=blk_cell BK1313.out 0;have hcz66_1 : w36.cell? ⟨gb1313,1,none⟩ = some (.slice Ao12 t1310.length co12):=blk_cell BK1313.out 1;have hfz66_0:=blk_frozen BK1313.out 0;have hfz66_1:=blk_frozen BK1313.out 1;go_wp2_with (first|(go_at_call 16;(with_reducible refine (impl_IsOrder.calls kj7 t1309 _ _ t1310 t1339 _ ?side1 ?side2 ?side3 A37.out).mono ?_);(case side1=>exact cl_ (Kd.R_reads' HO_1314001.out).2.2);(case side2=>exact (Kd.R_reads' HO_1314001.out).2.1);(case side3=>first|exact HT.out|exact HT.out.below bb_|(repeat (first|exact HT.out|apply TabOK.drewN|apply TabOK.drew|apply TabOK.alloc)));rintro e w67 ⟨rfl,hb⟩;replace HO_6:=rb_ HO_6 hb;replace HO_1314001:=rb_ HO_1314001 hb;replace HO1327:=rb_ HO1327 hb;replace HO1331:=rb_ HO1331 hb;replace HO1337:=rb_ HO1337 hb;replace BK1313:=bz BK1313 hb;replace HB:=A_ (below_step bb_ hb);(try clear hb);(try clear hb2);(try clear hk);(try clear hi)))
            repeat (go_quiet (first|(go_at_call 16;(with_reducible refine (impl_IsOrder.calls kj7 t1309 _ _ t1310 t1339 _ ?side1 ?side2 ?side3 A37.out).mono ?_);(case side1=>exact cl_ (Kd.R_reads' HO_1314001.out).2.2);(case side2=>exact (Kd.R_reads' HO_1314001.out).2.1);(case side3=>first|exact HT.out|exact HT.out.below bb_|(repeat (first|exact HT.out|apply TabOK.drewN|apply TabOK.drew|apply TabOK.alloc)));rintro e w67 ⟨rfl,hb⟩;replace HO_6:=rb_ HO_6 hb;replace HO_1314001:=rb_ HO_1314001 hb;replace HO1327:=rb_ HO1327 hb;replace HO1331:=rb_ HO1331 hb;replace HO1337:=rb_ HO1337 hb;replace BK1313:=bz BK1313 hb;replace HB:=A_ (below_step bb_ hb);(try clear hb);(try clear hb2);(try clear hk);(try clear hi)));try go_wp2_with (first|(go_at_call 16;(with_reducible refine (impl_IsOrder.calls kj7 t1309 _ _ t1310 t1339 _ ?side1 ?side2 ?side3 A37.out).mono ?_);(case side1=>exact cl_ (Kd.R_reads' HO_1314001.out).2.2);(case side2=>exact (Kd.R_reads' HO_1314001.out).2.1);(case side3=>first|exact HT.out|exact HT.out.below bb_|(repeat (first|exact HT.out|apply TabOK.drewN|apply TabOK.drew|apply TabOK.alloc)));rintro e w67 ⟨rfl,hb⟩;replace HO_6:=rb_ HO_6 hb;replace HO_1314001:=rb_ HO_1314001 hb;replace HO1327:=rb_ HO1327 hb;replace HO1331:=rb_ HO1331 hb;replace HO1337:=rb_ HO1337 hb;replace BK1313:=bz BK1313 hb;replace HB:=A_ (below_step bb_ hb);(try clear hb);(try clear hb2);(try clear hk);(try clear hi))))
            go_meet
            case rel=>exact ⟨_,(true),(by first|rfl|(simp;done)|(simp [*];done)),H',⟨by have:=HJ7.out;first|omega|exact Nat.le_refl _⟩,⟨by (with_reducible repeat (first|apply Kd.R_alloc|apply Kd.R_drewN|apply Kd.R_drew));exact Kd.R_mono HO_6.out (fun _ hk=>hk.1.1)⟩,⟨by (with_reducible repeat (first|apply Kd.R_alloc|apply Kd.R_drewN|apply Kd.R_drew));exact Kd.R_mono HO_1314001.out (fun _ hk=>hk.1.1)⟩,⟨bl_ BK1313⟩,⟨bb_⟩⟩
           ·rw [if_neg c65] at H;have c65b0 : (t1334 != t1323) = false:=by simpa using c65
            (try (have c65b1 : decide (t1334 = t1323) = true:=by simpa using c65));(try (have c65b2 : (t1334 == t1323) = true:=by simpa using c65));clear c65;have H':=A_ H;clear H;have hcz68_0 : w36.cell? ⟨gb1313,0,none⟩ = some (.int .i64 t1309):=blk_cell BK1313.out 0;have hcz68_1 : w36.cell? ⟨gb1313,1,none⟩ = some (.slice Ao12 t1310.length co12):=blk_cell BK1313.out 1;have hfz68_0:=blk_frozen BK1313.out 0;have hfz68_1:=blk_frozen BK1313.out 1;go_wp2_with (first|(go_at_call 16;(with_reducible refine (impl_IsOrder.calls kj7 t1309 _ _ t1310 t1339 _ ?side1 ?side2 ?side3 A37.out).mono ?_);(case side1=>exact cl_ (Kd.R_reads' HO_1314001.out).2.2);(case side2=>exact (Kd.R_reads' HO_1314001.out).2.1);(case side3=>first|exact HT.out|exact HT.out.below bb_|(repeat (first|exact HT.out|apply TabOK.drewN|apply TabOK.drew|apply TabOK.alloc)));rintro e w69 ⟨rfl,hb⟩;replace HO_6:=rb_ HO_6 hb;replace HO_1314001:=rb_ HO_1314001 hb;replace HO1327:=rb_ HO1327 hb;replace HO1331:=rb_ HO1331 hb;replace HO1337:=rb_ HO1337 hb;replace BK1313:=bz BK1313 hb;replace HB:=A_ (below_step bb_ hb);(try clear hb);(try clear hb2);(try clear hk);(try clear hi)))
            repeat (go_quiet (first|(go_at_call 16;(with_reducible refine (impl_IsOrder.calls kj7 t1309 _ _ t1310 t1339 _ ?side1 ?side2 ?side3 A37.out).mono ?_);(case side1=>exact cl_ (Kd.R_reads' HO_1314001.out).2.2);(case side2=>exact (Kd.R_reads' HO_1314001.out).2.1);(case side3=>first|exact HT.out|exact HT.out.below bb_|(repeat (first|exact HT.out|apply TabOK.drewN|apply TabOK.drew|apply TabOK.alloc)));rintro e w69 ⟨rfl,hb⟩;replace HO_6:=rb_ HO_6 hb;replace HO_1314001:=rb_ HO_1314001 hb;replace HO1327:=rb_ HO1327 hb;replace HO1331:=rb_ HO1331 hb;replace HO1337:=rb_ HO1337 hb;replace BK1313:=bz BK1313 hb;replace HB:=A_ (below_step bb_ hb);(try clear hb);(try clear hb2);(try clear hk);(try clear hi)));try go_wp2_with (first|(go_at_call 16;(with_reducible refine (impl_IsOrder.calls kj7 t1309 _ _ t1310 t1339 _ ?side1 ?side2 ?side3 A37.out).mono ?_);(case side1=>exact cl_ (Kd.R_reads' HO_1314001.out).2.2);(case side2=>exact (Kd.R_reads' HO_1314001.out).2.1);(case side3=>first|exact HT.out|exact HT.out.below bb_|(repeat (first|exact HT.out|apply TabOK.drewN|apply TabOK.drew|apply TabOK.alloc)));rintro e w69 ⟨rfl,hb⟩;replace HO_6:=rb_ HO_6 hb;replace HO_1314001:=rb_ HO_1314001 hb;replace HO1327:=rb_ HO1327 hb;replace HO1331:=rb_ HO1331 hb;replace HO1337:=rb_ HO1337 hb;replace BK1313:=bz BK1313 hb;replace HB:=A_ (below_step bb_ hb);(try clear hb);(try clear hb2);(try clear hk);(try clear hi))))
            go_meet
            case rel=>exact ⟨_,((t1338 != t1323)),(by first|rfl|(simp;done)|(simp [*];done)),H',⟨by have:=HJ7.out;first|omega|exact Nat.le_refl _⟩,⟨by (with_reducible repeat (first|apply Kd.R_alloc|apply Kd.R_drewN|apply Kd.R_drew));exact Kd.R_mono HO_6.out (fun _ hk=>hk.1.1)⟩,⟨by (with_reducible repeat (first|apply Kd.R_alloc|apply Kd.R_drewN|apply Kd.R_drew));exact Kd.R_mono HO_1314001.out (fun _ hk=>hk.1.1)⟩,⟨bl_ BK1313⟩,⟨bb_⟩⟩
     case rest =>
      clear HC26;try clear c1
      try clear c2
      try clear p2
      try clear c3
      try clear c4
      try clear c5
      try clear c6
      try clear c8
      try clear c16
      try clear c16b0
      try clear c16b1
      try clear c16b2
      try clear c20
      try clear c38
      try clear c38b0
      try clear c38b1
      try clear c38b2
      try clear c41
      try clear c42
      try clear c42b0
      try clear c42b1
      try clear c42b2
      try clear c45
      try clear c45b0
      try clear c45b1
      try clear c45b2
      try clear c48
      try clear c48b0
      try clear c48b1
      try clear c48b2
      try clear c51
      try clear c51b0
      try clear c51b1
      try clear c51b2
      try clear c56
      try clear c56b0
      try clear c56b1
      try clear c56b2
      try clear c59
      try clear c59b0
      try clear c59b1
      try clear c59b2
      try clear c62
      try clear c62b0
      try clear c62b1
      try clear c62b2
      try clear c65
      try clear c65b0
      try clear c65b1
      try clear c65b2
      try clear hcz11_0
      try clear hcz11_1
      try clear hcz14_0
      try clear hcz14_1
      try clear hcz27_0
      try clear hcz27_1
      try clear hcz29_0
      try clear hcz29_1
      try clear hcz31_0
      try clear hcz31_1
      try clear hcz33_0
      try clear hcz33_1
      try clear hcz35_0
      try clear hcz35_1
      try clear hcz39_0
      try clear hcz39_1
      try clear hcz43_0
      try clear hcz43_1
      try clear hcz46_0
      try clear hcz46_1
      try clear hcz49_0
      try clear hcz49_1
      try clear hcz52_0
      try clear hcz52_1
      try clear hcz54_0
      try clear hcz54_1
      try clear hcz57_0
      try clear hcz57_1
      try clear hcz60_0
      try clear hcz60_1
      try clear hcz63_0
      try clear hcz63_1
      try clear hcz66_0
      try clear hcz66_1
      try clear hcz68_0
      try clear hcz68_1
      try clear hfz11_0
      try clear hfz11_1
      try clear hfz14_0
      try clear hfz14_1
      try clear hfz27_0
      try clear hfz27_1
      try clear hfz29_0
      try clear hfz29_1
      try clear hfz31_0
      try clear hfz31_1
      try clear hfz33_0
      try clear hfz33_1
      try clear hfz35_0
      try clear hfz35_1
      try clear hfz39_0
      try clear hfz39_1
      try clear hfz43_0
      try clear hfz43_1
      try clear hfz46_0
      try clear hfz46_1
      try clear hfz49_0
      try clear hfz49_1
      try clear hfz52_0
      try clear hfz52_1
      try clear hfz54_0
      try clear hfz54_1
      try clear hfz57_0
      try clear hfz57_1
      try clear hfz60_0
      try clear hfz60_1
      try clear hfz63_0
      try clear hfz63_1
      try clear hfz66_0
      try clear hfz66_1
      try clear hfz68_0
      try clear hfz68_1
      try clear p2
      obtain ⟨kq,x108_25,rfl,HA,HJ25,HO_6,HO_1314001,BK1313,HB⟩:=hcut;cases kq with
      | zero=>exact absurd HA.out (by simp [laws_FnFourRefuse.j1])
      | succ kj25 =>
       have H:=HA.out;clear HA;simp only [laws_FnFourRefuse.j1] at H
       by_cases c70 : x108_25 = true
       ·subst c70;have H1 : (some false) = some r:=by rw [if_pos rfl] at H;exact H
        clear H;have H:=H1;clear H1;obtain rfl:=Option.some.inj H;go_wp2
        repeat (go_quiet (fail);try go_wp2)
        go_ret
        exact ⟨by first|rfl|(simp [errW_none,errW_some] <;> rfl)|(simp [*,errW_none,errW_some] <;> rfl),bb_⟩
       ·replace c70:=Bool.eq_false_iff.mpr c70;subst c70;have H1 : (if t1317 = true then (if 0 < (t1314.length : Int) then (if 1 < (t1314.length : Int) then (if 2 < (t1314.length : Int) then (if 3 < (t1314.length : Int) then (if 0 ≤ (rd t1314 0) then (if (rd t1314 0) < (t1310.length : Int) then ((laws_pIn.f (rd t1310 (rd t1314 0)) (rd t1314 1)).bind fun t1345=>(if t1345 = true then (if 0 ≤ (rd t1314 2) then (if (rd t1314 2) < (t1310.length : Int) then ((laws_pIn.f (rd t1310 (rd t1314 2)) (rd t1314 3)).bind fun t1347=>(if t1347 = true then ((laws_pIn.f (rd t1310 (rd t1314 0)) (rd t1314 3)).bind fun t1349=>(if t1349 = true then (laws_FnFourRefuse.j2 kj25 t1314 true t1309 t1310) else ((laws_pIn.f (rd t1310 (rd t1314 2)) (rd t1314 1)).bind fun t1351=>(laws_FnFourRefuse.j2 kj25 t1314 t1351 t1309 t1310)))) else (laws_FnFourRefuse.j2 kj25 t1314 true t1309 t1310))) else (none)) else (none)) else (laws_FnFourRefuse.j2 kj25 t1314 true t1309 t1310))) else (none)) else (none)) else (none)) else (none)) else (none)) else (none)) else (some true)) = some r:=by rw [if_neg (show ¬ (false = true) by decide)] at H;exact H
        clear H;have H:=H1;clear H1;by_cases c71 : t1317 = true
        ·subst c71;have H1 : (if 0 < (t1314.length : Int) then (if 1 < (t1314.length : Int) then (if 2 < (t1314.length : Int) then (if 3 < (t1314.length : Int) then (if 0 ≤ (rd t1314 0) then (if (rd t1314 0) < (t1310.length : Int) then ((laws_pIn.f (rd t1310 (rd t1314 0)) (rd t1314 1)).bind fun t1345=>(if t1345 = true then (if 0 ≤ (rd t1314 2) then (if (rd t1314 2) < (t1310.length : Int) then ((laws_pIn.f (rd t1310 (rd t1314 2)) (rd t1314 3)).bind fun t1347=>(if t1347 = true then ((laws_pIn.f (rd t1310 (rd t1314 0)) (rd t1314 3)).bind fun t1349=>(if t1349 = true then (laws_FnFourRefuse.j2 kj25 t1314 true t1309 t1310) else ((laws_pIn.f (rd t1310 (rd t1314 2)) (rd t1314 1)).bind fun t1351=>(laws_FnFourRefuse.j2 kj25 t1314 t1351 t1309 t1310)))) else (laws_FnFourRefuse.j2 kj25 t1314 true t1309 t1310))) else (none)) else (none)) else (laws_FnFourRefuse.j2 kj25 t1314 true t1309 t1310))) else (none)) else (none)) else (none)) else (none)) else (none)) else (none)) = some r:=by rw [if_pos rfl] at H;exact H
         clear H;have H:=H1;clear H1;by_cases c72 : 0 < (t1314.length : Int)
         ·rw [if_pos c72] at H;have c72b0 : decide (0 < (t1314.length : Int)) = true:=decide_eq_true c72;have c72b1 : decide (0 < t1314.length) = true:=decide_eq_true (by omega);clear c72;by_cases c73 : 1 < (t1314.length : Int)
          ·rw [if_pos c73] at H;have c73b0 : decide (1 < (t1314.length : Int)) = true:=decide_eq_true c73;have c73b1 : decide (1 < t1314.length) = true:=decide_eq_true (by omega);clear c73;by_cases c74 : 2 < (t1314.length : Int)
           ·rw [if_pos c74] at H;have c74b0 : decide (2 < (t1314.length : Int)) = true:=decide_eq_true c74;have c74b1 : decide (2 < t1314.length) = true:=decide_eq_true (by omega);clear c74;by_cases c75 : 3 < (t1314.length : Int)
            ·rw [if_pos c75] at H;have c75b0 : decide (3 < (t1314.length : Int)) = true:=decide_eq_true c75;have c75b1 : decide (3 < t1314.length) = true:=decide_eq_true (by omega);clear c75;have HC76:=A_ H;clear H;obtain ⟨Ao77,co77,eo77⟩:=Kd.R_slice HO_6.out;subst eo77;have p1340 : 0 ≤ (0 : Int):=(by omega);have q1340 : 0 < (t1314.length : Int):=of_decide_eq_true (by first|(with_reducible assumption)|assumption);obtain ⟨ad1340,e1340,hx1340_0⟩:=Kd.at_int (Kd.R_reads' HO_6.out).2.2 0 p1340 q1340;cases e1340
             have qi1340 : (0 < t1314.length) = True:=eq_true (by omega);(try rw [show ((0 : Int)).toNat = 0 from rfl] at hx1340_0);(try rw [Addr.add_zero'] at hx1340_0);replace p1340:=eq_true p1340;replace q1340:=eq_true q1340;have p1341 : 0 ≤ (1 : Int):=(by omega);have q1341 : 1 < (t1314.length : Int):=of_decide_eq_true (by first|(with_reducible assumption)|assumption);obtain ⟨ad1341,e1341,hx1341_0⟩:=Kd.at_int (Kd.R_reads' HO_6.out).2.2 1 p1341 q1341;obtain rfl : ad1340 = ad1341:=(by injection e1341);(try simp only [show (1 : Int).toNat = 1 from rfl,Nat.reduceMul,Nat.reduceEqDiff,Go.Addr.add,↓reduceIte] at hx1341_0);have qi1341 : (1 < t1314.length) = True:=eq_true (by omega);(try rw [show ((1 : Int)).toNat = 1 from rfl] at hx1341_0);replace p1341:=eq_true p1341;replace q1341:=eq_true q1341;have p1342 : 0 ≤ (2 : Int):=(by omega);have q1342 : 2 < (t1314.length : Int):=of_decide_eq_true (by first|(with_reducible assumption)|assumption);obtain ⟨ad1342,e1342,hx1342_0⟩:=Kd.at_int (Kd.R_reads' HO_6.out).2.2 2 p1342 q1342;obtain rfl : ad1340 = ad1342:=(by injection e1342);(try simp only [show (2 : Int).toNat = 2 from rfl,Nat.reduceMul,Nat.reduceEqDiff,Go.Addr.add,↓reduceIte] at hx1342_0);have qi1342 : (2 < t1314.length) = True:=eq_true (by omega);(try rw [show ((2 : Int)).toNat = 2 from rfl] at hx1342_0);replace p1342:=eq_true p1342;replace q1342:=eq_true q1342;have p1343 : 0 ≤ (3 : Int):=(by omega);have q1343 : 3 < (t1314.length : Int):=of_decide_eq_true (by first|(with_reducible assumption)|assumption);obtain ⟨ad1343,e1343,hx1343_0⟩:=Kd.at_int (Kd.R_reads' HO_6.out).2.2 3 p1343 q1343;obtain rfl : ad1340 = ad1343:=(by injection e1343);(try simp only [show (3 : Int).toNat = 3 from rfl,Nat.reduceMul,Nat.reduceEqDiff,Go.Addr.add,↓reduceIte] at hx1343_0);have qi1343 : (3 < t1314.length) = True:=eq_true (by omega);(try rw [show ((3 : Int)).toNat = 3 from rfl] at hx1343_0);replace p1343:=eq_true p1343;replace q1343:=eq_true q1343;go_upto_region 18 with (fail)
             repeat (go_quiet (fail);go_upto_region 18 with (fail))
             go_cut [158] (fun v158 wc=>∃ (kq : Nat) (x158_75 : Bool),v158 = .bool x158_75 ∧ Aside0 (laws_FnFourRefuse.j2 kq t1314 x158_75 t1309 t1310 = some r) ∧ Aside0 (kq ≤ kj25) ∧ Aside0 (Kd.R (Kd.int .i64) 3 wc w.heap.size (fun k_=>some k_ ≠ ((.slice Ao12 t1310.length co12) : Value).ownBlock) (.slice (some ad1340) t1314.length co77) t1314) ∧ Aside0 (Kd.R (Kd.int .i64) 3 wc w.heap.size (fun k_=>some k_ ≠ ((.slice (some ad1340) t1314.length co77) : Value).ownBlock) (.slice Ao12 t1310.length co12) t1310) ∧ Aside0 (wc.heap[gb1313]? = some (.cells #[.int .i64 t1309,(.slice Ao12 t1310.length co12)] 26 (0,0))) ∧ Aside0 (Below w.heap.size w wc))
             case first =>
              have H:=HC76.out;clear HC76;by_cases c78 : 0 ≤ (rd t1314 0)
              ·rw [if_pos c78] at H;have c78b0 : decide (0 ≤ (rd t1314 0)) = true:=decide_eq_true c78;clear c78;(first|rw [c78b0]|(simp only [i64_w,i32_w];rw [c78b0])|skip)
               by_cases c79 : (rd t1314 0) < (t1310.length : Int)
               ·rw [if_pos c79] at H;have c79b0 : decide ((rd t1314 0) < (t1310.length : Int)) = true:=decide_eq_true c79;clear c79;replace H:=Option.bind_eq_some_iff.mp H;obtain ⟨t1345,A800,H⟩:=H;replace H : (if t1345 = true then (if 0 ≤ (rd t1314 2) then (if (rd t1314 2) < (t1310.length : Int) then ((laws_pIn.f (rd t1310 (rd t1314 2)) (rd t1314 3)).bind fun t1347=>(if t1347 = true then ((laws_pIn.f (rd t1310 (rd t1314 0)) (rd t1314 3)).bind fun t1349=>(if t1349 = true then (laws_FnFourRefuse.j2 kj25 t1314 true t1309 t1310) else ((laws_pIn.f (rd t1310 (rd t1314 2)) (rd t1314 1)).bind fun t1351=>(laws_FnFourRefuse.j2 kj25 t1314 t1351 t1309 t1310)))) else (laws_FnFourRefuse.j2 kj25 t1314 true t1309 t1310))) else (none)) else (none)) else (laws_FnFourRefuse.j2 kj25 t1314 true t1309 t1310)) = some r:=H;have A80:=A_ A800;clear A800;by_cases c81 : t1345 = true
                ·subst c81;have H1 : (if 0 ≤ (rd t1314 2) then (if (rd t1314 2) < (t1310.length : Int) then ((laws_pIn.f (rd t1310 (rd t1314 2)) (rd t1314 3)).bind fun t1347=>(if t1347 = true then ((laws_pIn.f (rd t1310 (rd t1314 0)) (rd t1314 3)).bind fun t1349=>(if t1349 = true then (laws_FnFourRefuse.j2 kj25 t1314 true t1309 t1310) else ((laws_pIn.f (rd t1310 (rd t1314 2)) (rd t1314 1)).bind fun t1351=>(laws_FnFourRefuse.j2 kj25 t1314 t1351 t1309 t1310)))) else (laws_FnFourRefuse.j2 kj25 t1314 true t1309 t1310))) else (none)) else (none)) = some r:=by rw [if_pos rfl] at H;exact H
                 clear H;have H:=H1;clear H1;by_cases c82 : 0 ≤ (rd t1314 2)
                 ·rw [if_pos c82] at H;have c82b0 : decide (0 ≤ (rd t1314 2)) = true:=decide_eq_true c82;clear c82;by_cases c83 : (rd t1314 2) < (t1310.length : Int)
                  ·rw [if_pos c83] at H;have c83b0 : decide ((rd t1314 2) < (t1310.length : Int)) = true:=decide_eq_true c83;clear c83;replace H:=Option.bind_eq_some_iff.mp H;obtain ⟨t1347,A840,H⟩:=H;replace H : (if t1347 = true then ((laws_pIn.f (rd t1310 (rd t1314 0)) (rd t1314 3)).bind fun t1349=>(if t1349 = true then (laws_FnFourRefuse.j2 kj25 t1314 true t1309 t1310) else ((laws_pIn.f (rd t1310 (rd t1314 2)) (rd t1314 1)).bind fun t1351=>(laws_FnFourRefuse.j2 kj25 t1314 t1351 t1309 t1310)))) else (laws_FnFourRefuse.j2 kj25 t1314 true t1309 t1310)) = some r:=H;have A84:=A_ A840;clear A840;by_cases c85 : t1347 = true
                   ·subst c85;have H1 : ((laws_pIn.f (rd t1310 (rd t1314 0)) (rd t1314 3)).bind fun t1349=>(if t1349 = true then (laws_FnFourRefuse.j2 kj25 t1314 true t1309 t1310) else ((laws_pIn.f (rd t1310 (rd t1314 2)) (rd t1314 1)).bind fun t1351=>(laws_FnFourRefuse.j2 kj25 t1314 t1351 t1309 t1310)))) = some r:=by rw [if_pos rfl] at H;exact H
                    clear H;have H:=H1;clear H1;replace H:=Option.bind_eq_some_iff.mp H;obtain ⟨t1349,A860,H⟩:=H;replace H : (if t1349 = true then (laws_FnFourRefuse.j2 kj25 t1314 true t1309 t1310) else ((laws_pIn.f (rd t1310 (rd t1314 2)) (rd t1314 1)).bind fun t1351=>(laws_FnFourRefuse.j2 kj25 t1314 t1351 t1309 t1310))) = some r:=H;have A86:=A_ A860;clear A860;by_cases c87 : t1349 = true
                    ·subst c87;have H1 : (laws_FnFourRefuse.j2 kj25 t1314 true t1309 t1310) = some r:=by rw [if_pos rfl] at H;exact H
                     clear H;have H:=H1;clear H1;have H':=A_ H;clear H;have hcz88_0 : wc.cell? ⟨gb1313,0,none⟩ = some (.int .i64 t1309):=blk_cell BK1313.out 0;have hcz88_1 : wc.cell? ⟨gb1313,1,none⟩ = some (.slice Ao12 t1310.length co12):=blk_cell BK1313.out 1;have hfz88_0:=blk_frozen BK1313.out 0;have hfz88_1:=blk_frozen BK1313.out 1;have p1344 : 0 ≤ ((rd t1314 0) : Int):=of_decide_eq_true (by first|(with_reducible assumption)|assumption);have q1344 : (rd t1314 0) < (t1310.length : Int):=of_decide_eq_true (by first|(with_reducible assumption)|assumption);obtain ⟨ad1344,e1344,hx1344_0⟩:=Kd.at_int (Kd.R_reads' HO_1314001.out).2.2 (rd t1314 0) p1344 q1344;cases e1344
                     replace p1344:=eq_true p1344;replace q1344:=eq_true q1344;go_wp2_with (first|(go_at_call 17;(with_reducible refine (laws_pIn.calls (rd t1310 (rd t1314 0)) (rd t1314 1) true _ A80.out).mono ?_);rintro e w' ⟨rfl,⟨nd,rfl⟩⟩;(try first|exact ⟨rfl,_,World.drewN_drewN _ _ _⟩|exact ⟨rfl,_,Eq.trans (World.drewN_drewN _ _ _) (congrArg (World.drewN _) (Nat.add_assoc _ _ _))⟩);have p1346 : 0 ≤ ((rd t1314 2) : Int):=of_decide_eq_true (by first|(with_reducible assumption)|assumption);have q1346 : (rd t1314 2) < (t1310.length : Int):=of_decide_eq_true (by first|(with_reducible assumption)|assumption);obtain ⟨ad1346,e1346,hx1346_0⟩:=Kd.at_int (Kd.R_reads' HO_1314001.out).2.2 (rd t1314 2) p1346 q1346;obtain rfl : ad1344 = ad1346:=(by injection e1346);replace p1346:=eq_true p1346;replace q1346:=eq_true q1346)|(go_at_call 17;(with_reducible refine (laws_pIn.calls (rd t1310 (rd t1314 2)) (rd t1314 3) true _ A84.out).mono ?_);rintro e w' ⟨rfl,⟨nd,rfl⟩⟩;(try first|exact ⟨rfl,_,World.drewN_drewN _ _ _⟩|exact ⟨rfl,_,Eq.trans (World.drewN_drewN _ _ _) (congrArg (World.drewN _) (Nat.add_assoc _ _ _))⟩);have p1348 : 0 ≤ ((rd t1314 0) : Int):=of_decide_eq_true (by first|(with_reducible assumption)|assumption);have q1348 : (rd t1314 0) < (t1310.length : Int):=of_decide_eq_true (by first|(with_reducible assumption)|assumption);obtain ⟨ad1348,e1348,hx1348_0⟩:=Kd.at_int (Kd.R_reads' HO_1314001.out).2.2 (rd t1314 0) p1348 q1348;obtain rfl : ad1344 = ad1348:=(by injection e1348);replace p1348:=eq_true p1348;replace q1348:=eq_true q1348)|(go_at_call 17;(with_reducible refine (laws_pIn.calls (rd t1310 (rd t1314 0)) (rd t1314 3) true _ A86.out).mono ?_);rintro e w' ⟨rfl,⟨nd,rfl⟩⟩;(try first|exact ⟨rfl,_,World.drewN_drewN _ _ _⟩|exact ⟨rfl,_,Eq.trans (World.drewN_drewN _ _ _) (congrArg (World.drewN _) (Nat.add_assoc _ _ _))⟩)))
                     repeat (go_quiet (first|(go_at_call 17;(with_reducible refine (laws_pIn.calls (rd t1310 (rd t1314 0)) (rd t1314 1) true _ A80.out).mono ?_);rintro e w' ⟨rfl,⟨nd,rfl⟩⟩;(try first|exact ⟨rfl,_,World.drewN_drewN _ _ _⟩|exact ⟨rfl,_,Eq.trans (World.drewN_drewN _ _ _) (congrArg (World.drewN _) (Nat.add_assoc _ _ _))⟩);have p1346 : 0 ≤ ((rd t1314 2) : Int):=of_decide_eq_true (by first|(with_reducible assumption)|assumption);have q1346 : (rd t1314 2) < (t1310.length : Int):=of_decide_eq_true (by first|(with_reducible assumption)|assumption);obtain ⟨ad1346,e1346,hx1346_0⟩:=Kd.at_int (Kd.R_reads' HO_1314001.out).2.2 (rd t1314 2) p1346 q1346;obtain rfl : ad1344 = ad1346:=(by injection e1346);replace p1346:=eq_true p1346;replace q1346:=eq_true q1346)|(go_at_call 17;(with_reducible refine (laws_pIn.calls (rd t1310 (rd t1314 2)) (rd t1314 3) true _ A84.out).mono ?_);rintro e w' ⟨rfl,⟨nd,rfl⟩⟩;(try first|exact ⟨rfl,_,World.drewN_drewN _ _ _⟩|exact ⟨rfl,_,Eq.trans (World.drewN_drewN _ _ _) (congrArg (World.drewN _) (Nat.add_assoc _ _ _))⟩);have p1348 : 0 ≤ ((rd t1314 0) : Int):=of_decide_eq_true (by first|(with_reducible assumption)|assumption);have q1348 : (rd t1314 0) < (t1310.length : Int):=of_decide_eq_true (by first|(with_reducible assumption)|assumption);obtain ⟨ad1348,e1348,hx1348_0⟩:=Kd.at_int (Kd.R_reads' HO_1314001.out).2.2 (rd t1314 0) p1348 q1348;obtain rfl : ad1344 = ad1348:=(by injection e1348);replace p1348:=eq_true p1348;replace q1348:=eq_true q1348)|(go_at_call 17;(with_reducible refine (laws_pIn.calls (rd t1310 (rd t1314 0)) (rd t1314 3) true _ A86.out).mono ?_);rintro e w' ⟨rfl,⟨nd,rfl⟩⟩;(try first|exact ⟨rfl,_,World.drewN_drewN _ _ _⟩|exact ⟨rfl,_,Eq.trans (World.drewN_drewN _ _ _) (congrArg (World.drewN _) (Nat.add_assoc _ _ _))⟩)));try go_wp2_with (first|(go_at_call 17;(with_reducible refine (laws_pIn.calls (rd t1310 (rd t1314 0)) (rd t1314 1) true _ A80.out).mono ?_);rintro e w' ⟨rfl,⟨nd,rfl⟩⟩;(try first|exact ⟨rfl,_,World.drewN_drewN _ _ _⟩|exact ⟨rfl,_,Eq.trans (World.drewN_drewN _ _ _) (congrArg (World.drewN _) (Nat.add_assoc _ _ _))⟩);have p1346 : 0 ≤ ((rd t1314 2) : Int):=of_decide_eq_true (by first|(with_reducible assumption)|assumption);have q1346 : (rd t1314 2) < (t1310.length : Int):=of_decide_eq_true (by first|(with_reducible assumption)|assumption);obtain ⟨ad1346,e1346,hx1346_0⟩:=Kd.at_int (Kd.R_reads' HO_1314001.out).2.2 (rd t1314 2) p1346 q1346;obtain rfl : ad1344 = ad1346:=(by injection e1346);replace p1346:=eq_true p1346;replace q1346:=eq_true q1346)|(go_at_call 17;(with_reducible refine (laws_pIn.calls (rd t1310 (rd t1314 2)) (rd t1314 3) true _ A84.out).mono ?_);rintro e w' ⟨rfl,⟨nd,rfl⟩⟩;(try first|exact ⟨rfl,_,World.drewN_drewN _ _ _⟩|exact ⟨rfl,_,Eq.trans (World.drewN_drewN _ _ _) (congrArg (World.drewN _) (Nat.add_assoc _ _ _))⟩);have p1348 : 0 ≤ ((rd t1314 0) : Int):=of_decide_eq_true (by first|(with_reducible assumption)|assumption);have q1348 : (rd t1314 0) < (t1310.length : Int):=of_decide_eq_true (by first|(with_reducible assumption)|assumption);obtain ⟨ad1348,e1348,hx1348_0⟩:=Kd.at_int (Kd.R_reads' HO_1314001.out).2.2 (rd t1314 0) p1348 q1348;obtain rfl : ad1344 = ad1348:=(by injection e1348);replace p1348:=eq_true p1348;replace q1348:=eq_true q1348)|(go_at_call 17;(with_reducible refine (laws_pIn.calls (rd t1310 (rd t1314 0)) (rd t1314 3) true _ A86.out).mono ?_);rintro e w' ⟨rfl,⟨nd,rfl⟩⟩;(try first|exact ⟨rfl,_,World.drewN_drewN _ _ _⟩|exact ⟨rfl,_,Eq.trans (World.drewN_drewN _ _ _) (congrArg (World.drewN _) (Nat.add_assoc _ _ _))⟩))))
                     go_meet
                     case rel=>exact ⟨_,(true),(by first|rfl|(simp;done)|(simp [*];done)),H',⟨by have:=HJ7.out;have:=HJ25.out;first|omega|exact Nat.le_refl _⟩,⟨by (with_reducible repeat (first|apply Kd.R_alloc|apply Kd.R_drewN|apply Kd.R_drew));exact HO_6.out⟩,⟨by (with_reducible repeat (first|apply Kd.R_alloc|apply Kd.R_drewN|apply Kd.R_drew));exact HO_1314001.out⟩,⟨bl_ BK1313⟩,⟨bb_⟩⟩
                    ·replace c87:=Bool.eq_false_iff.mpr c87;subst c87;have H1 : ((laws_pIn.f (rd t1310 (rd t1314 2)) (rd t1314 1)).bind fun t1351=>(laws_FnFourRefuse.j2 kj25 t1314 t1351 t1309 t1310)) = some r:=by rw [if_neg (show ¬ (false = true) by decide)] at H;exact H
                     clear H;have H:=H1;clear H1;replace H:=Option.bind_eq_some_iff.mp H;obtain ⟨t1351,A890,H⟩:=H;replace H : (laws_FnFourRefuse.j2 kj25 t1314 t1351 t1309 t1310) = some r:=H;have A89:=A_ A890;clear A890;have H':=A_ H;clear H;have hcz90_0 : wc.cell? ⟨gb1313,0,none⟩ = some (.int .i64 t1309):=blk_cell BK1313.out 0;have hcz90_1 : wc.cell? ⟨gb1313,1,none⟩ = some (.slice Ao12 t1310.length co12):=blk_cell BK1313.out 1;have hfz90_0:=blk_frozen BK1313.out 0;have hfz90_1:=blk_frozen BK1313.out 1;have p1344 : 0 ≤ ((rd t1314 0) : Int):=of_decide_eq_true (by first|(with_reducible assumption)|assumption);have q1344 : (rd t1314 0) < (t1310.length : Int):=of_decide_eq_true (by first|(with_reducible assumption)|assumption);obtain ⟨ad1344,e1344,hx1344_0⟩:=Kd.at_int (Kd.R_reads' HO_1314001.out).2.2 (rd t1314 0) p1344 q1344;cases e1344
                     replace p1344:=eq_true p1344;replace q1344:=eq_true q1344;go_wp2_with (first|(go_at_call 17;(with_reducible refine (laws_pIn.calls (rd t1310 (rd t1314 0)) (rd t1314 1) true _ A80.out).mono ?_);rintro e w' ⟨rfl,⟨nd,rfl⟩⟩;(try first|exact ⟨rfl,_,World.drewN_drewN _ _ _⟩|exact ⟨rfl,_,Eq.trans (World.drewN_drewN _ _ _) (congrArg (World.drewN _) (Nat.add_assoc _ _ _))⟩);have p1346 : 0 ≤ ((rd t1314 2) : Int):=of_decide_eq_true (by first|(with_reducible assumption)|assumption);have q1346 : (rd t1314 2) < (t1310.length : Int):=of_decide_eq_true (by first|(with_reducible assumption)|assumption);obtain ⟨ad1346,e1346,hx1346_0⟩:=Kd.at_int (Kd.R_reads' HO_1314001.out).2.2 (rd t1314 2) p1346 q1346;obtain rfl : ad1344 = ad1346:=(by injection e1346);replace p1346:=eq_true p1346;replace q1346:=eq_true q1346)|(go_at_call 17;(with_reducible refine (laws_pIn.calls (rd t1310 (rd t1314 2)) (rd t1314 3) true _ A84.out).mono ?_);rintro e w' ⟨rfl,⟨nd,rfl⟩⟩;(try first|exact ⟨rfl,_,World.drewN_drewN _ _ _⟩|exact ⟨rfl,_,Eq.trans (World.drewN_drewN _ _ _) (congrArg (World.drewN _) (Nat.add_assoc _ _ _))⟩);have p1348 : 0 ≤ ((rd t1314 0) : Int):=of_decide_eq_true (by first|(with_reducible assumption)|assumption);have q1348 : (rd t1314 0) < (t1310.length : Int):=of_decide_eq_true (by first|(with_reducible assumption)|assumption);obtain ⟨ad1348,e1348,hx1348_0⟩:=Kd.at_int (Kd.R_reads' HO_1314001.out).2.2 (rd t1314 0) p1348 q1348;obtain rfl : ad1344 = ad1348:=(by injection e1348);replace p1348:=eq_true p1348;replace q1348:=eq_true q1348)|(go_at_call 17;(with_reducible refine (laws_pIn.calls (rd t1310 (rd t1314 0)) (rd t1314 3) false _ A86.out).mono ?_);rintro e w' ⟨rfl,⟨nd,rfl⟩⟩;(try first|exact ⟨rfl,_,World.drewN_drewN _ _ _⟩|exact ⟨rfl,_,Eq.trans (World.drewN_drewN _ _ _) (congrArg (World.drewN _) (Nat.add_assoc _ _ _))⟩);have p1350 : 0 ≤ ((rd t1314 2) : Int):=of_decide_eq_true (by first|(with_reducible assumption)|assumption);have q1350 : (rd t1314 2) < (t1310.length : Int):=of_decide_eq_true (by first|(with_reducible assumption)|assumption);obtain ⟨ad1350,e1350,hx1350_0⟩:=Kd.at_int (Kd.R_reads' HO_1314001.out).2.2 (rd t1314 2) p1350 q1350;obtain rfl : ad1344 = ad1350:=(by injection e1350);replace p1350:=eq_true p1350;replace q1350:=eq_true q1350)|(go_at_call 17;(with_reducible refine (laws_pIn.calls (rd t1310 (rd t1314 2)) (rd t1314 1) t1351 _ A89.out).mono ?_);rintro e w' ⟨rfl,⟨nd,rfl⟩⟩;(try first|exact ⟨rfl,_,World.drewN_drewN _ _ _⟩|exact ⟨rfl,_,Eq.trans (World.drewN_drewN _ _ _) (congrArg (World.drewN _) (Nat.add_assoc _ _ _))⟩)))
                     repeat (go_quiet (first|(go_at_call 17;(with_reducible refine (laws_pIn.calls (rd t1310 (rd t1314 0)) (rd t1314 1) true _ A80.out).mono ?_);rintro e w' ⟨rfl,⟨nd,rfl⟩⟩;(try first|exact ⟨rfl,_,World.drewN_drewN _ _ _⟩|exact ⟨rfl,_,Eq.trans (World.drewN_drewN _ _ _) (congrArg (World.drewN _) (Nat.add_assoc _ _ _))⟩);have p1346 : 0 ≤ ((rd t1314 2) : Int):=of_decide_eq_true (by first|(with_reducible assumption)|assumption);have q1346 : (rd t1314 2) < (t1310.length : Int):=of_decide_eq_true (by first|(with_reducible assumption)|assumption);obtain ⟨ad1346,e1346,hx1346_0⟩:=Kd.at_int (Kd.R_reads' HO_1314001.out).2.2 (rd t1314 2) p1346 q1346;obtain rfl : ad1344 = ad1346:=(by injection e1346);replace p1346:=eq_true p1346;replace q1346:=eq_true q1346)|(go_at_call 17;(with_reducible refine (laws_pIn.calls (rd t1310 (rd t1314 2)) (rd t1314 3) true _ A84.out).mono ?_);rintro e w' ⟨rfl,⟨nd,rfl⟩⟩;(try first|exact ⟨rfl,_,World.drewN_drewN _ _ _⟩|exact ⟨rfl,_,Eq.trans (World.drewN_drewN _ _ _) (congrArg (World.drewN _) (Nat.add_assoc _ _ _))⟩);have p1348 : 0 ≤ ((rd t1314 0) : Int):=of_decide_eq_true (by first|(with_reducible assumption)|assumption);have q1348 : (rd t1314 0) < (t1310.length : Int):=of_decide_eq_true (by first|(with_reducible assumption)|assumption);obtain ⟨ad1348,e1348,hx1348_0⟩:=Kd.at_int (Kd.R_reads' HO_1314001.out).2.2 (rd t1314 0) p1348 q1348;obtain rfl : ad1344 = ad1348:=(by injection e1348);replace p1348:=eq_true p1348;replace q1348:=eq_true q1348)|(go_at_call 17;(with_reducible refine (laws_pIn.calls (rd t1310 (rd t1314 0)) (rd t1314 3) false _ A86.out).mono ?_);rintro e w' ⟨rfl,⟨nd,rfl⟩⟩;(try first|exact ⟨rfl,_,World.drewN_drewN _ _ _⟩|exact ⟨rfl,_,Eq.trans (World.drewN_drewN _ _ _) (congrArg (World.drewN _) (Nat.add_assoc _ _ _))⟩);have p1350 : 0 ≤ ((rd t1314 2) : Int):=of_decide_eq_true (by first|(with_reducible assumption)|assumption);have q1350 : (rd t1314 2) < (t1310.length : Int):=of_decide_eq_true (by first|(with_reducible assumption)|assumption);obtain ⟨ad1350,e1350,hx1350_0⟩:=Kd.at_int (Kd.R_reads' HO_1314001.out).2.2 (rd t1314 2) p1350 q1350;obtain rfl : ad1344 = ad1350:=(by injection e1350);replace p1350:=eq_true p1350;replace q1350:=eq_true q1350)|(go_at_call 17;(with_reducible refine (laws_pIn.calls (rd t1310 (rd t1314 2)) (rd t1314 1) t1351 _ A89.out).mono ?_);rintro e w' ⟨rfl,⟨nd,rfl⟩⟩;(try first|exact ⟨rfl,_,World.drewN_drewN _ _ _⟩|exact ⟨rfl,_,Eq.trans (World.drewN_drewN _ _ _) (congrArg (World.drewN _) (Nat.add_assoc _ _ _))⟩)));try go_wp2_with (first|(go_at_call 17;(with_reducible refine (laws_pIn.calls (rd t1310 (rd t1314 0)) (rd t1314 1) true _ A80.out).mono ?_);rintro e w' ⟨rfl,⟨nd,rfl⟩⟩;(try first|exact ⟨rfl,_,World.drewN_drewN _ _ _⟩|exact ⟨rfl,_,Eq.trans (World.drewN_drewN _ _ _) (congrArg (World.drewN _) (Nat.add_assoc _ _ _))⟩);have p1346 : 0 ≤ ((rd t1314 2) : Int):=of_decide_eq_true (by first|(with_reducible assumption)|assumption);have q1346 : (rd t1314 2) < (t1310.length : Int):=of_decide_eq_true (by first|(with_reducible assumption)|assumption);obtain ⟨ad1346,e1346,hx1346_0⟩:=Kd.at_int (Kd.R_reads' HO_1314001.out).2.2 (rd t1314 2) p1346 q1346;obtain rfl : ad1344 = ad1346:=(by injection e1346);replace p1346:=eq_true p1346;replace q1346:=eq_true q1346)|(go_at_call 17;(with_reducible refine (laws_pIn.calls (rd t1310 (rd t1314 2)) (rd t1314 3) true _ A84.out).mono ?_);rintro e w' ⟨rfl,⟨nd,rfl⟩⟩;(try first|exact ⟨rfl,_,World.drewN_drewN _ _ _⟩|exact ⟨rfl,_,Eq.trans (World.drewN_drewN _ _ _) (congrArg (World.drewN _) (Nat.add_assoc _ _ _))⟩);have p1348 : 0 ≤ ((rd t1314 0) : Int):=of_decide_eq_true (by first|(with_reducible assumption)|assumption);have q1348 : (rd t1314 0) < (t1310.length : Int):=of_decide_eq_true (by first|(with_reducible assumption)|assumption);obtain ⟨ad1348,e1348,hx1348_0⟩:=Kd.at_int (Kd.R_reads' HO_1314001.out).2.2 (rd t1314 0) p1348 q1348;obtain rfl : ad1344 = ad1348:=(by injection e1348);replace p1348:=eq_true p1348;replace q1348:=eq_true q1348)|(go_at_call 17;(with_reducible refine (laws_pIn.calls (rd t1310 (rd t1314 0)) (rd t1314 3) false _ A86.out).mono ?_);rintro e w' ⟨rfl,⟨nd,rfl⟩⟩;(try first|exact ⟨rfl,_,World.drewN_drewN _ _ _⟩|exact ⟨rfl,_,Eq.trans (World.drewN_drewN _ _ _) (congrArg (World.drewN _) (Nat.add_assoc _ _ _))⟩);have p1350 : 0 ≤ ((rd t1314 2) : Int):=of_decide_eq_true (by first|(with_reducible assumption)|assumption);have q1350 : (rd t1314 2) < (t1310.length : Int):=of_decide_eq_true (by first|(with_reducible assumption)|assumption);obtain ⟨ad1350,e1350,hx1350_0⟩:=Kd.at_int (Kd.R_reads' HO_1314001.out).2.2 (rd t1314 2) p1350 q1350;obtain rfl : ad1344 = ad1350:=(by injection e1350);replace p1350:=eq_true p1350;replace q1350:=eq_true q1350)|(go_at_call 17;(with_reducible refine (laws_pIn.calls (rd t1310 (rd t1314 2)) (rd t1314 1) t1351 _ A89.out).mono ?_);rintro e w' ⟨rfl,⟨nd,rfl⟩⟩;(try first|exact ⟨rfl,_,World.drewN_drewN _ _ _⟩|exact ⟨rfl,_,Eq.trans (World.drewN_drewN _ _ _) (congrArg (World.drewN _) (Nat.add_assoc _ _ _))⟩))))
                     go_meet
                     case rel=>exact ⟨_,(t1351),(by first|rfl|(simp;done)|(simp [*];done)),H',⟨by have:=HJ7.out;have:=HJ25.out;first|omega|exact Nat.le_refl _⟩,⟨by (with_reducible repeat (first|apply Kd.R_alloc|apply Kd.R_drewN|apply Kd.R_drew));exact HO_6.out⟩,⟨by (with_reducible repeat (first|apply Kd.R_alloc|apply Kd.R_drewN|apply Kd.R_drew));exact HO_1314001.out⟩,⟨bl_ BK1313⟩,⟨bb_⟩⟩
                   ·replace c85:=Bool.eq_false_iff.mpr c85;subst c85;have H1 : (laws_FnFourRefuse.j2 kj25 t1314 true t1309 t1310) = some r:=by rw [if_neg (show ¬ (false = true) by decide)] at H;exact H
                    clear H;have H:=H1;clear H1;have H':=A_ H;clear H;have hcz91_0 : wc.cell? ⟨gb1313,0,none⟩ = some (.int .i64 t1309):=blk_cell BK1313.out 0;have hcz91_1 : wc.cell? ⟨gb1313,1,none⟩ = some (.slice Ao12 t1310.length co12):=blk_cell BK1313.out 1;have hfz91_0:=blk_frozen BK1313.out 0;have hfz91_1:=blk_frozen BK1313.out 1;have p1344 : 0 ≤ ((rd t1314 0) : Int):=of_decide_eq_true (by first|(with_reducible assumption)|assumption);have q1344 : (rd t1314 0) < (t1310.length : Int):=of_decide_eq_true (by first|(with_reducible assumption)|assumption);obtain ⟨ad1344,e1344,hx1344_0⟩:=Kd.at_int (Kd.R_reads' HO_1314001.out).2.2 (rd t1314 0) p1344 q1344;cases e1344
                    replace p1344:=eq_true p1344;replace q1344:=eq_true q1344;go_wp2_with (first|(go_at_call 17;(with_reducible refine (laws_pIn.calls (rd t1310 (rd t1314 0)) (rd t1314 1) true _ A80.out).mono ?_);rintro e w' ⟨rfl,⟨nd,rfl⟩⟩;(try first|exact ⟨rfl,_,World.drewN_drewN _ _ _⟩|exact ⟨rfl,_,Eq.trans (World.drewN_drewN _ _ _) (congrArg (World.drewN _) (Nat.add_assoc _ _ _))⟩);have p1346 : 0 ≤ ((rd t1314 2) : Int):=of_decide_eq_true (by first|(with_reducible assumption)|assumption);have q1346 : (rd t1314 2) < (t1310.length : Int):=of_decide_eq_true (by first|(with_reducible assumption)|assumption);obtain ⟨ad1346,e1346,hx1346_0⟩:=Kd.at_int (Kd.R_reads' HO_1314001.out).2.2 (rd t1314 2) p1346 q1346;obtain rfl : ad1344 = ad1346:=(by injection e1346);replace p1346:=eq_true p1346;replace q1346:=eq_true q1346)|(go_at_call 17;(with_reducible refine (laws_pIn.calls (rd t1310 (rd t1314 2)) (rd t1314 3) false _ A84.out).mono ?_);rintro e w' ⟨rfl,⟨nd,rfl⟩⟩;(try first|exact ⟨rfl,_,World.drewN_drewN _ _ _⟩|exact ⟨rfl,_,Eq.trans (World.drewN_drewN _ _ _) (congrArg (World.drewN _) (Nat.add_assoc _ _ _))⟩)))
                    repeat (go_quiet (first|(go_at_call 17;(with_reducible refine (laws_pIn.calls (rd t1310 (rd t1314 0)) (rd t1314 1) true _ A80.out).mono ?_);rintro e w' ⟨rfl,⟨nd,rfl⟩⟩;(try first|exact ⟨rfl,_,World.drewN_drewN _ _ _⟩|exact ⟨rfl,_,Eq.trans (World.drewN_drewN _ _ _) (congrArg (World.drewN _) (Nat.add_assoc _ _ _))⟩);have p1346 : 0 ≤ ((rd t1314 2) : Int):=of_decide_eq_true (by first|(with_reducible assumption)|assumption);have q1346 : (rd t1314 2) < (t1310.length : Int):=of_decide_eq_true (by first|(with_reducible assumption)|assumption);obtain ⟨ad1346,e1346,hx1346_0⟩:=Kd.at_int (Kd.R_reads' HO_1314001.out).2.2 (rd t1314 2) p1346 q1346;obtain rfl : ad1344 = ad1346:=(by injection e1346);replace p1346:=eq_true p1346;replace q1346:=eq_true q1346)|(go_at_call 17;(with_reducible refine (laws_pIn.calls (rd t1310 (rd t1314 2)) (rd t1314 3) false _ A84.out).mono ?_);rintro e w' ⟨rfl,⟨nd,rfl⟩⟩;(try first|exact ⟨rfl,_,World.drewN_drewN _ _ _⟩|exact ⟨rfl,_,Eq.trans (World.drewN_drewN _ _ _) (congrArg (World.drewN _) (Nat.add_assoc _ _ _))⟩)));try go_wp2_with (first|(go_at_call 17;(with_reducible refine (laws_pIn.calls (rd t1310 (rd t1314 0)) (rd t1314 1) true _ A80.out).mono ?_);rintro e w' ⟨rfl,⟨nd,rfl⟩⟩;(try first|exact ⟨rfl,_,World.drewN_drewN _ _ _⟩|exact ⟨rfl,_,Eq.trans (World.drewN_drewN _ _ _) (congrArg (World.drewN _) (Nat.add_assoc _ _ _))⟩);have p1346 : 0 ≤ ((rd t1314 2) : Int):=of_decide_eq_true (by first|(with_reducible assumption)|assumption);have q1346 : (rd t1314 2) < (t1310.length : Int):=of_decide_eq_true (by first|(with_reducible assumption)|assumption);obtain ⟨ad1346,e1346,hx1346_0⟩:=Kd.at_int (Kd.R_reads' HO_1314001.out).2.2 (rd t1314 2) p1346 q1346;obtain rfl : ad1344 = ad1346:=(by injection e1346);replace p1346:=eq_true p1346;replace q1346:=eq_true q1346)|(go_at_call 17;(with_reducible refine (laws_pIn.calls (rd t1310 (rd t1314 2)) (rd t1314 3) false _ A84.out).mono ?_);rintro e w' ⟨rfl,⟨nd,rfl⟩⟩;(try first|exact ⟨rfl,_,World.drewN_drewN _ _ _⟩|exact ⟨rfl,_,Eq.trans (World.drewN_drewN _ _ _) (congrArg (World.drewN _) (Nat.add_assoc _ _ _))⟩))))
                    go_meet
                    case rel=>exact ⟨_,(true),(by first|rfl|(simp;done)|(simp [*];done)),H',⟨by have:=HJ7.out;have:=HJ25.out;first|omega|exact Nat.le_refl _⟩,⟨by (with_reducible repeat (first|apply Kd.R_alloc|apply Kd.R_drewN|apply Kd.R_drew));exact HO_6.out⟩,⟨by (with_reducible repeat (first|apply Kd.R_alloc|apply Kd.R_drewN|apply Kd.R_drew));exact HO_1314001.out⟩,⟨bl_ BK1313⟩,⟨bb_⟩⟩
                  ·rw [if_neg c83] at H;exact absurd H (by simp)
                 ·rw [if_neg c82] at H;exact absurd H (by simp)
                ·replace c81:=Bool.eq_false_iff.mpr c81;subst c81;have H1 : (laws_FnFourRefuse.j2 kj25 t1314 true t1309 t1310) = some r:=by rw [if_neg (show ¬ (false = true) by decide)] at H;exact H
                 clear H;have H:=H1;clear H1;have H':=A_ H;clear H;have hcz92_0 : wc.cell? ⟨gb1313,0,none⟩ = some (.int .i64 t1309):=blk_cell BK1313.out 0;have hcz92_1 : wc.cell? ⟨gb1313,1,none⟩ = some (.slice Ao12 t1310.length co12):=blk_cell BK1313.out 1;have hfz92_0:=blk_frozen BK1313.out 0;have hfz92_1:=blk_frozen BK1313.out 1;have p1344 : 0 ≤ ((rd t1314 0) : Int):=of_decide_eq_true (by first|(with_reducible assumption)|assumption);have q1344 : (rd t1314 0) < (t1310.length : Int):=of_decide_eq_true (by first|(with_reducible assumption)|assumption);obtain ⟨ad1344,e1344,hx1344_0⟩:=Kd.at_int (Kd.R_reads' HO_1314001.out).2.2 (rd t1314 0) p1344 q1344;cases e1344
                 replace p1344:=eq_true p1344;replace q1344:=eq_true q1344;go_wp2_with (first|(go_at_call 17;(with_reducible refine (laws_pIn.calls (rd t1310 (rd t1314 0)) (rd t1314 1) false _ A80.out).mono ?_);rintro e w' ⟨rfl,⟨nd,rfl⟩⟩;(try first|exact ⟨rfl,_,World.drewN_drewN _ _ _⟩|exact ⟨rfl,_,Eq.trans (World.drewN_drewN _ _ _) (congrArg (World.drewN _) (Nat.add_assoc _ _ _))⟩)))
                 repeat (go_quiet (first|(go_at_call 17;(with_reducible refine (laws_pIn.calls (rd t1310 (rd t1314 0)) (rd t1314 1) false _ A80.out).mono ?_);rintro e w' ⟨rfl,⟨nd,rfl⟩⟩;(try first|exact ⟨rfl,_,World.drewN_drewN _ _ _⟩|exact ⟨rfl,_,Eq.trans (World.drewN_drewN _ _ _) (congrArg (World.drewN _) (Nat.add_assoc _ _ _))⟩)));try go_wp2_with (first|(go_at_call 17;(with_reducible refine (laws_pIn.calls (rd t1310 (rd t1314 0)) (rd t1314 1) false _ A80.out).mono ?_);rintro e w' ⟨rfl,⟨nd,rfl⟩⟩;(try first|exact ⟨rfl,_,World.drewN_drewN _ _ _⟩|exact ⟨rfl,_,Eq.trans (World.drewN_drewN _ _ _) (congrArg (World.drewN _) (Nat.add_assoc _ _ _))⟩))))
                 go_meet
                 case rel=>exact ⟨_,(true),(by first|rfl|(simp;done)|(simp [*];done)),H',⟨by have:=HJ7.out;have:=HJ25.out;first|omega|exact Nat.le_refl _⟩,⟨by (with_reducible repeat (first|apply Kd.R_alloc|apply Kd.R_drewN|apply Kd.R_drew));exact HO_6.out⟩,⟨by (with_reducible repeat (first|apply Kd.R_alloc|apply Kd.R_drewN|apply Kd.R_drew));exact HO_1314001.out⟩,⟨bl_ BK1313⟩,⟨bb_⟩⟩
               ·rw [if_neg c79] at H;exact absurd H (by simp)
              ·rw [if_neg c78] at H;exact absurd H (by simp)
             case rest =>
              clear HC76;try clear c1
              try clear p1
              try clear q1
              try clear hx1
              try clear qi1
              try clear c2
              try clear p2
              try clear c3
              try clear c4
              try clear c5
              try clear c6
              try clear c7
              try clear c8
              try clear p13
              try clear q13
              try clear hx13
              try clear qi13
              try clear c16
              try clear c16b0
              try clear c16b1
              try clear c16b2
              try clear c20
              try clear c38
              try clear c38b0
              try clear c38b1
              try clear c38b2
              try clear c41
              try clear c42
              try clear c42b0
              try clear c42b1
              try clear c42b2
              try clear c45
              try clear c45b0
              try clear c45b1
              try clear c45b2
              try clear c48
              try clear c48b0
              try clear c48b1
              try clear c48b2
              try clear c51
              try clear c51b0
              try clear c51b1
              try clear c51b2
              try clear c56
              try clear c56b0
              try clear c56b1
              try clear c56b2
              try clear c59
              try clear c59b0
              try clear c59b1
              try clear c59b2
              try clear c62
              try clear c62b0
              try clear c62b1
              try clear c62b2
              try clear c65
              try clear c65b0
              try clear c65b1
              try clear c65b2
              try clear c70
              try clear c71
              try clear c72
              try clear c72b0
              try clear c72b1
              try clear c73
              try clear c73b0
              try clear c73b1
              try clear c74
              try clear c74b0
              try clear c74b1
              try clear c75
              try clear c75b0
              try clear c75b1
              try clear c78
              try clear c78b0
              try clear c79
              try clear c79b0
              try clear c81
              try clear c82
              try clear c82b0
              try clear c83
              try clear c83b0
              try clear c85
              try clear c87
              try clear hcz11_0
              try clear hcz11_1
              try clear hcz14_0
              try clear hcz14_1
              try clear hcz27_0
              try clear hcz27_1
              try clear hcz29_0
              try clear hcz29_1
              try clear hcz31_0
              try clear hcz31_1
              try clear hcz33_0
              try clear hcz33_1
              try clear hcz35_0
              try clear hcz35_1
              try clear hcz39_0
              try clear hcz39_1
              try clear hcz43_0
              try clear hcz43_1
              try clear hcz46_0
              try clear hcz46_1
              try clear hcz49_0
              try clear hcz49_1
              try clear hcz52_0
              try clear hcz52_1
              try clear hcz54_0
              try clear hcz54_1
              try clear hcz57_0
              try clear hcz57_1
              try clear hcz60_0
              try clear hcz60_1
              try clear hcz63_0
              try clear hcz63_1
              try clear hcz66_0
              try clear hcz66_1
              try clear hcz68_0
              try clear hcz68_1
              try clear hcz88_0
              try clear hcz88_1
              try clear hcz90_0
              try clear hcz90_1
              try clear hcz91_0
              try clear hcz91_1
              try clear hcz92_0
              try clear hcz92_1
              try clear hfz11_0
              try clear hfz11_1
              try clear hfz14_0
              try clear hfz14_1
              try clear hfz27_0
              try clear hfz27_1
              try clear hfz29_0
              try clear hfz29_1
              try clear hfz31_0
              try clear hfz31_1
              try clear hfz33_0
              try clear hfz33_1
              try clear hfz35_0
              try clear hfz35_1
              try clear hfz39_0
              try clear hfz39_1
              try clear hfz43_0
              try clear hfz43_1
              try clear hfz46_0
              try clear hfz46_1
              try clear hfz49_0
              try clear hfz49_1
              try clear hfz52_0
              try clear hfz52_1
              try clear hfz54_0
              try clear hfz54_1
              try clear hfz57_0
              try clear hfz57_1
              try clear hfz60_0
              try clear hfz60_1
              try clear hfz63_0
              try clear hfz63_1
              try clear hfz66_0
              try clear hfz66_1
              try clear hfz68_0
              try clear hfz68_1
              try clear hfz88_0
              try clear hfz88_1
              try clear hfz90_0
              try clear hfz90_1
              try clear hfz91_0
              try clear hfz91_1
              try clear hfz92_0
              try clear hfz92_1
              try clear hx1340_0
              try clear hx1341_0
              try clear hx1342_0
              try clear hx1343_0
              try clear hx1344_0
              try clear hx1346_0
              try clear hx1348_0
              try clear hx1350_0
              try clear p1340
              try clear p1341
              try clear p1342
              try clear p1343
              try clear p1344
              try clear p1346
              try clear p1348
              try clear p1350
              try clear p2
              try clear q1340
              try clear q1341
              try clear q1342
              try clear q1343
              try clear q1344
              try clear q1346
              try clear q1348
              try clear q1350
              obtain ⟨kq,x158_75,rfl,HA,HJ75,HO_6,HO_1314001,BK1313,HB⟩:=hcut;cases kq with
              | zero=>exact absurd HA.out (by simp [laws_FnFourRefuse.j2])
              | succ kj75 =>
               have H:=HA.out;clear HA;simp only [laws_FnFourRefuse.j2] at H
               by_cases c93 : x158_75 = true
               ·subst c93;have H1 : (some false) = some r:=by rw [if_pos rfl] at H;exact H
                clear H;have H:=H1;clear H1;obtain rfl:=Option.some.inj H;go_wp2
                repeat (go_quiet (fail);try go_wp2)
                go_ret
                exact ⟨by first|rfl|(simp [errW_none,errW_some] <;> rfl)|(simp [*,errW_none,errW_some] <;> rfl),bb_⟩
               ·replace c93:=Bool.eq_false_iff.mpr c93;subst c93;have H1 : ((impl_FindPattern.f kj75 t1309 t1310 4 (([2,0,8,0] : List Int))).bind fun bt1356=>(if bt1356.2 = true then ((laws_pSame.f kj75 bt1356.1 t1314).bind fun t1360=>(some t1360)) else (some false))) = some r:=by rw [if_neg (show ¬ (false = true) by decide)] at H;exact H
                clear H;have H:=H1;clear H1;obtain ⟨y1352,hy1352⟩ : ∃ y_ : List Int,y_ = (([2,0,8,0] : List Int)):=⟨_,rfl⟩;replace H : ((impl_FindPattern.f kj75 t1309 t1310 4 y1352).bind fun bt1356=>(if bt1356.2 = true then ((laws_pSame.f kj75 bt1356.1 t1314).bind fun t1360=>(some t1360)) else (some false))) = some r:=by first|(rw [hy1352];with_reducible exact H)|(have H2_:=(Option.bind_some _ _).symm.trans H;rw [hy1352];with_reducible exact H2_)|(have H2_:=(Option.bind_some _ _).symm.trans H;with_reducible exact H2_)|with_reducible exact H|(rw [hy1352];exact H)|exact H
                have Ny1352:=A_ hy1352;clear hy1352;replace H:=Option.bind_eq_some_iff.mp H;obtain ⟨⟨t1356,t1359⟩,A940,H⟩:=H;replace H : (if t1359 = true then ((laws_pSame.f kj75 t1356 t1314).bind fun t1360=>(some t1360)) else (some false)) = some r:=H;have A94:=A_ A940;clear A940;by_cases c95 : t1359 = true
                ·subst c95;have H1 : ((laws_pSame.f kj75 t1356 t1314).bind fun t1360=>(some t1360)) = some r:=by rw [if_pos rfl] at H;exact H
                 clear H;have H:=H1;clear H1;replace H:=Option.bind_eq_some_iff.mp H;obtain ⟨t1360,A960,H⟩:=H;replace H : (some t1360) = some r:=H;have A96:=A_ A960;clear A960;obtain rfl:=Option.some.inj H;go_wp2_with (first|((with_reducible refine gate_dst (N:=159) rfl ?_);refine Kd.R_lit (Kd.int .i64) _ 3 ?hg (N:=159) ?hd (xs:=([2,0,8,0] : List Int)) (inner:=[.int .i64 2,.int .i64 0,.int .i64 8,.int .i64 0]) (ok:=fun _=>True) (okp:=fun _=>True) ?hr ?hp (fun _ hk=>hk) trivial (Below.refl _ _) (Nat.le_refl _) (by simp) ?_;(case hd=>rfl);(case hg=>rfl);(case hr=>first|(go_simp;done)|(go_simp;rfl));(case hp=>exact (Reps.one (show Kd.M (Kd.int .i64) _ _ _ 2 [.int .i64 2] from rfl) (Reps.one (show Kd.M (Kd.int .i64) _ _ _ 0 [.int .i64 0] from rfl) (Reps.one (show Kd.M (Kd.int .i64) _ _ _ 8 [.int .i64 8] from rfl) (Reps.one (show Kd.M (Kd.int .i64) _ _ _ 0 [.int .i64 0] from rfl) (Reps.none _ _))))));intro v1353 w97 ho98 hb hg_ hnew_;clear hg_ hnew_;(first|rw [← Ny1352.out] at ho98|(simp only [Int.reduceToNat] at ho98;rw [← Ny1352.out] at ho98));have HO1354:=A_ (Kd.R_lower (Kd.R_new' (Kd.R_new' ho98 (Kd.R_lt (rl_ HO_6))) (Kd.R_lt (rl_ HO_1314001))) (below_size bb_));replace HO_6:=A_ (Kd.R_elder' (rl_ HO_6) (Kd.R_base ho98) hb);replace HO_1314001:=A_ (Kd.R_elder' (rl_ HO_1314001) (Kd.R_base ho98) hb);replace BK1313:=bz BK1313 hb;replace HB:=A_ (below_step bb_ hb);clear hb ho98;obtain ⟨Ao99,co99,eo99⟩:=Kd.R_slice HO1354.out;subst eo99)|((with_reducible refine gate_dst (N:=24) rfl ?_);refine box_event ?hg (N:=24) ?hd (cs:=#[.int .i64 0,.slice none 0 0]) (t:=26) ?hr ?_;(case hd=>rfl);(case hg=>rfl);(case hr=>first|(go_simp;done)|(go_simp;rfl));intro gb1355 hg w100 hbox hb;replace HO_6:=rb_ HO_6 hb;replace HO_1314001:=rb_ HO_1314001 hb;replace HO1354:=rb_ HO1354 hb;have BK1355:=A_ (hbox);have GW1355:=A_ ((by rw [hg];exact (below_size bb_) : w.heap.size ≤ gb1355));have GE1355:=A_ ((by rw [hg];exact (below_size bb_) : w.heap.size ≤ gb1355));replace HB:=A_ (below_step bb_ hb);have NB1313_1355:=A_ ((by rw [hg];exact Nat.ne_of_lt (blk_lt (bl_ BK1313)) : gb1313 ≠ gb1355));have NB1355_1313:=A_ ((by rw [hg];exact Nat.ne_of_gt (blk_lt (bl_ BK1313)) : gb1355 ≠ gb1313));replace BK1313:=bz BK1313 hb;clear hb hbox hg;have hnb101:=NB1355_1313.out;have hnc101:=NB1313_1355.out;have hcz102_0 : w100.cell? ⟨gb1355,0,none⟩ = some (.int .i64 0):=blk_cell BK1355.out 0;have hcz102_1 : w100.cell? ⟨gb1355,1,none⟩ = some (.slice none 0 0):=blk_cell BK1355.out 1;have hfz102_0:=blk_frozen BK1355.out 0;have hfz102_1:=blk_frozen BK1355.out 1;have hcz103_0 : w100.cell? ⟨gb1313,0,none⟩ = some (.int .i64 t1309):=blk_cell BK1313.out 0;have hcz103_1 : w100.cell? ⟨gb1313,1,none⟩ = some (.slice Ao12 t1310.length co12):=blk_cell BK1313.out 1;have hfz103_0:=blk_frozen BK1313.out 0;have hfz103_1:=blk_frozen BK1313.out 1)|(go_at_call 23;(with_reducible refine (impl_FindPattern.calls kj75 t1309 _ _ t1310 4 _ _ y1352 t1356 true _ ?side1 ?side2 ?side3 ?side4 A94.out).mono ?_);(case side1=>refine (Kd.R_reads' (e:=3) (base:=w.heap.size) (ok:=fun k_=>(some k_ ≠ (.slice (some ad1340) t1314.length co77 : Value).ownBlock ∧ some k_ ≠ (.slice Ao99 y1352.length co99 : Value).ownBlock)) (n:=t1310.length) (c:=co12) ?_).2.2;exact (by (with_reducible repeat (first|apply Kd.R_alloc|apply Kd.R_drewN|apply Kd.R_drew));exact (Kd.R_mono (Kd.R_far (p:=⟨gb1355,1,none⟩) (Kd.R_far (p:=⟨gb1355,0,none⟩) (Kd.R_types HO_1314001.out BK1355.out (by decide)) (fun _ hk=>hk.2) (.int .i64 4)) (fun _ hk=>hk.2) (.slice Ao99 y1352.length co99)) (fun _ h_=>h_.1))));(case side2=>exact (Kd.R_reads' HO_1314001.out).2.1);(case side3=>refine (Kd.R_reads' (e:=3) (base:=w.heap.size) (ok:=fun k_=>((True ∧ some k_ ≠ (.slice (some ad1340) t1314.length co77 : Value).ownBlock) ∧ some k_ ≠ (.slice Ao12 t1310.length co12 : Value).ownBlock)) (n:=y1352.length) (c:=co99) ?_).2.2;exact (by (with_reducible repeat (first|apply Kd.R_alloc|apply Kd.R_drewN|apply Kd.R_drew));exact (Kd.R_mono (Kd.R_far (p:=⟨gb1355,1,none⟩) (Kd.R_far (p:=⟨gb1355,0,none⟩) (Kd.R_types HO1354.out BK1355.out (by decide)) (fun _ hk=>hk.2) (.int .i64 4)) (fun _ hk=>hk.2) (.slice Ao99 y1352.length co99)) (fun _ h_=>h_.1))));(case side4=>exact (Kd.R_reads' HO1354.out).2.1);rintro e w104 ⟨v1357,rfl,ho0,hb⟩;have HO1358:=A_ (Kd.R_lower (Kd.R_new' (Kd.R_new' (Kd.R_new' ho0 (Kd.R_lt (by (with_reducible repeat (first|apply Kd.R_alloc|apply Kd.R_drewN|apply Kd.R_drew));exact (Kd.R_mono (Kd.R_far (p:=⟨gb1355,1,none⟩) (Kd.R_far (p:=⟨gb1355,0,none⟩) (Kd.R_types HO_6.out BK1355.out (by decide)) (fun _ hk=>hk.2) (.int .i64 4)) (fun _ hk=>hk.2) (.slice Ao99 y1352.length co99)) (fun _ h_=>h_.1))))) (Kd.R_lt (by (with_reducible repeat (first|apply Kd.R_alloc|apply Kd.R_drewN|apply Kd.R_drew));exact (Kd.R_mono (Kd.R_far (p:=⟨gb1355,1,none⟩) (Kd.R_far (p:=⟨gb1355,0,none⟩) (Kd.R_types HO_1314001.out BK1355.out (by decide)) (fun _ hk=>hk.2) (.int .i64 4)) (fun _ hk=>hk.2) (.slice Ao99 y1352.length co99)) (fun _ h_=>h_.1))))) (Kd.R_lt (by (with_reducible repeat (first|apply Kd.R_alloc|apply Kd.R_drewN|apply Kd.R_drew));exact (Kd.R_mono (Kd.R_far (p:=⟨gb1355,1,none⟩) (Kd.R_far (p:=⟨gb1355,0,none⟩) (Kd.R_types HO1354.out BK1355.out (by decide)) (fun _ hk=>hk.2) (.int .i64 4)) (fun _ hk=>hk.2) (.slice Ao99 y1352.length co99)) (fun _ h_=>h_.1))))) (below_size bb_));replace HO_6:=A_ (Kd.R_elder' (by (with_reducible repeat (first|apply Kd.R_alloc|apply Kd.R_drewN|apply Kd.R_drew));exact (Kd.R_mono (Kd.R_far (p:=⟨gb1355,1,none⟩) (Kd.R_far (p:=⟨gb1355,0,none⟩) (Kd.R_types HO_6.out BK1355.out (by decide)) (fun _ hk=>hk.2) (.int .i64 4)) (fun _ hk=>hk.2) (.slice Ao99 y1352.length co99)) (fun _ h_=>h_.1))) (Kd.R_base ho0) hb);replace HO_1314001:=A_ (Kd.R_elder' (by (with_reducible repeat (first|apply Kd.R_alloc|apply Kd.R_drewN|apply Kd.R_drew));exact (Kd.R_mono (Kd.R_far (p:=⟨gb1355,1,none⟩) (Kd.R_far (p:=⟨gb1355,0,none⟩) (Kd.R_types HO_1314001.out BK1355.out (by decide)) (fun _ hk=>hk.2) (.int .i64 4)) (fun _ hk=>hk.2) (.slice Ao99 y1352.length co99)) (fun _ h_=>h_.1))) (Kd.R_base ho0) hb);replace HO1354:=A_ (Kd.R_elder' (by (with_reducible repeat (first|apply Kd.R_alloc|apply Kd.R_drewN|apply Kd.R_drew));exact (Kd.R_mono (Kd.R_far (p:=⟨gb1355,1,none⟩) (Kd.R_far (p:=⟨gb1355,0,none⟩) (Kd.R_types HO1354.out BK1355.out (by decide)) (fun _ hk=>hk.2) (.int .i64 4)) (fun _ hk=>hk.2) (.slice Ao99 y1352.length co99)) (fun _ h_=>h_.1))) (Kd.R_base ho0) hb);replace BK1313:=A_ (blk_below (g:=gb1313) (o:=.cells #[.int .i64 t1309,.slice Ao12 t1310.length co12] 26 (0,0)) (by (with_reducible repeat (first|refine blk_drewN ?_ _|refine blk_drew ?_|refine blk_alloc ?_ _));refine blk_far ?_ NB1313_1355.out _;(with_reducible repeat (first|refine blk_drewN ?_ _|refine blk_drew ?_|refine blk_alloc ?_ _));refine blk_far ?_ NB1313_1355.out _;(with_reducible repeat (first|refine blk_drewN ?_ _|refine blk_drew ?_|refine blk_alloc ?_ _));exact BK1313.out) hb);replace BK1355:=A_ (blk_below (g:=gb1355) (o:=.cells #[.int .i64 4,.slice Ao99 y1352.length co99] 26 (0,0)) (by (with_reducible repeat (first|refine blk_drewN ?_ _|refine blk_drew ?_|refine blk_alloc ?_ _));refine blk_put (cs:=#[.int .i64 4,.slice none 0 0]) ?_ 1 _ rfl;(with_reducible repeat (first|refine blk_drewN ?_ _|refine blk_drew ?_|refine blk_alloc ?_ _));refine blk_put (cs:=#[.int .i64 0,.slice none 0 0]) ?_ 0 _ rfl;(with_reducible repeat (first|refine blk_drewN ?_ _|refine blk_drew ?_|refine blk_alloc ?_ _));exact BK1355.out) hb);replace HB:=A_ (below_step bb_ hb);(try clear hb);(try clear hb2);(try clear hk);(try clear hi);(try clear ho0);obtain ⟨Ao105,co105,eo105⟩:=Kd.R_slice HO1358.out;subst eo105)|(go_at_call 25;(with_reducible refine (laws_pSame.calls kj75 _ _ t1356 _ _ t1314 t1360 _ ?side1 ?side2 ?side3 ?side4 A96.out).mono ?_);(case side1=>exact cl_ (Kd.R_reads' HO1358.out).2.2);(case side2=>exact (Kd.R_reads' HO1358.out).2.1);(case side3=>exact cl_ (Kd.R_reads' HO_6.out).2.2);(case side4=>exact (Kd.R_reads' HO_6.out).2.1);rintro e w' ⟨rfl,⟨nd,rfl⟩⟩;(try first|exact ⟨rfl,_,World.drewN_drewN _ _ _⟩|exact ⟨rfl,_,Eq.trans (World.drewN_drewN _ _ _) (congrArg (World.drewN _) (Nat.add_assoc _ _ _))⟩)))
                 repeat (go_quiet (first|((with_reducible refine gate_dst (N:=159) rfl ?_);refine Kd.R_lit (Kd.int .i64) _ 3 ?hg (N:=159) ?hd (xs:=([2,0,8,0] : List Int)) (inner:=[.int .i64 2,.int .i64 0,.int .i64 8,.int .i64 0]) (ok:=fun _=>True) (okp:=fun _=>True) ?hr ?hp (fun _ hk=>hk) trivial (Below.refl _ _) (Nat.le_refl _) (by simp) ?_;(case hd=>rfl);(case hg=>rfl);(case hr=>first|(go_simp;done)|(go_simp;rfl));(case hp=>exact (Reps.one (show Kd.M (Kd.int .i64) _ _ _ 2 [.int .i64 2] from rfl) (Reps.one (show Kd.M (Kd.int .i64) _ _ _ 0 [.int .i64 0] from rfl) (Reps.one (show Kd.M (Kd.int .i64) _ _ _ 8 [.int .i64 8] from rfl) (Reps.one (show Kd.M (Kd.int .i64) _ _ _ 0 [.int .i64 0] from rfl) (Reps.none _ _))))));intro v1353 w97 ho98 hb hg_ hnew_;clear hg_ hnew_;(first|rw [← Ny1352.out] at ho98|(simp only [Int.reduceToNat] at ho98;rw [← Ny1352.out] at ho98));have HO1354:=A_ (Kd.R_lower (Kd.R_new' (Kd.R_new' ho98 (Kd.R_lt (rl_ HO_6))) (Kd.R_lt (rl_ HO_1314001))) (below_size bb_));replace HO_6:=A_ (Kd.R_elder' (rl_ HO_6) (Kd.R_base ho98) hb);replace HO_1314001:=A_ (Kd.R_elder' (rl_ HO_1314001) (Kd.R_base ho98) hb);replace BK1313:=bz BK1313 hb;replace HB:=A_ (below_step bb_ hb);clear hb ho98;obtain ⟨Ao99,co99,eo99⟩:=Kd.R_slice HO1354.out;subst eo99)|((with_reducible refine gate_dst (N:=24) rfl ?_);refine box_event ?hg (N:=24) ?hd (cs:=#[.int .i64 0,.slice none 0 0]) (t:=26) ?hr ?_;(case hd=>rfl);(case hg=>rfl);(case hr=>first|(go_simp;done)|(go_simp;rfl));intro gb1355 hg w100 hbox hb;replace HO_6:=rb_ HO_6 hb;replace HO_1314001:=rb_ HO_1314001 hb;replace HO1354:=rb_ HO1354 hb;have BK1355:=A_ (hbox);have GW1355:=A_ ((by rw [hg];exact (below_size bb_) : w.heap.size ≤ gb1355));have GE1355:=A_ ((by rw [hg];exact (below_size bb_) : w.heap.size ≤ gb1355));replace HB:=A_ (below_step bb_ hb);have NB1313_1355:=A_ ((by rw [hg];exact Nat.ne_of_lt (blk_lt (bl_ BK1313)) : gb1313 ≠ gb1355));have NB1355_1313:=A_ ((by rw [hg];exact Nat.ne_of_gt (blk_lt (bl_ BK1313)) : gb1355 ≠ gb1313));replace BK1313:=bz BK1313 hb;clear hb hbox hg;have hnb101:=NB1355_1313.out;have hnc101:=NB1313_1355.out;have hcz102_0 : w100.cell? ⟨gb1355,0,none⟩ = some (.int .i64 0):=blk_cell BK1355.out 0;have hcz102_1 : w100.cell? ⟨gb1355,1,none⟩ = some (.slice none 0 0):=blk_cell BK1355.out 1;have hfz102_0:=blk_frozen BK1355.out 0;have hfz102_1:=blk_frozen BK1355.out 1;have hcz103_0 : w100.cell? ⟨gb1313,0,none⟩ = some (.int .i64 t1309):=blk_cell BK1313.out 0;have hcz103_1 : w100.cell? ⟨gb1313,1,none⟩ = some (.slice Ao12 t1310.length co12):=blk_cell BK1313.out 1;have hfz103_0:=blk_frozen BK1313.out 0;have hfz103_1:=blk_frozen BK1313.out 1)|(go_at_call 23;(with_reducible refine (impl_FindPattern.calls kj75 t1309 _ _ t1310 4 _ _ y1352 t1356 true _ ?side1 ?side2 ?side3 ?side4 A94.out).mono ?_);(case side1=>refine (Kd.R_reads' (e:=3) (base:=w.heap.size) (ok:=fun k_=>(some k_ ≠ (.slice (some ad1340) t1314.length co77 : Value).ownBlock ∧ some k_ ≠ (.slice Ao99 y1352.length co99 : Value).ownBlock)) (n:=t1310.length) (c:=co12) ?_).2.2;exact (by (with_reducible repeat (first|apply Kd.R_alloc|apply Kd.R_drewN|apply Kd.R_drew));exact (Kd.R_mono (Kd.R_far (p:=⟨gb1355,1,none⟩) (Kd.R_far (p:=⟨gb1355,0,none⟩) (Kd.R_types HO_1314001.out BK1355.out (by decide)) (fun _ hk=>hk.2) (.int .i64 4)) (fun _ hk=>hk.2) (.slice Ao99 y1352.length co99)) (fun _ h_=>h_.1))));(case side2=>exact (Kd.R_reads' HO_1314001.out).2.1);(case side3=>refine (Kd.R_reads' (e:=3) (base:=w.heap.size) (ok:=fun k_=>((True ∧ some k_ ≠ (.slice (some ad1340) t1314.length co77 : Value).ownBlock) ∧ some k_ ≠ (.slice Ao12 t1310.length co12 : Value).ownBlock)) (n:=y1352.length) (c:=co99) ?_).2.2;exact (by (with_reducible repeat (first|apply Kd.R_alloc|apply Kd.R_drewN|apply Kd.R_drew));exact (Kd.R_mono (Kd.R_far (p:=⟨gb1355,1,none⟩) (Kd.R_far (p:=⟨gb1355,0,none⟩) (Kd.R_types HO1354.out BK1355.out (by decide)) (fun _ hk=>hk.2) (.int .i64 4)) (fun _ hk=>hk.2) (.slice Ao99 y1352.length co99)) (fun _ h_=>h_.1))));(case side4=>exact (Kd.R_reads' HO1354.out).2.1);rintro e w104 ⟨v1357,rfl,ho0,hb⟩;have HO1358:=A_ (Kd.R_lower (Kd.R_new' (Kd.R_new' (Kd.R_new' ho0 (Kd.R_lt (by (with_reducible repeat (first|apply Kd.R_alloc|apply Kd.R_drewN|apply Kd.R_drew));exact (Kd.R_mono (Kd.R_far (p:=⟨gb1355,1,none⟩) (Kd.R_far (p:=⟨gb1355,0,none⟩) (Kd.R_types HO_6.out BK1355.out (by decide)) (fun _ hk=>hk.2) (.int .i64 4)) (fun _ hk=>hk.2) (.slice Ao99 y1352.length co99)) (fun _ h_=>h_.1))))) (Kd.R_lt (by (with_reducible repeat (first|apply Kd.R_alloc|apply Kd.R_drewN|apply Kd.R_drew));exact (Kd.R_mono (Kd.R_far (p:=⟨gb1355,1,none⟩) (Kd.R_far (p:=⟨gb1355,0,none⟩) (Kd.R_types HO_1314001.out BK1355.out (by decide)) (fun _ hk=>hk.2) (.int .i64 4)) (fun _ hk=>hk.2) (.slice Ao99 y1352.length co99)) (fun _ h_=>h_.1))))) (Kd.R_lt (by (with_reducible repeat (first|apply Kd.R_alloc|apply Kd.R_drewN|apply Kd.R_drew));exact (Kd.R_mono (Kd.R_far (p:=⟨gb1355,1,none⟩) (Kd.R_far (p:=⟨gb1355,0,none⟩) (Kd.R_types HO1354.out BK1355.out (by decide)) (fun _ hk=>hk.2) (.int .i64 4)) (fun _ hk=>hk.2) (.slice Ao99 y1352.length co99)) (fun _ h_=>h_.1))))) (below_size bb_));replace HO_6:=A_ (Kd.R_elder' (by (with_reducible repeat (first|apply Kd.R_alloc|apply Kd.R_drewN|apply Kd.R_drew));exact (Kd.R_mono (Kd.R_far (p:=⟨gb1355,1,none⟩) (Kd.R_far (p:=⟨gb1355,0,none⟩) (Kd.R_types HO_6.out BK1355.out (by decide)) (fun _ hk=>hk.2) (.int .i64 4)) (fun _ hk=>hk.2) (.slice Ao99 y1352.length co99)) (fun _ h_=>h_.1))) (Kd.R_base ho0) hb);replace HO_1314001:=A_ (Kd.R_elder' (by (with_reducible repeat (first|apply Kd.R_alloc|apply Kd.R_drewN|apply Kd.R_drew));exact (Kd.R_mono (Kd.R_far (p:=⟨gb1355,1,none⟩) (Kd.R_far (p:=⟨gb1355,0,none⟩) (Kd.R_types HO_1314001.out BK1355.out (by decide)) (fun _ hk=>hk.2) (.int .i64 4)) (fun _ hk=>hk.2) (.slice Ao99 y1352.length co99)) (fun _ h_=>h_.1))) (Kd.R_base ho0) hb);replace HO1354:=A_ (Kd.R_elder' (by (with_reducible repeat (first|apply Kd.R_alloc|apply Kd.R_drewN|apply Kd.R_drew));exact (Kd.R_mono (Kd.R_far (p:=⟨gb1355,1,none⟩) (Kd.R_far (p:=⟨gb1355,0,none⟩) (Kd.R_types HO1354.out BK1355.out (by decide)) (fun _ hk=>hk.2) (.int .i64 4)) (fun _ hk=>hk.2) (.slice Ao99 y1352.length co99)) (fun _ h_=>h_.1))) (Kd.R_base ho0) hb);replace BK1313:=A_ (blk_below (g:=gb1313) (o:=.cells #[.int .i64 t1309,.slice Ao12 t1310.length co12] 26 (0,0)) (by (with_reducible repeat (first|refine blk_drewN ?_ _|refine blk_drew ?_|refine blk_alloc ?_ _));refine blk_far ?_ NB1313_1355.out _;(with_reducible repeat (first|refine blk_drewN ?_ _|refine blk_drew ?_|refine blk_alloc ?_ _));refine blk_far ?_ NB1313_1355.out _;(with_reducible repeat (first|refine blk_drewN ?_ _|refine blk_drew ?_|refine blk_alloc ?_ _));exact BK1313.out) hb);replace BK1355:=A_ (blk_below (g:=gb1355) (o:=.cells #[.int .i64 4,.slice Ao99 y1352.length co99] 26 (0,0)) (by (with_reducible repeat (first|refine blk_drewN ?_ _|refine blk_drew ?_|refine blk_alloc ?_ _));refine blk_put (cs:=#[.int .i64 4,.slice none 0 0]) ?_ 1 _ rfl;(with_reducible repeat (first|refine blk_drewN ?_ _|refine blk_drew ?_|refine blk_alloc ?_ _));refine blk_put (cs:=#[.int .i64 0,.slice none 0 0]) ?_ 0 _ rfl;(with_reducible repeat (first|refine blk_drewN ?_ _|refine blk_drew ?_|refine blk_alloc ?_ _));exact BK1355.out) hb);replace HB:=A_ (below_step bb_ hb);(try clear hb);(try clear hb2);(try clear hk);(try clear hi);(try clear ho0);obtain ⟨Ao105,co105,eo105⟩:=Kd.R_slice HO1358.out;subst eo105)|(go_at_call 25;(with_reducible refine (laws_pSame.calls kj75 _ _ t1356 _ _ t1314 t1360 _ ?side1 ?side2 ?side3 ?side4 A96.out).mono ?_);(case side1=>exact cl_ (Kd.R_reads' HO1358.out).2.2);(case side2=>exact (Kd.R_reads' HO1358.out).2.1);(case side3=>exact cl_ (Kd.R_reads' HO_6.out).2.2);(case side4=>exact (Kd.R_reads' HO_6.out).2.1);rintro e w' ⟨rfl,⟨nd,rfl⟩⟩;(try first|exact ⟨rfl,_,World.drewN_drewN _ _ _⟩|exact ⟨rfl,_,Eq.trans (World.drewN_drewN _ _ _) (congrArg (World.drewN _) (Nat.add_assoc _ _ _))⟩)));try go_wp2_with (first|((with_reducible refine gate_dst (N:=159) rfl ?_);refine Kd.R_lit (Kd.int .i64) _ 3 ?hg (N:=159) ?hd (xs:=([2,0,8,0] : List Int)) (inner:=[.int .i64 2,.int .i64 0,.int .i64 8,.int .i64 0]) (ok:=fun _=>True) (okp:=fun _=>True) ?hr ?hp (fun _ hk=>hk) trivial (Below.refl _ _) (Nat.le_refl _) (by simp) ?_;(case hd=>rfl);(case hg=>rfl);(case hr=>first|(go_simp;done)|(go_simp;rfl));(case hp=>exact (Reps.one (show Kd.M (Kd.int .i64) _ _ _ 2 [.int .i64 2] from rfl) (Reps.one (show Kd.M (Kd.int .i64) _ _ _ 0 [.int .i64 0] from rfl) (Reps.one (show Kd.M (Kd.int .i64) _ _ _ 8 [.int .i64 8] from rfl) (Reps.one (show Kd.M (Kd.int .i64) _ _ _ 0 [.int .i64 0] from rfl) (Reps.none _ _))))));intro v1353 w97 ho98 hb hg_ hnew_;clear hg_ hnew_;(first|rw [← Ny1352.out] at ho98|(simp only [Int.reduceToNat] at ho98;rw [← Ny1352.out] at ho98));have HO1354:=A_ (Kd.R_lower (Kd.R_new' (Kd.R_new' ho98 (Kd.R_lt (rl_ HO_6))) (Kd.R_lt (rl_ HO_1314001))) (below_size bb_));replace HO_6:=A_ (Kd.R_elder' (rl_ HO_6) (Kd.R_base ho98) hb);replace HO_1314001:=A_ (Kd.R_elder' (rl_ HO_1314001) (Kd.R_base ho98) hb);replace BK1313:=bz BK1313 hb;replace HB:=A_ (below_step bb_ hb);clear hb ho98;obtain ⟨Ao99,co99,eo99⟩:=Kd.R_slice HO1354.out;subst eo99)|((with_reducible refine gate_dst (N:=24) rfl ?_);refine box_event ?hg (N:=24) ?hd (cs:=#[.int .i64 0,.slice none 0 0]) (t:=26) ?hr ?_;(case hd=>rfl);(case hg=>rfl);(case hr=>first|(go_simp;done)|(go_simp;rfl));intro gb1355 hg w100 hbox hb;replace HO_6:=rb_ HO_6 hb;replace HO_1314001:=rb_ HO_1314001 hb;replace HO1354:=rb_ HO1354 hb;have BK1355:=A_ (hbox);have GW1355:=A_ ((by rw [hg];exact (below_size bb_) : w.heap.size ≤ gb1355));have GE1355:=A_ ((by rw [hg];exact (below_size bb_) : w.heap.size ≤ gb1355));replace HB:=A_ (below_step bb_ hb);have NB1313_1355:=A_ ((by rw [hg];exact Nat.ne_of_lt (blk_lt (bl_ BK1313)) : gb1313 ≠ gb1355));have NB1355_1313:=A_ ((by rw [hg];exact Nat.ne_of_gt (blk_lt (bl_ BK1313)) : gb1355 ≠ gb1313));replace BK1313:=bz BK1313 hb;clear hb hbox hg;have hnb101:=NB1355_1313.out;have hnc101:=NB1313_1355.out;have hcz102_0 : w100.cell? ⟨gb1355,0,none⟩ = some (.int .i64 0):=blk_cell BK1355.out 0;have hcz102_1 : w100.cell? ⟨gb1355,1,none⟩ = some (.slice none 0 0):=blk_cell BK1355.out 1;have hfz102_0:=blk_frozen BK1355.out 0;have hfz102_1:=blk_frozen BK1355.out 1;have hcz103_0 : w100.cell? ⟨gb1313,0,none⟩ = some (.int .i64 t1309):=blk_cell BK1313.out 0;have hcz103_1 : w100.cell? ⟨gb1313,1,none⟩ = some (.slice Ao12 t1310.length co12):=blk_cell BK1313.out 1;have hfz103_0:=blk_frozen BK1313.out 0;have hfz103_1:=blk_frozen BK1313.out 1)|(go_at_call 23;(with_reducible refine (impl_FindPattern.calls kj75 t1309 _ _ t1310 4 _ _ y1352 t1356 true _ ?side1 ?side2 ?side3 ?side4 A94.out).mono ?_);(case side1=>refine (Kd.R_reads' (e:=3) (base:=w.heap.size) (ok:=fun k_=>(some k_ ≠ (.slice (some ad1340) t1314.length co77 : Value).ownBlock ∧ some k_ ≠ (.slice Ao99 y1352.length co99 : Value).ownBlock)) (n:=t1310.length) (c:=co12) ?_).2.2;exact (by (with_reducible repeat (first|apply Kd.R_alloc|apply Kd.R_drewN|apply Kd.R_drew));exact (Kd.R_mono (Kd.R_far (p:=⟨gb1355,1,none⟩) (Kd.R_far (p:=⟨gb1355,0,none⟩) (Kd.R_types HO_1314001.out BK1355.out (by decide)) (fun _ hk=>hk.2) (.int .i64 4)) (fun _ hk=>hk.2) (.slice Ao99 y1352.length co99)) (fun _ h_=>h_.1))));(case side2=>exact (Kd.R_reads' HO_1314001.out).2.1);(case side3=>refine (Kd.R_reads' (e:=3) (base:=w.heap.size) (ok:=fun k_=>((True ∧ some k_ ≠ (.slice (some ad1340) t1314.length co77 : Value).ownBlock) ∧ some k_ ≠ (.slice Ao12 t1310.length co12 : Value).ownBlock)) (n:=y1352.length) (c:=co99) ?_).2.2;exact (by (with_reducible repeat (first|apply Kd.R_alloc|apply Kd.R_drewN|apply Kd.R_drew));exact (Kd.R_mono (Kd.R_far (p:=⟨gb1355,1,none⟩) (Kd.R_far (p:=⟨gb1355,0,none⟩) (Kd.R_types HO1354.out BK1355.out (by decide)) (fun _ hk=>hk.2) (.int .i64 4)) (fun _ hk=>hk.2) (.slice Ao99 y1352.length co99)) (fun _ h_=>h_.1))));(case side4=>exact (Kd.R_reads' HO1354.out).2.1);rintro e w104 ⟨v1357,rfl,ho0,hb⟩;have HO1358:=A_ (Kd.R_lower (Kd.R_new' (Kd.R_new' (Kd.R_new' ho0 (Kd.R_lt (by (with_reducible repeat (first|apply Kd.R_alloc|apply Kd.R_drewN|apply Kd.R_drew));exact (Kd.R_mono (Kd.R_far (p:=⟨gb1355,1,none⟩) (Kd.R_far (p:=⟨gb1355,0,none⟩) (Kd.R_types HO_6.out BK1355.out (by decide)) (fun _ hk=>hk.2) (.int .i64 4)) (fun _ hk=>hk.2) (.slice Ao99 y1352.length co99)) (fun _ h_=>h_.1))))) (Kd.R_lt (by (with_reducible repeat (first|apply Kd.R_alloc|apply Kd.R_drewN|apply Kd.R_drew));exact (Kd.R_mono (Kd.R_far (p:=⟨gb1355,1,none⟩) (Kd.R_far (p:=⟨gb1355,0,none⟩) (Kd.R_types HO_1314001.out BK1355.out (by decide)) (fun _ hk=>hk.2) (.int .i64 4)) (fun _ hk=>hk.2) (.slice Ao99 y1352.length co99)) (fun _ h_=>h_.1))))) (Kd.R_lt (by (with_reducible repeat (first|apply Kd.R_alloc|apply Kd.R_drewN|apply Kd.R_drew));exact (Kd.R_mono (Kd.R_far (p:=⟨gb1355,1,none⟩) (Kd.R_far (p:=⟨gb1355,0,none⟩) (Kd.R_types HO1354.out BK1355.out (by decide)) (fun _ hk=>hk.2) (.int .i64 4)) (fun _ hk=>hk.2) (.slice Ao99 y1352.length co99)) (fun _ h_=>h_.1))))) (below_size bb_));replace HO_6:=A_ (Kd.R_elder' (by (with_reducible repeat (first|apply Kd.R_alloc|apply Kd.R_drewN|apply Kd.R_drew));exact (Kd.R_mono (Kd.R_far (p:=⟨gb1355,1,none⟩) (Kd.R_far (p:=⟨gb1355,0,none⟩) (Kd.R_types HO_6.out BK1355.out (by decide)) (fun _ hk=>hk.2) (.int .i64 4)) (fun _ hk=>hk.2) (.slice Ao99 y1352.length co99)) (fun _ h_=>h_.1))) (Kd.R_base ho0) hb);replace HO_1314001:=A_ (Kd.R_elder' (by (with_reducible repeat (first|apply Kd.R_alloc|apply Kd.R_drewN|apply Kd.R_drew));exact (Kd.R_mono (Kd.R_far (p:=⟨gb1355,1,none⟩) (Kd.R_far (p:=⟨gb1355,0,none⟩) (Kd.R_types HO_1314001.out BK1355.out (by decide)) (fun _ hk=>hk.2) (.int .i64 4)) (fun _ hk=>hk.2) (.slice Ao99 y1352.length co99)) (fun _ h_=>h_.1))) (Kd.R_base ho0) hb);replace HO1354:=A_ (Kd.R_elder' (by (with_reducible repeat (first|apply Kd.R_alloc|apply Kd.R_drewN|apply Kd.R_drew));exact (Kd.R_mono (Kd.R_far (p:=⟨gb1355,1,none⟩) (Kd.R_far (p:=⟨gb1355,0,none⟩) (Kd.R_types HO1354.out BK1355.out (by decide)) (fun _ hk=>hk.2) (.int .i64 4)) (fun _ hk=>hk.2) (.slice Ao99 y1352.length co99)) (fun _ h_=>h_.1))) (Kd.R_base ho0) hb);replace BK1313:=A_ (blk_below (g:=gb1313) (o:=.cells #[.int .i64 t1309,.slice Ao12 t1310.length co12] 26 (0,0)) (by (with_reducible repeat (first|refine blk_drewN ?_ _|refine blk_drew ?_|refine blk_alloc ?_ _));refine blk_far ?_ NB1313_1355.out _;(with_reducible repeat (first|refine blk_drewN ?_ _|refine blk_drew ?_|refine blk_alloc ?_ _));refine blk_far ?_ NB1313_1355.out _;(with_reducible repeat (first|refine blk_drewN ?_ _|refine blk_drew ?_|refine blk_alloc ?_ _));exact BK1313.out) hb);replace BK1355:=A_ (blk_below (g:=gb1355) (o:=.cells #[.int .i64 4,.slice Ao99 y1352.length co99] 26 (0,0)) (by (with_reducible repeat (first|refine blk_drewN ?_ _|refine blk_drew ?_|refine blk_alloc ?_ _));refine blk_put (cs:=#[.int .i64 4,.slice none 0 0]) ?_ 1 _ rfl;(with_reducible repeat (first|refine blk_drewN ?_ _|refine blk_drew ?_|refine blk_alloc ?_ _));refine blk_put (cs:=#[.int .i64 0,.slice none 0 0]) ?_ 0 _ rfl;(with_reducible repeat (first|refine blk_drewN ?_ _|refine blk_drew ?_|refine blk_alloc ?_ _));exact BK1355.out) hb);replace HB:=A_ (below_step bb_ hb);(try clear hb);(try clear hb2);(try clear hk);(try clear hi);(try clear ho0);obtain ⟨Ao105,co105,eo105⟩:=Kd.R_slice HO1358.out;subst eo105)|(go_at_call 25;(with_reducible refine (laws_pSame.calls kj75 _ _ t1356 _ _ t1314 t1360 _ ?side1 ?side2 ?side3 ?side4 A96.out).mono ?_);(case side1=>exact cl_ (Kd.R_reads' HO1358.out).2.2);(case side2=>exact (Kd.R_reads' HO1358.out).2.1);(case side3=>exact cl_ (Kd.R_reads' HO_6.out).2.2);(case side4=>exact (Kd.R_reads' HO_6.out).2.1);rintro e w' ⟨rfl,⟨nd,rfl⟩⟩;(try first|exact ⟨rfl,_,World.drewN_drewN _ _ _⟩|exact ⟨rfl,_,Eq.trans (World.drewN_drewN _ _ _) (congrArg (World.drewN _) (Nat.add_assoc _ _ _))⟩))))
                 go_ret
                 exact ⟨by first|rfl|(simp [errW_none,errW_some] <;> rfl)|(simp [*,errW_none,errW_some] <;> rfl),bb_⟩
                ·replace c95:=Bool.eq_false_iff.mpr c95;subst c95;have H1 : (some false) = some r:=by rw [if_neg (show ¬ (false = true) by decide)] at H;exact H
                 clear H;have H:=H1;clear H1;obtain rfl:=Option.some.inj H;go_wp2_with (first|((with_reducible refine gate_dst (N:=159) rfl ?_);refine Kd.R_lit (Kd.int .i64) _ 3 ?hg (N:=159) ?hd (xs:=([2,0,8,0] : List Int)) (inner:=[.int .i64 2,.int .i64 0,.int .i64 8,.int .i64 0]) (ok:=fun _=>True) (okp:=fun _=>True) ?hr ?hp (fun _ hk=>hk) trivial (Below.refl _ _) (Nat.le_refl _) (by simp) ?_;(case hd=>rfl);(case hg=>rfl);(case hr=>first|(go_simp;done)|(go_simp;rfl));(case hp=>exact (Reps.one (show Kd.M (Kd.int .i64) _ _ _ 2 [.int .i64 2] from rfl) (Reps.one (show Kd.M (Kd.int .i64) _ _ _ 0 [.int .i64 0] from rfl) (Reps.one (show Kd.M (Kd.int .i64) _ _ _ 8 [.int .i64 8] from rfl) (Reps.one (show Kd.M (Kd.int .i64) _ _ _ 0 [.int .i64 0] from rfl) (Reps.none _ _))))));intro v1353 w106 ho107 hb hg_ hnew_;clear hg_ hnew_;(first|rw [← Ny1352.out] at ho107|(simp only [Int.reduceToNat] at ho107;rw [← Ny1352.out] at ho107));have HO1354:=A_ (Kd.R_lower (Kd.R_new' (Kd.R_new' ho107 (Kd.R_lt (rl_ HO_6))) (Kd.R_lt (rl_ HO_1314001))) (below_size bb_));replace HO_6:=A_ (Kd.R_elder' (rl_ HO_6) (Kd.R_base ho107) hb);replace HO_1314001:=A_ (Kd.R_elder' (rl_ HO_1314001) (Kd.R_base ho107) hb);replace BK1313:=bz BK1313 hb;replace HB:=A_ (below_step bb_ hb);clear hb ho107;obtain ⟨Ao108,co108,eo108⟩:=Kd.R_slice HO1354.out;subst eo108)|((with_reducible refine gate_dst (N:=24) rfl ?_);refine box_event ?hg (N:=24) ?hd (cs:=#[.int .i64 0,.slice none 0 0]) (t:=26) ?hr ?_;(case hd=>rfl);(case hg=>rfl);(case hr=>first|(go_simp;done)|(go_simp;rfl));intro gb1355 hg w109 hbox hb;replace HO_6:=rb_ HO_6 hb;replace HO_1314001:=rb_ HO_1314001 hb;replace HO1354:=rb_ HO1354 hb;have BK1355:=A_ (hbox);have GW1355:=A_ ((by rw [hg];exact (below_size bb_) : w.heap.size ≤ gb1355));have GE1355:=A_ ((by rw [hg];exact (below_size bb_) : w.heap.size ≤ gb1355));replace HB:=A_ (below_step bb_ hb);have NB1313_1355:=A_ ((by rw [hg];exact Nat.ne_of_lt (blk_lt (bl_ BK1313)) : gb1313 ≠ gb1355));have NB1355_1313:=A_ ((by rw [hg];exact Nat.ne_of_gt (blk_lt (bl_ BK1313)) : gb1355 ≠ gb1313));replace BK1313:=bz BK1313 hb;clear hb hbox hg;have hnb110:=NB1355_1313.out;have hnc110:=NB1313_1355.out;have hcz111_0 : w109.cell? ⟨gb1355,0,none⟩ = some (.int .i64 0):=blk_cell BK1355.out 0;have hcz111_1 : w109.cell? ⟨gb1355,1,none⟩ = some (.slice none 0 0):=blk_cell BK1355.out 1;have hfz111_0:=blk_frozen BK1355.out 0;have hfz111_1:=blk_frozen BK1355.out 1;have hcz112_0 : w109.cell? ⟨gb1313,0,none⟩ = some (.int .i64 t1309):=blk_cell BK1313.out 0;have hcz112_1 : w109.cell? ⟨gb1313,1,none⟩ = some (.slice Ao12 t1310.length co12):=blk_cell BK1313.out 1;have hfz112_0:=blk_frozen BK1313.out 0;have hfz112_1:=blk_frozen BK1313.out 1)|(go_at_call 23;(with_reducible refine (impl_FindPattern.calls kj75 t1309 _ _ t1310 4 _ _ y1352 t1356 false _ ?side1 ?side2 ?side3 ?side4 A94.out).mono ?_);(case side1=>refine (Kd.R_reads' (e:=3) (base:=w.heap.size) (ok:=fun k_=>(some k_ ≠ (.slice (some ad1340) t1314.length co77 : Value).ownBlock ∧ some k_ ≠ (.slice Ao108 y1352.length co108 : Value).ownBlock)) (n:=t1310.length) (c:=co12) ?_).2.2;exact (by (with_reducible repeat (first|apply Kd.R_alloc|apply Kd.R_drewN|apply Kd.R_drew));exact (Kd.R_mono (Kd.R_far (p:=⟨gb1355,1,none⟩) (Kd.R_far (p:=⟨gb1355,0,none⟩) (Kd.R_types HO_1314001.out BK1355.out (by decide)) (fun _ hk=>hk.2) (.int .i64 4)) (fun _ hk=>hk.2) (.slice Ao108 y1352.length co108)) (fun _ h_=>h_.1))));(case side2=>exact (Kd.R_reads' HO_1314001.out).2.1);(case side3=>refine (Kd.R_reads' (e:=3) (base:=w.heap.size) (ok:=fun k_=>((True ∧ some k_ ≠ (.slice (some ad1340) t1314.length co77 : Value).ownBlock) ∧ some k_ ≠ (.slice Ao12 t1310.length co12 : Value).ownBlock)) (n:=y1352.length) (c:=co108) ?_).2.2;exact (by (with_reducible repeat (first|apply Kd.R_alloc|apply Kd.R_drewN|apply Kd.R_drew));exact (Kd.R_mono (Kd.R_far (p:=⟨gb1355,1,none⟩) (Kd.R_far (p:=⟨gb1355,0,none⟩) (Kd.R_types HO1354.out BK1355.out (by decide)) (fun _ hk=>hk.2) (.int .i64 4)) (fun _ hk=>hk.2) (.slice Ao108 y1352.length co108)) (fun _ h_=>h_.1))));(case side4=>exact (Kd.R_reads' HO1354.out).2.1);rintro e w113 ⟨v1357,rfl,ho0,hb⟩;have HO1358:=A_ (Kd.R_lower (Kd.R_new' (Kd.R_new' (Kd.R_new' ho0 (Kd.R_lt (by (with_reducible repeat (first|apply Kd.R_alloc|apply Kd.R_drewN|apply Kd.R_drew));exact (Kd.R_mono (Kd.R_far (p:=⟨gb1355,1,none⟩) (Kd.R_far (p:=⟨gb1355,0,none⟩) (Kd.R_types HO_6.out BK1355.out (by decide)) (fun _ hk=>hk.2) (.int .i64 4)) (fun _ hk=>hk.2) (.slice Ao108 y1352.length co108)) (fun _ h_=>h_.1))))) (Kd.R_lt (by (with_reducible repeat (first|apply Kd.R_alloc|apply Kd.R_drewN|apply Kd.R_drew));exact (Kd.R_mono (Kd.R_far (p:=⟨gb1355,1,none⟩) (Kd.R_far (p:=⟨gb1355,0,none⟩) (Kd.R_types HO_1314001.out BK1355.out (by decide)) (fun _ hk=>hk.2) (.int .i64 4)) (fun _ hk=>hk.2) (.slice Ao108 y1352.length co108)) (fun _ h_=>h_.1))))) (Kd.R_lt (by (with_reducible repeat (first|apply Kd.R_alloc|apply Kd.R_drewN|apply Kd.R_drew));exact (Kd.R_mono (Kd.R_far (p:=⟨gb1355,1,none⟩) (Kd.R_far (p:=⟨gb1355,0,none⟩) (Kd.R_types HO1354.out BK1355.out (by decide)) (fun _ hk=>hk.2) (.int .i64 4)) (fun _ hk=>hk.2) (.slice Ao108 y1352.length co108)) (fun _ h_=>h_.1))))) (below_size bb_));replace HO_6:=A_ (Kd.R_elder' (by (with_reducible repeat (first|apply Kd.R_alloc|apply Kd.R_drewN|apply Kd.R_drew));exact (Kd.R_mono (Kd.R_far (p:=⟨gb1355,1,none⟩) (Kd.R_far (p:=⟨gb1355,0,none⟩) (Kd.R_types HO_6.out BK1355.out (by decide)) (fun _ hk=>hk.2) (.int .i64 4)) (fun _ hk=>hk.2) (.slice Ao108 y1352.length co108)) (fun _ h_=>h_.1))) (Kd.R_base ho0) hb);replace HO_1314001:=A_ (Kd.R_elder' (by (with_reducible repeat (first|apply Kd.R_alloc|apply Kd.R_drewN|apply Kd.R_drew));exact (Kd.R_mono (Kd.R_far (p:=⟨gb1355,1,none⟩) (Kd.R_far (p:=⟨gb1355,0,none⟩) (Kd.R_types HO_1314001.out BK1355.out (by decide)) (fun _ hk=>hk.2) (.int .i64 4)) (fun _ hk=>hk.2) (.slice Ao108 y1352.length co108)) (fun _ h_=>h_.1))) (Kd.R_base ho0) hb);replace HO1354:=A_ (Kd.R_elder' (by (with_reducible repeat (first|apply Kd.R_alloc|apply Kd.R_drewN|apply Kd.R_drew));exact (Kd.R_mono (Kd.R_far (p:=⟨gb1355,1,none⟩) (Kd.R_far (p:=⟨gb1355,0,none⟩) (Kd.R_types HO1354.out BK1355.out (by decide)) (fun _ hk=>hk.2) (.int .i64 4)) (fun _ hk=>hk.2) (.slice Ao108 y1352.length co108)) (fun _ h_=>h_.1))) (Kd.R_base ho0) hb);replace BK1313:=A_ (blk_below (g:=gb1313) (o:=.cells #[.int .i64 t1309,.slice Ao12 t1310.length co12] 26 (0,0)) (by (with_reducible repeat (first|refine blk_drewN ?_ _|refine blk_drew ?_|refine blk_alloc ?_ _));refine blk_far ?_ NB1313_1355.out _;(with_reducible repeat (first|refine blk_drewN ?_ _|refine blk_drew ?_|refine blk_alloc ?_ _));refine blk_far ?_ NB1313_1355.out _;(with_reducible repeat (first|refine blk_drewN ?_ _|refine blk_drew ?_|refine blk_alloc ?_ _));exact BK1313.out) hb);replace BK1355:=A_ (blk_below (g:=gb1355) (o:=.cells #[.int .i64 4,.slice Ao108 y1352.length co108] 26 (0,0)) (by (with_reducible repeat (first|refine blk_drewN ?_ _|refine blk_drew ?_|refine blk_alloc ?_ _));refine blk_put (cs:=#[.int .i64 4,.slice none 0 0]) ?_ 1 _ rfl;(with_reducible repeat (first|refine blk_drewN ?_ _|refine blk_drew ?_|refine blk_alloc ?_ _));refine blk_put (cs:=#[.int .i64 0,.slice none 0 0]) ?_ 0 _ rfl;(with_reducible repeat (first|refine blk_drewN ?_ _|refine blk_drew ?_|refine blk_alloc ?_ _));exact BK1355.out) hb);replace HB:=A_ (below_step bb_ hb);(try clear hb);(try clear hb2);(try clear hk);(try clear hi);(try clear ho0)))
                 repeat (go_quiet (first|((with_reducible refine gate_dst (N:=159) rfl ?_);refine Kd.R_lit (Kd.int .i64) _ 3 ?hg (N:=159) ?hd (xs:=([2,0,8,0] : List Int)) (inner:=[.int .i64 2,.int .i64 0,.int .i64 8,.int .i64 0]) (ok:=fun _=>True) (okp:=fun _=>True) ?hr ?hp (fun _ hk=>hk) trivial (Below.refl _ _) (Nat.le_refl _) (by simp) ?_;(case hd=>rfl);(case hg=>rfl);(case hr=>first|(go_simp;done)|(go_simp;rfl));(case hp=>exact (Reps.one (show Kd.M (Kd.int .i64) _ _ _ 2 [.int .i64 2] from rfl) (Reps.one (show Kd.M (Kd.int .i64) _ _ _ 0 [.int .i64 0] from rfl) (Reps.one (show Kd.M (Kd.int .i64) _ _ _ 8 [.int .i64 8] from rfl) (Reps.one (show Kd.M (Kd.int .i64) _ _ _ 0 [.int .i64 0] from rfl) (Reps.none _ _))))));intro v1353 w106 ho107 hb hg_ hnew_;clear hg_ hnew_;(first|rw [← Ny1352.out] at ho107|(simp only [Int.reduceToNat] at ho107;rw [← Ny1352.out] at ho107));have HO1354:=A_ (Kd.R_lower (Kd.R_new' (Kd.R_new' ho107 (Kd.R_lt (rl_ HO_6))) (Kd.R_lt (rl_ HO_1314001))) (below_size bb_));replace HO_6:=A_ (Kd.R_elder' (rl_ HO_6) (Kd.R_base ho107) hb);replace HO_1314001:=A_ (Kd.R_elder' (rl_ HO_1314001) (Kd.R_base ho107) hb);replace BK1313:=bz BK1313 hb;replace HB:=A_ (below_step bb_ hb);clear hb ho107;obtain ⟨Ao108,co108,eo108⟩:=Kd.R_slice HO1354.out;subst eo108)|((with_reducible refine gate_dst (N:=24) rfl ?_);refine box_event ?hg (N:=24) ?hd (cs:=#[.int .i64 0,.slice none 0 0]) (t:=26) ?hr ?_;(case hd=>rfl);(case hg=>rfl);(case hr=>first|(go_simp;done)|(go_simp;rfl));intro gb1355 hg w109 hbox hb;replace HO_6:=rb_ HO_6 hb;replace HO_1314001:=rb_ HO_1314001 hb;replace HO1354:=rb_ HO1354 hb;have BK1355:=A_ (hbox);have GW1355:=A_ ((by rw [hg];exact (below_size bb_) : w.heap.size ≤ gb1355));have GE1355:=A_ ((by rw [hg];exact (below_size bb_) : w.heap.size ≤ gb1355));replace HB:=A_ (below_step bb_ hb);have NB1313_1355:=A_ ((by rw [hg];exact Nat.ne_of_lt (blk_lt (bl_ BK1313)) : gb1313 ≠ gb1355));have NB1355_1313:=A_ ((by rw [hg];exact Nat.ne_of_gt (blk_lt (bl_ BK1313)) : gb1355 ≠ gb1313));replace BK1313:=bz BK1313 hb;clear hb hbox hg;have hnb110:=NB1355_1313.out;have hnc110:=NB1313_1355.out;have hcz111_0 : w109.cell? ⟨gb1355,0,none⟩ = some (.int .i64 0):=blk_cell BK1355.out 0;have hcz111_1 : w109.cell? ⟨gb1355,1,none⟩ = some (.slice none 0 0):=blk_cell BK1355.out 1;have hfz111_0:=blk_frozen BK1355.out 0;have hfz111_1:=blk_frozen BK1355.out 1;have hcz112_0 : w109.cell? ⟨gb1313,0,none⟩ = some (.int .i64 t1309):=blk_cell BK1313.out 0;have hcz112_1 : w109.cell? ⟨gb1313,1,none⟩ = some (.slice Ao12 t1310.length co12):=blk_cell BK1313.out 1;have hfz112_0:=blk_frozen BK1313.out 0;have hfz112_1:=blk_frozen BK1313.out 1)|(go_at_call 23;(with_reducible refine (impl_FindPattern.calls kj75 t1309 _ _ t1310 4 _ _ y1352 t1356 false _ ?side1 ?side2 ?side3 ?side4 A94.out).mono ?_);(case side1=>refine (Kd.R_reads' (e:=3) (base:=w.heap.size) (ok:=fun k_=>(some k_ ≠ (.slice (some ad1340) t1314.length co77 : Value).ownBlock ∧ some k_ ≠ (.slice Ao108 y1352.length co108 : Value).ownBlock)) (n:=t1310.length) (c:=co12) ?_).2.2;exact (by (with_reducible repeat (first|apply Kd.R_alloc|apply Kd.R_drewN|apply Kd.R_drew));exact (Kd.R_mono (Kd.R_far (p:=⟨gb1355,1,none⟩) (Kd.R_far (p:=⟨gb1355,0,none⟩) (Kd.R_types HO_1314001.out BK1355.out (by decide)) (fun _ hk=>hk.2) (.int .i64 4)) (fun _ hk=>hk.2) (.slice Ao108 y1352.length co108)) (fun _ h_=>h_.1))));(case side2=>exact (Kd.R_reads' HO_1314001.out).2.1);(case side3=>refine (Kd.R_reads' (e:=3) (base:=w.heap.size) (ok:=fun k_=>((True ∧ some k_ ≠ (.slice (some ad1340) t1314.length co77 : Value).ownBlock) ∧ some k_ ≠ (.slice Ao12 t1310.length co12 : Value).ownBlock)) (n:=y1352.length) (c:=co108) ?_).2.2;exact (by (with_reducible repeat (first|apply Kd.R_alloc|apply Kd.R_drewN|apply Kd.R_drew));exact (Kd.R_mono (Kd.R_far (p:=⟨gb1355,1,none⟩) (Kd.R_far (p:=⟨gb1355,0,none⟩) (Kd.R_types HO1354.out BK1355.out (by decide)) (fun _ hk=>hk.2) (.int .i64 4)) (fun _ hk=>hk.2) (.slice Ao108 y1352.length co108)) (fun _ h_=>h_.1))));(case side4=>exact (Kd.R_reads' HO1354.out).2.1);rintro e w113 ⟨v1357,rfl,ho0,hb⟩;have HO1358:=A_ (Kd.R_lower (Kd.R_new' (Kd.R_new' (Kd.R_new' ho0 (Kd.R_lt (by (with_reducible repeat (first|apply Kd.R_alloc|apply Kd.R_drewN|apply Kd.R_drew));exact (Kd.R_mono (Kd.R_far (p:=⟨gb1355,1,none⟩) (Kd.R_far (p:=⟨gb1355,0,none⟩) (Kd.R_types HO_6.out BK1355.out (by decide)) (fun _ hk=>hk.2) (.int .i64 4)) (fun _ hk=>hk.2) (.slice Ao108 y1352.length co108)) (fun _ h_=>h_.1))))) (Kd.R_lt (by (with_reducible repeat (first|apply Kd.R_alloc|apply Kd.R_drewN|apply Kd.R_drew));exact (Kd.R_mono (Kd.R_far (p:=⟨gb1355,1,none⟩) (Kd.R_far (p:=⟨gb1355,0,none⟩) (Kd.R_types HO_1314001.out BK1355.out (by decide)) (fun _ hk=>hk.2) (.int .i64 4)) (fun _ hk=>hk.2) (.slice Ao108 y1352.length co108)) (fun _ h_=>h_.1))))) (Kd.R_lt (by (with_reducible repeat (first|apply Kd.R_alloc|apply Kd.R_drewN|apply Kd.R_drew));exact (Kd.R_mono (Kd.R_far (p:=⟨gb1355,1,none⟩) (Kd.R_far (p:=⟨gb1355,0,none⟩) (Kd.R_types HO1354.out BK1355.out (by decide)) (fun _ hk=>hk.2) (.int .i64 4)) (fun _ hk=>hk.2) (.slice Ao108 y1352.length co108)) (fun _ h_=>h_.1))))) (below_size bb_));replace HO_6:=A_ (Kd.R_elder' (by (with_reducible repeat (first|apply Kd.R_alloc|apply Kd.R_drewN|apply Kd.R_drew));exact (Kd.R_mono (Kd.R_far (p:=⟨gb1355,1,none⟩) (Kd.R_far (p:=⟨gb1355,0,none⟩) (Kd.R_types HO_6.out BK1355.out (by decide)) (fun _ hk=>hk.2) (.int .i64 4)) (fun _ hk=>hk.2) (.slice Ao108 y1352.length co108)) (fun _ h_=>h_.1))) (Kd.R_base ho0) hb);replace HO_1314001:=A_ (Kd.R_elder' (by (with_reducible repeat (first|apply Kd.R_alloc|apply Kd.R_drewN|apply Kd.R_drew));exact (Kd.R_mono (Kd.R_far (p:=⟨gb1355,1,none⟩) (Kd.R_far (p:=⟨gb1355,0,none⟩) (Kd.R_types HO_1314001.out BK1355.out (by decide)) (fun _ hk=>hk.2) (.int .i64 4)) (fun _ hk=>hk.2) (.slice Ao108 y1352.length co108)) (fun _ h_=>h_.1))) (Kd.R_base ho0) hb);replace HO1354:=A_ (Kd.R_elder' (by (with_reducible repeat (first|apply Kd.R_alloc|apply Kd.R_drewN|apply Kd.R_drew));exact (Kd.R_mono (Kd.R_far (p:=⟨gb1355,1,none⟩) (Kd.R_far (p:=⟨gb1355,0,none⟩) (Kd.R_types HO1354.out BK1355.out (by decide)) (fun _ hk=>hk.2) (.int .i64 4)) (fun _ hk=>hk.2) (.slice Ao108 y1352.length co108)) (fun _ h_=>h_.1))) (Kd.R_base ho0) hb);replace BK1313:=A_ (blk_below (g:=gb1313) (o:=.cells #[.int .i64 t1309,.slice Ao12 t1310.length co12] 26 (0,0)) (by (with_reducible repeat (first|refine blk_drewN ?_ _|refine blk_drew ?_|refine blk_alloc ?_ _));refine blk_far ?_ NB1313_1355.out _;(with_reducible repeat (first|refine blk_drewN ?_ _|refine blk_drew ?_|refine blk_alloc ?_ _));refine blk_far ?_ NB1313_1355.out _;(with_reducible repeat (first|refine blk_drewN ?_ _|refine blk_drew ?_|refine blk_alloc ?_ _));exact BK1313.out) hb);replace BK1355:=A_ (blk_below (g:=gb1355) (o:=.cells #[.int .i64 4,.slice Ao108 y1352.length co108] 26 (0,0)) (by (with_reducible repeat (first|refine blk_drewN ?_ _|refine blk_drew ?_|refine blk_alloc ?_ _));refine blk_put (cs:=#[.int .i64 4,.slice none 0 0]) ?_ 1 _ rfl;(with_reducible repeat (first|refine blk_drewN ?_ _|refine blk_drew ?_|refine blk_alloc ?_ _));refine blk_put (cs:=#[.int .i64 0,.slice none 0 0]) ?_ 0 _ rfl;(with_reducible repeat (first|refine blk_drewN ?_ _|refine blk_drew ?_|refine blk_alloc ?_ _));exact BK1355.out) hb);replace HB:=A_ (below_step bb_ hb);(try clear hb);(try clear hb2);(try clear hk);(try clear hi);(try clear ho0)));try go_wp2_with (first|((with_reducible refine gate_dst (N:=159) rfl ?_);refine Kd.R_lit (Kd.int .i64) _ 3 ?hg (N:=159) ?hd (xs:=([2,0,8,0] : List Int)) (inner:=[.int .i64 2,.int .i64 0,.int .i64 8,.int .i64 0]) (ok:=fun _=>True) (okp:=fun _=>True) ?hr ?hp (fun _ hk=>hk) trivial (Below.refl _ _) (Nat.le_refl _) (by simp) ?_;(case hd=>rfl);(case hg=>rfl);(case hr=>first|(go_simp;done)|(go_simp;rfl));(case hp=>exact (Reps.one (show Kd.M (Kd.int .i64) _ _ _ 2 [.int .i64 2] from rfl) (Reps.one (show Kd.M (Kd.int .i64) _ _ _ 0 [.int .i64 0] from rfl) (Reps.one (show Kd.M (Kd.int .i64) _ _ _ 8 [.int .i64 8] from rfl) (Reps.one (show Kd.M (Kd.int .i64) _ _ _ 0 [.int .i64 0] from rfl) (Reps.none _ _))))));intro v1353 w106 ho107 hb hg_ hnew_;clear hg_ hnew_;(first|rw [← Ny1352.out] at ho107|(simp only [Int.reduceToNat] at ho107;rw [← Ny1352.out] at ho107));have HO1354:=A_ (Kd.R_lower (Kd.R_new' (Kd.R_new' ho107 (Kd.R_lt (rl_ HO_6))) (Kd.R_lt (rl_ HO_1314001))) (below_size bb_));replace HO_6:=A_ (Kd.R_elder' (rl_ HO_6) (Kd.R_base ho107) hb);replace HO_1314001:=A_ (Kd.R_elder' (rl_ HO_1314001) (Kd.R_base ho107) hb);replace BK1313:=bz BK1313 hb;replace HB:=A_ (below_step bb_ hb);clear hb ho107;obtain ⟨Ao108,co108,eo108⟩:=Kd.R_slice HO1354.out;subst eo108)|((with_reducible refine gate_dst (N:=24) rfl ?_);refine box_event ?hg (N:=24) ?hd (cs:=#[.int .i64 0,.slice none 0 0]) (t:=26) ?hr ?_;(case hd=>rfl);(case hg=>rfl);(case hr=>first|(go_simp;done)|(go_simp;rfl));intro gb1355 hg w109 hbox hb;replace HO_6:=rb_ HO_6 hb;replace HO_1314001:=rb_ HO_1314001 hb;replace HO1354:=rb_ HO1354 hb;have BK1355:=A_ (hbox);have GW1355:=A_ ((by rw [hg];exact (below_size bb_) : w.heap.size ≤ gb1355));have GE1355:=A_ ((by rw [hg];exact (below_size bb_) : w.heap.size ≤ gb1355));replace HB:=A_ (below_step bb_ hb);have NB1313_1355:=A_ ((by rw [hg];exact Nat.ne_of_lt (blk_lt (bl_ BK1313)) : gb1313 ≠ gb1355));have NB1355_1313:=A_ ((by rw [hg];exact Nat.ne_of_gt (blk_lt (bl_ BK1313)) : gb1355 ≠ gb1313));replace BK1313:=bz BK1313 hb;clear hb hbox hg;have hnb110:=NB1355_1313.out;have hnc110:=NB1313_1355.out;have hcz111_0 : w109.cell? ⟨gb1355,0,none⟩ = some (.int .i64 0):=blk_cell BK1355.out 0;have hcz111_1 : w109.cell? ⟨gb1355,1,none⟩ = some (.slice none 0 0):=blk_cell BK1355.out 1;have hfz111_0:=blk_frozen BK1355.out 0;have hfz111_1:=blk_frozen BK1355.out 1;have hcz112_0 : w109.cell? ⟨gb1313,0,none⟩ = some (.int .i64 t1309):=blk_cell BK1313.out 0;have hcz112_1 : w109.cell? ⟨gb1313,1,none⟩ = some (.slice Ao12 t1310.length co12):=blk_cell BK1313.out 1;have hfz112_0:=blk_frozen BK1313.out 0;have hfz112_1:=blk_frozen BK1313.out 1)|(go_at_call 23;(with_reducible refine (impl_FindPattern.calls kj75 t1309 _ _ t1310 4 _ _ y1352 t1356 false _ ?side1 ?side2 ?side3 ?side4 A94.out).mono ?_);(case side1=>refine (Kd.R_reads' (e:=3) (base:=w.heap.size) (ok:=fun k_=>(some k_ ≠ (.slice (some ad1340) t1314.length co77 : Value).ownBlock ∧ some k_ ≠ (.slice Ao108 y1352.length co108 : Value).ownBlock)) (n:=t1310.length) (c:=co12) ?_).2.2;exact (by (with_reducible repeat (first|apply Kd.R_alloc|apply Kd.R_drewN|apply Kd.R_drew));exact (Kd.R_mono (Kd.R_far (p:=⟨gb1355,1,none⟩) (Kd.R_far (p:=⟨gb1355,0,none⟩) (Kd.R_types HO_1314001.out BK1355.out (by decide)) (fun _ hk=>hk.2) (.int .i64 4)) (fun _ hk=>hk.2) (.slice Ao108 y1352.length co108)) (fun _ h_=>h_.1))));(case side2=>exact (Kd.R_reads' HO_1314001.out).2.1);(case side3=>refine (Kd.R_reads' (e:=3) (base:=w.heap.size) (ok:=fun k_=>((True ∧ some k_ ≠ (.slice (some ad1340) t1314.length co77 : Value).ownBlock) ∧ some k_ ≠ (.slice Ao12 t1310.length co12 : Value).ownBlock)) (n:=y1352.length) (c:=co108) ?_).2.2;exact (by (with_reducible repeat (first|apply Kd.R_alloc|apply Kd.R_drewN|apply Kd.R_drew));exact (Kd.R_mono (Kd.R_far (p:=⟨gb1355,1,none⟩) (Kd.R_far (p:=⟨gb1355,0,none⟩) (Kd.R_types HO1354.out BK1355.out (by decide)) (fun _ hk=>hk.2) (.int .i64 4)) (fun _ hk=>hk.2) (.slice Ao108 y1352.length co108)) (fun _ h_=>h_.1))));(case side4=>exact (Kd.R_reads' HO1354.out).2.1);rintro e w113 ⟨v1357,rfl,ho0,hb⟩;have HO1358:=A_ (Kd.R_lower (Kd.R_new' (Kd.R_new' (Kd.R_new' ho0 (Kd.R_lt (by (with_reducible repeat (first|apply Kd.R_alloc|apply Kd.R_drewN|apply Kd.R_drew));exact (Kd.R_mono (Kd.R_far (p:=⟨gb1355,1,none⟩) (Kd.R_far (p:=⟨gb1355,0,none⟩) (Kd.R_types HO_6.out BK1355.out (by decide)) (fun _ hk=>hk.2) (.int .i64 4)) (fun _ hk=>hk.2) (.slice Ao108 y1352.length co108)) (fun _ h_=>h_.1))))) (Kd.R_lt (by (with_reducible repeat (first|apply Kd.R_alloc|apply Kd.R_drewN|apply Kd.R_drew));exact (Kd.R_mono (Kd.R_far (p:=⟨gb1355,1,none⟩) (Kd.R_far (p:=⟨gb1355,0,none⟩) (Kd.R_types HO_1314001.out BK1355.out (by decide)) (fun _ hk=>hk.2) (.int .i64 4)) (fun _ hk=>hk.2) (.slice Ao108 y1352.length co108)) (fun _ h_=>h_.1))))) (Kd.R_lt (by (with_reducible repeat (first|apply Kd.R_alloc|apply Kd.R_drewN|apply Kd.R_drew));exact (Kd.R_mono (Kd.R_far (p:=⟨gb1355,1,none⟩) (Kd.R_far (p:=⟨gb1355,0,none⟩) (Kd.R_types HO1354.out BK1355.out (by decide)) (fun _ hk=>hk.2) (.int .i64 4)) (fun _ hk=>hk.2) (.slice Ao108 y1352.length co108)) (fun _ h_=>h_.1))))) (below_size bb_));replace HO_6:=A_ (Kd.R_elder' (by (with_reducible repeat (first|apply Kd.R_alloc|apply Kd.R_drewN|apply Kd.R_drew));exact (Kd.R_mono (Kd.R_far (p:=⟨gb1355,1,none⟩) (Kd.R_far (p:=⟨gb1355,0,none⟩) (Kd.R_types HO_6.out BK1355.out (by decide)) (fun _ hk=>hk.2) (.int .i64 4)) (fun _ hk=>hk.2) (.slice Ao108 y1352.length co108)) (fun _ h_=>h_.1))) (Kd.R_base ho0) hb);replace HO_1314001:=A_ (Kd.R_elder' (by (with_reducible repeat (first|apply Kd.R_alloc|apply Kd.R_drewN|apply Kd.R_drew));exact (Kd.R_mono (Kd.R_far (p:=⟨gb1355,1,none⟩) (Kd.R_far (p:=⟨gb1355,0,none⟩) (Kd.R_types HO_1314001.out BK1355.out (by decide)) (fun _ hk=>hk.2) (.int .i64 4)) (fun _ hk=>hk.2) (.slice Ao108 y1352.length co108)) (fun _ h_=>h_.1))) (Kd.R_base ho0) hb);replace HO1354:=A_ (Kd.R_elder' (by (with_reducible repeat (first|apply Kd.R_alloc|apply Kd.R_drewN|apply Kd.R_drew));exact (Kd.R_mono (Kd.R_far (p:=⟨gb1355,1,none⟩) (Kd.R_far (p:=⟨gb1355,0,none⟩) (Kd.R_types HO1354.out BK1355.out (by decide)) (fun _ hk=>hk.2) (.int .i64 4)) (fun _ hk=>hk.2) (.slice Ao108 y1352.length co108)) (fun _ h_=>h_.1))) (Kd.R_base ho0) hb);replace BK1313:=A_ (blk_below (g:=gb1313) (o:=.cells #[.int .i64 t1309,.slice Ao12 t1310.length co12] 26 (0,0)) (by (with_reducible repeat (first|refine blk_drewN ?_ _|refine blk_drew ?_|refine blk_alloc ?_ _));refine blk_far ?_ NB1313_1355.out _;(with_reducible repeat (first|refine blk_drewN ?_ _|refine blk_drew ?_|refine blk_alloc ?_ _));refine blk_far ?_ NB1313_1355.out _;(with_reducible repeat (first|refine blk_drewN ?_ _|refine blk_drew ?_|refine blk_alloc ?_ _));exact BK1313.out) hb);replace BK1355:=A_ (blk_below (g:=gb1355) (o:=.cells #[.int .i64 4,.slice Ao108 y1352.length co108] 26 (0,0)) (by (with_reducible repeat (first|refine blk_drewN ?_ _|refine blk_drew ?_|refine blk_alloc ?_ _));refine blk_put (cs:=#[.int .i64 4,.slice none 0 0]) ?_ 1 _ rfl;(with_reducible repeat (first|refine blk_drewN ?_ _|refine blk_drew ?_|refine blk_alloc ?_ _));refine blk_put (cs:=#[.int .i64 0,.slice none 0 0]) ?_ 0 _ rfl;(with_reducible repeat (first|refine blk_drewN ?_ _|refine blk_drew ?_|refine blk_alloc ?_ _));exact BK1355.out) hb);replace HB:=A_ (below_step bb_ hb);(try clear hb);(try clear hb2);(try clear hk);(try clear hi);(try clear ho0))))
                 go_ret
                 exact ⟨by first|rfl|(simp [errW_none,errW_some] <;> rfl)|(simp [*,errW_none,errW_some] <;> rfl),bb_⟩
            ·rw [if_neg c75] at H;exact absurd H (by simp)
           ·rw [if_neg c74] at H;exact absurd H (by simp)
          ·rw [if_neg c73] at H;exact absurd H (by simp)
         ·rw [if_neg c72] at H;exact absurd H (by simp)
        ·replace c71:=Bool.eq_false_iff.mpr c71;subst c71;have H1 : (some true) = some r:=by rw [if_neg (show ¬ (false = true) by decide)] at H;exact H
         clear H;have H:=H1;clear H1;obtain rfl:=Option.some.inj H;go_wp2
         repeat (go_quiet (fail);try go_wp2)
         go_ret
         exact ⟨by first|rfl|(simp [errW_none,errW_some] <;> rfl)|(simp [*,errW_none,errW_some] <;> rfl),bb_⟩
def laws_FnFourRefuse.Pure : Prop := ∀ (l0 : List Int) (l1 : List Int), l0.length ≤ maxLen → l0.length * 1 ≤ 140737488351232 → (∀ x ∈ l0, (Lit.int .u8 x).wf = true) → l1.length ≤ maxLen → l1.length * 1 ≤ 140737488351232 → (∀ x ∈ l1, (Lit.int .u8 x).wf = true) → ∃ k, laws_FnFourRefuse.f k l0 l1 = some true
theorem laws_FnFourRefuse.walk (P : laws_FnFourRefuse.Pure) (a0 : Option Addr) (len0 cap0 : Nat) (z0 : List Int) (a1 : Option Addr) (len1 cap1 : Nat) (z1 : List Int) (w : World) (w0 : (a0 = none ∧ len0 = 0 ∧ cap0 = 0 ∧ z0 = []) ∨ ∃ x,a0 = some x ∧ len0 ≤ cap0 ∧ cap0 ≤ maxLen ∧ z0.length = cap0 ∧ (∀ i,i < z0.length → w.cell? (x.add i) = some (.int .u8 (z0.getD i 0))) ∧ ∀ n ∈ z0,(Lit.int .u8 n).wf = true) (y0 : len0 * 1 ≤ 140737488351232) (w1 : (a1 = none ∧ len1 = 0 ∧ cap1 = 0 ∧ z1 = []) ∨ ∃ x,a1 = some x ∧ len1 ≤ cap1 ∧ cap1 ≤ maxLen ∧ z1.length = cap1 ∧ (∀ i,i < z1.length → w.cell? (x.add i) = some (.int .u8 (z1.getD i 0))) ∧ ∀ n ∈ z1,(Lit.int .u8 n).wf = true) (y1 : len1 * 1 ≤ 140737488351232) (hT : TabOK w) :
 Calls Tryd.prog 8 #[.slice a0 len0 cap0,.slice a1 len1 cap1] w fun e w'=>e = .returned (.bool true) ∧ Below w.heap.size w w':=by
 obtain ⟨l0,rfl,hr0,hm0,hw0,hc0⟩:=ReadsInt.ofRowC w0;obtain ⟨l1,rfl,hr1,hm1,hw1,hc1⟩:=ReadsInt.ofRowC w1;obtain ⟨k,h⟩:=P l0 l1 hm0 y0 hw0 hm1 y1 hw1;refine (laws_FnFourRefuse.calls k _ _ l0 _ _ l1 true w (Kd.C_of_reads (d:=(0 : Int)) (h1:=fun _=>rfl) hr0) hc0 (Kd.C_of_reads (d:=(0 : Int)) (h1:=fun _=>rfl) hr1) hc1 hT h).mono ?_
 rintro e w' ⟨rfl,hd⟩
 exact ⟨rfl,hd⟩
end Go.Proofs.YtfjpilcmjabikaaDoor.P
namespace Go.Proofs.YtfjpilcmjabikaaDoor.M
open Go.RowKit Go.Proofs.YtfjpilcmjabikaaDoorW.PrintMore Go.Proofs.YtfjpilcmjabikaaDoorW.PrintLast Go.Proofs.YtfjpilcmjabikaaDoorW.PrintWords
theorem i64_small (n : Nat) (h : n < 9223372036854775808) : IntKind.i64.wrap (n : Int) = (n : Int) := by
  simp [IntKind.wrap, IntKind.signed, IntKind.bits]
  omega
theorem wrap64_id (x : Int) (h0 : -9223372036854775808 ≤ x) (h1 : x ≤ 9223372036854775807) : wrap64 x = x := by
  unfold wrap64
  omega
theorem ofInt64 (a : Nat) (ha : a < 18446744073709551616) : (BitVec.ofInt 64 (a : Int)).toNat = a := by
  rw [BitVec.ofInt_natCast, BitVec.toNat_ofNat]; exact Nat.mod_eq_of_lt (by omega)
theorem and_i64 (a b : Nat) (ha : a < 9223372036854775808) (hb : b < 9223372036854775808) : Go.bits .and .i64 (a : Int) (b : Int) = ((a &&& b : Nat) : Int) := by
  have hx : a &&& b < 2 ^ 63 := Nat.and_lt_two_pow _ (by omega)
  show IntKind.i64.wrap ((BitVec.ofInt 64 (a : Int) &&& BitVec.ofInt 64 (b : Int)).toNat : Int) = _
  rw [BitVec.toNat_and, ofInt64 a (by omega), ofInt64 b (by omega), i64_small _ (by omega)]
theorem or_i64 (a b : Nat) (ha : a < 9223372036854775808) (hb : b < 9223372036854775808) : Go.bits .or .i64 (a : Int) (b : Int) = ((a ||| b : Nat) : Int) := by
  have hx : a ||| b < 2 ^ 63 := Nat.or_lt_two_pow (by omega) (by omega)
  show IntKind.i64.wrap ((BitVec.ofInt 64 (a : Int) ||| BitVec.ofInt 64 (b : Int)).toNat : Int) = _
  rw [BitVec.toNat_or, ofInt64 a (by omega), ofInt64 b (by omega), i64_small _ (by omega)]
def diff (a b : Nat) : Nat := a &&& (a ^^^ b)
theorem testBit_diff (a b i : Nat) : (diff a b).testBit i = (a.testBit i && !b.testBit i) := by
  unfold diff
  rw [Nat.testBit_and, Nat.testBit_xor]
  cases a.testBit i <;> cases b.testBit i <;> rfl
theorem andNot_i64 (a b : Nat) (ha : a < 9223372036854775808) (hb : b < 9223372036854775808) : Go.bits .andNot .i64 (a : Int) (b : Int) = ((diff a b : Nat) : Int) := by
  have hx : diff a b < 2 ^ 63 := Nat.lt_of_le_of_lt Nat.and_le_left (by omega)
  show IntKind.i64.wrap ((BitVec.ofInt 64 (a : Int) &&& ~~~ BitVec.ofInt 64 (b : Int)).toNat : Int) = _
  have e : (BitVec.ofInt 64 (a : Int) &&& ~~~ BitVec.ofInt 64 (b : Int)).toNat = diff a b := by
    apply Nat.eq_of_testBit_eq
    intro i
    rw [BitVec.toNat_and, Nat.testBit_and, testBit_diff, ofInt64 a (by omega)]
    by_cases hi : i < 64
    · rw [show (~~~ BitVec.ofInt 64 (b : Int)).toNat.testBit i = !(BitVec.ofInt 64 (b : Int)).toNat.testBit i from by
        rw [BitVec.testBit_toNat, BitVec.testBit_toNat, BitVec.getLsbD_not]; simp [hi], ofInt64 b (by omega)]
    · rw [Nat.testBit_lt_two_pow (x := a) (i := i) (Nat.lt_of_lt_of_le (by omega : a < 2 ^ 64) (Nat.pow_le_pow_right (by decide) (by omega)))]
      rfl
  rw [e, i64_small _ (by omega)]
theorem shl1 (j : Nat) (h : j ≤ 62) : shl .i64 1 (j : Int) = ((2 ^ j : Nat) : Int) := by
  unfold shl
  have h2 : (2 : Nat) ^ j < 9223372036854775808 := Nat.lt_of_le_of_lt (Nat.pow_le_pow_right (by decide) h) (by decide)
  rw [Int.toNat_natCast, Nat.min_eq_left (by show j ≤ 64; omega), Int.one_mul]
  have := i64_small (2 ^ j) h2
  rwa [Int.natCast_pow] at this ⊢
theorem shr_nat (a j : Nat) (h : j ≤ 64) : shr .i64 (a : Int) (j : Int) = ((a / 2 ^ j : Nat) : Int) := by
  unfold shr
  rw [Int.toNat_natCast, Nat.min_eq_left (by exact h)]
  simp
def bit (s : Int) (j : Nat) : Bool := s.toNat.testBit j
theorem bit_cast (a j : Nat) : bit (a : Int) j = a.testBit j := by simp [bit]
theorem and_one (a : Nat) (j : Nat) : ((a / 2 ^ j) &&& 1 : Nat) = if a.testBit j then 1 else 0 := by
  rw [Nat.and_one_is_mod, Nat.testBit_eq_decide_div_mod_eq]
  rcases Nat.mod_two_eq_zero_or_one (a / 2 ^ j) with h | h <;> simp [h]
theorem has_and (s : Int) (j : Nat) (h0 : 0 ≤ s) (h1 : s < 9223372036854775808) (hj : j ≤ 64) : (Go.bits .and .i64 (shr .i64 s (j : Int)) 1 == 1) = bit s j := by
  obtain ⟨a, rfl⟩ := Int.eq_ofNat_of_zero_le h0
  have hl : a / 2 ^ j < 9223372036854775808 := Nat.lt_of_le_of_lt (Nat.div_le_self _ _) (by omega)
  rw [shr_nat a j hj, show (1 : Int) = ((1 : Nat) : Int) from rfl, and_i64 _ 1 hl (by decide), and_one, bit_cast]
  cases a.testBit j <;> rfl
theorem has_mod (s : Int) (j : Nat) (h0 : 0 ≤ s) (hj : j ≤ 64) : (Int.tmod (shr .i64 s (j : Int)) 2 == 1) = bit s j := by
  obtain ⟨a, rfl⟩ := Int.eq_ofNat_of_zero_le h0
  rw [shr_nat a j hj, bit_cast, Nat.testBit_eq_decide_div_mod_eq, Int.tmod_eq_emod_of_nonneg (Int.natCast_nonneg _)]
  rcases Nat.mod_two_eq_zero_or_one (a / 2 ^ j) with h | h
  · rw [show ((a / 2 ^ j : Nat) : Int) % 2 = 0 from by omega]; simp [h]
  · rw [show ((a / 2 ^ j : Nat) : Int) % 2 = 1 from by omega]; simp [h]
def setOf : Nat → (Nat → Bool) → Nat
  | 0, _ => 0
  | n + 1, q => setOf n q ||| (if q n then 2 ^ n else 0)
theorem setOf_lt (n : Nat) (q : Nat → Bool) : setOf n q < 2 ^ n := by
  induction n with
  | zero => simp [setOf]
  | succ n ih =>
    unfold setOf
    have h1 : setOf n q < 2 ^ (n + 1) := Nat.lt_of_lt_of_le ih (Nat.pow_le_pow_right (by decide) (by omega))
    refine Nat.or_lt_two_pow h1 ?_
    split
    · exact Nat.pow_lt_pow_right (by decide) (by omega)
    · exact Nat.two_pow_pos _
theorem lt62 {n s : Nat} (h : s < 2 ^ n) (hn : n ≤ 62) : s < 9223372036854775808 := Nat.lt_of_lt_of_le h (Nat.le_trans (Nat.pow_le_pow_right (by decide) hn) (by decide))
theorem setOf_62 (n : Nat) (q : Nat → Bool) (hn : n ≤ 62) : setOf n q < 9223372036854775808 := lt62 (setOf_lt n q) hn
end Go.Proofs.YtfjpilcmjabikaaDoor.M
namespace Go.Proofs.YtfjpilcmjabikaaDoor.M
open Go.RowKit Go.Proofs.YtfjpilcmjabikaaDoorW.PrintMore Go.Proofs.YtfjpilcmjabikaaDoorW.PrintLast Go.Proofs.YtfjpilcmjabikaaDoorW.PrintWords
theorem Ev.up {α : Type} {r : α} (G : Nat → Nat → Option α) (n : Nat) (step : ∀ i, i < n → Ev (G (i + 1)) r → Ev (G i) r) (stop : Ev (G n) r) : Ev (G 0) r := by
  have key : ∀ m, m ≤ n → Ev (G (n - m)) r := by
    intro m
    induction m with
    | zero => intro _; exact stop
    | succ m ih =>
      intro hm
      have h := step (n - (m + 1)) (by omega)
      rw [show n - (m + 1) + 1 = n - m from by omega] at h
      exact h (ih (by omega))
  have := key n (Nat.le_refl _)
  rwa [Nat.sub_self] at this
theorem Ev.from {α : Type} {r : α} (G : Nat → Nat → Option α) (n i : Nat) (hi : i ≤ n) (step : ∀ i, i < n → Ev (G (i + 1)) r → Ev (G i) r) (stop : Ev (G n) r) : Ev (G i) r := by
  have h := Ev.up (fun j => G (i + j)) (n - i) (fun j hj h => step (i + j) (by omega) h) (by rw [show i + (n - i) = n from by omega]; exact stop)
  exact h
def allB (n : Nat) (p : Nat → Bool) : Bool := (List.range n).all p
theorem allB_iff {n : Nat} {p : Nat → Bool} : allB n p = true ↔ ∀ j, j < n → p j = true := by simp [allB]
theorem allB_false {n : Nat} {p : Nat → Bool} : allB n p = false ↔ ∃ j, j < n ∧ p j = false := by simp [allB]
theorem least_false {n : Nat} {p : Nat → Bool} (h : ∃ j, j < n ∧ p j = false) : ∃ j, j < n ∧ p j = false ∧ ∀ i, i < j → p i = true := by
  obtain ⟨j, hj, hp⟩ := h
  induction j using Nat.strongRecOn with
  | _ j ih =>
    by_cases hl : ∃ i, i < j ∧ p i = false
    · obtain ⟨i, hi, hpi⟩ := hl
      exact ih i hi (by omega) hpi
    · refine ⟨j, hj, hp, fun i hi => ?_⟩
      cases hc : p i with
      | true => rfl
      | false => exact absurd ⟨i, hi, hc⟩ hl
theorem Ev.all (G : Nat → Nat → Option Bool) (n : Nat) (p : Nat → Bool) (yes : ∀ i r, i < n → p i = true → Ev (G (i + 1)) r → Ev (G i) r) (no : ∀ i, i < n → p i = false → Ev (G i) false) (stop : Ev (G n) true) :
    Ev (G 0) (allB n p) := by
  cases h : allB n p with
  | true =>
    have h := allB_iff.1 h
    exact Ev.up G n (fun i hi => yes i true hi (h i hi)) stop
  | false =>
    obtain ⟨j, hj, hp, hl⟩ := least_false (allB_false.1 h)
    exact Ev.up G j (fun i hi => yes i false (by omega) (hl i hi)) (no j hj hp)
theorem Ev.const {α : Type} {x : Option α} {r : α} (h : x = some r) : Ev (fun _ => x) r := ⟨0, fun _ _ => h⟩
theorem Ev.to {α : Type} {g : Nat → Option α} {r r' : α} (h : Ev g r) (e : r = r') : Ev g r' := e ▸ h
theorem rd_nat (l : List Int) (i : Nat) : rd l (i : Int) = l.getD i 0 := by simp [rd]
theorem rd_get (l : List Int) (i : Nat) (h : i < l.length) : rd l (i : Int) = l[i] := by simp [rd, h]
theorem next64 (i n : Nat) (h : i < n) (hn : n ≤ 140737488355328) : wrap64 ((i : Int) + 1) = ((i + 1 : Nat) : Int) := by unfold wrap64; omega
theorem list_ext_getD {l l' : List Int} (hl : l.length = l'.length) (h : ∀ i, i < l.length → l.getD i 0 = l'.getD i 0) : l = l' := by
  apply List.ext_getElem hl
  intro i h1 h2
  have := h i h1
  simpa [h1, h2] using this
def EvP {α : Type} (g : Nat → Option α) (φ : α → Prop) (S : Prop) : Prop := ∃ r, Ev g r ∧ (φ r ↔ S)
theorem EvP.now {α : Type} {φ : α → Prop} {S : Prop} {r : α} (h : φ r ↔ S) : EvP (fun _ => some r) φ S := ⟨r, Ev.now r, h⟩
theorem EvP.step {α : Type} {g f : Nat → Option α} {φ : α → Prop} {S : Prop} (h : ∀ k, g (k + 1) = f k) (k : EvP f φ S) : EvP g φ S := by
  obtain ⟨r, hr, e⟩ := k
  exact ⟨r, Ev.step h hr, e⟩
theorem EvP.iff {α : Type} {g : Nat → Option α} {φ : α → Prop} {S S' : Prop} (h : EvP g φ S) (e : S ↔ S') : EvP g φ S' := by
  obtain ⟨r, hr, h⟩ := h
  exact ⟨r, hr, h.trans e⟩
theorem EvP.loop {α : Type} {φ : α → Prop} (G : Nat → Nat → Option α) (n : Nat) (S : Nat → Prop) (Rest : Prop) (step : ∀ i T, i < n → EvP (G (i + 1)) φ T → EvP (G i) φ (S i ∧ T)) (stop : EvP (G n) φ Rest) : EvP (G 0) φ ((∀ i, i < n → S i) ∧ Rest) := by
  have key : ∀ m, m ≤ n → EvP (G (n - m)) φ ((∀ i, n - m ≤ i → i < n → S i) ∧ Rest) := by
    intro m
    induction m with
    | zero => intro _; exact EvP.iff stop ⟨fun h => ⟨fun i h1 h2 => by omega, h⟩, fun h => h.2⟩
    | succ m ih =>
      intro hm
      have h := ih (by omega)
      rw [show n - m = n - (m + 1) + 1 by omega] at h
      refine EvP.iff (step (n - (m + 1)) _ (by omega) h) ?_
      constructor
      · rintro ⟨h1, h2, h3⟩
        refine ⟨fun i hi hn => ?_, h3⟩
        by_cases e : i = n - (m + 1)
        · rw [e]; exact h1
        · exact h2 i (by omega) hn
      · rintro ⟨h1, h2⟩
        exact ⟨h1 _ (Nat.le_refl _) (by omega), fun i hi hn => h1 i (by omega) hn, h2⟩
  have := key n (Nat.le_refl _)
  rw [Nat.sub_self] at this
  exact EvP.iff this ⟨fun ⟨h, r⟩ => ⟨fun i hi => h i (Nat.zero_le _) hi, r⟩, fun ⟨h, r⟩ => ⟨fun i _ hi => h i hi, r⟩⟩
end Go.Proofs.YtfjpilcmjabikaaDoor.M
namespace Go.Proofs.YtfjpilcmjabikaaDoor.M
open Go.RowKit Go.Proofs.YtfjpilcmjabikaaDoorW.PrintMore Go.Proofs.YtfjpilcmjabikaaDoorW.PrintLast Go.Proofs.YtfjpilcmjabikaaDoorW.PrintWords Go.Proofs.YtfjpilcmjabikaaDoor.P
def elems (n s : Nat) : List Nat := (List.range n).filter fun j => s.testBit j
theorem mem_elems {n s j : Nat} : j ∈ elems n s ↔ j < n ∧ s.testBit j = true := by simp [elems]
theorem elems_zero (n : Nat) : elems n 0 = [] := by simp [elems]
def ints (l : List Nat) : List Int := l.map fun (j : Nat) => (j : Int)
theorem ints_length (l : List Nat) : (ints l).length = l.length := by simp [ints]
theorem elems_length_le (n s : Nat) : (elems n s).length ≤ n := by
  unfold elems
  exact Nat.le_trans (List.length_filter_le _ _) (by simp)
theorem filter_range_split (n c : Nat) (h : c < n) (p : Nat → Bool) : (List.range n).filter p = (List.range c).filter p ++ ((if p c then [c] else []) ++ (List.range' (c + 1) (n - (c + 1))).filter p) := by
  have e : List.range n = List.range c ++ ([c] ++ List.range' (c + 1) (n - (c + 1))) := by
    rw [List.range_eq_range', List.range_eq_range']
    have h1 : n = c + (1 + (n - (c + 1))) := by omega
    have e1 : List.range' 0 n = List.range' 0 c ++ List.range' c (1 + (n - (c + 1))) := by
      have := List.range'_append_1 (s := 0) (m := c) (n := 1 + (n - (c + 1)))
      rw [Nat.zero_add] at this
      rw [this, ← h1]
    rw [e1, Nat.add_comm 1, List.range'_succ]
    rfl
  rw [e, List.filter_append, List.filter_append]
  congr 1
  cases hp : p c <;> simp [hp]
theorem elems_least (n s c m : Nat) (hs : s = 2 ^ c * (2 * m + 1)) (hn : s < 2 ^ n) : elems n s = c :: elems n (s &&& (s - 1)) := by
  have hp : 0 < 2 ^ c := Nat.two_pow_pos c
  have e1 : s - 1 = 2 ^ (c + 1) * m + (2 ^ c - 1) := by
    have a1 : 2 ^ c * (2 * m + 1) = 2 ^ (c + 1) * m + 2 ^ c := by rw [Nat.pow_succ, Nat.mul_add, Nat.mul_assoc]; simp
    omega
  have hb : ∀ j, s.testBit j = if j < c then false else if j = c then true else m.testBit (j - (c + 1)) := by
    intro j
    rw [hs, Nat.mul_comm, Nat.testBit_mul_two_pow]
    by_cases h1 : j < c
    · rw [if_pos h1]; simp; omega
    · rw [if_neg h1]
      by_cases h2 : j = c
      · subst h2; simp
      · rw [if_neg h2]
        obtain ⟨d, rfl⟩ : ∃ d, j = c + (d + 1) := ⟨j - c - 1, by omega⟩
        rw [show c + (d + 1) - c = d + 1 from by omega, show c + (d + 1) - (c + 1) = d from by omega, Nat.testBit_succ, show (2 * m + 1) / 2 = m from by omega]
        simp
  have hb1 : ∀ j, (s - 1).testBit j = if j < c then true else if j = c then false else m.testBit (j - (c + 1)) := by
    intro j
    rw [e1, Nat.testBit_two_pow_mul_add m (by have : 2 ^ c < 2 ^ (c + 1) := Nat.pow_lt_pow_right (by decide) (by omega); omega)]
    by_cases h1 : j < c
    · rw [if_pos (by omega), if_pos h1, Nat.testBit_two_pow_sub_one]; simp [h1]
    · rw [if_neg h1]
      by_cases h2 : j = c
      · subst h2; rw [if_pos (by omega), if_pos rfl, Nat.testBit_two_pow_sub_one]; simp
      · rw [if_neg (by omega), if_neg h2]
  have hb2 : ∀ j, (s &&& (s - 1)).testBit j = if j ≤ c then false else s.testBit j := by
    intro j
    rw [Nat.testBit_and, hb, hb1]
    by_cases h1 : j < c
    · simp [h1, Nat.le_of_lt h1]
    · by_cases h2 : j = c
      · simp [h2]
      · rw [if_neg h1, if_neg h1, if_neg h2, if_neg h2, if_neg (by omega)]; simp
  have hc : c < n := by
    apply Nat.lt_of_not_le
    intro hle
    have h1 : 2 ^ n ≤ 2 ^ c := Nat.pow_le_pow_right (by decide) hle
    have h2 : 2 ^ c ≤ s := by rw [hs]; exact Nat.le_mul_of_pos_right _ (by omega)
    omega
  unfold elems
  rw [filter_range_split n c hc, filter_range_split n c hc (fun j => (s &&& (s - 1)).testBit j)]
  have z1 : (List.range c).filter (fun j => s.testBit j) = [] := by
    rw [List.filter_eq_nil_iff]; intro j hj; simp at hj; rw [hb, if_pos hj]; simp
  have z2 : (List.range c).filter (fun j => (s &&& (s - 1)).testBit j) = [] := by
    rw [List.filter_eq_nil_iff]; intro j hj; simp at hj; rw [hb2, if_pos (by omega)]; simp
  have z3 : (List.range' (c + 1) (n - (c + 1))).filter (fun j => s.testBit j) = (List.range' (c + 1) (n - (c + 1))).filter (fun j => (s &&& (s - 1)).testBit j) := by
    apply List.filter_congr
    intro j hj
    rw [List.mem_range'] at hj
    obtain ⟨i, hi, rfl⟩ := hj
    rw [hb2, if_neg (by omega)]
  have y1 : s.testBit c = true := by rw [hb, if_neg (by omega), if_pos rfl]
  have y2 : (s &&& (s - 1)).testBit c = false := by rw [hb2, if_pos (Nat.le_refl _)]
  rw [z1, z2, z3, if_pos y1, y2]
  rfl
theorem and_pred_lt (s : Nat) (h : s ≠ 0) : s &&& (s - 1) < s := Nat.lt_of_le_of_lt Nat.and_le_right (by omega)
theorem u64_small (n : Nat) (h : n < 18446744073709551616) : IntKind.u64.wrap (n : Int) = (n : Int) := by
  simp [IntKind.wrap, IntKind.signed, IntKind.bits]
  omega
theorem members_ev (n : Nat) (hn : n ≤ 62) (s : Nat) (hs : s < 2 ^ n) : Ev (fun k => impl_members.f k (s : Int)) (ints (elems n s)) := by
  have key : ∀ d s, s ≤ d → s < 2 ^ n → ∀ acc : List Int, acc.length + (elems n s).length ≤ 64 → Ev (fun k => impl_members.l0 k (s : Int) acc) (acc ++ ints (elems n s)) := by
    intro d
    induction d with
    | zero =>
      intro s h0 _ acc _
      obtain rfl : s = 0 := by omega
      refine Ev.step (fun _ => rfl) ?_
      simp only [impl_members.l0, Int.natCast_zero, if_true]
      rw [elems_zero]
      simpa [ints] using Ev.now acc
    | succ d ih =>
      intro s h0 hs acc ha
      by_cases hz : s = 0
      · exact ih s (by omega) hs acc ha
      · have hs2 := lt62 hs hn
        obtain ⟨m, hm, hk⟩ := Lib.ctzFrom_spec 64 s (by omega) (by omega)
        have he := elems_least n s _ m hm hs
        have hl : (elems n s).length = (elems n (s &&& (s - 1))).length + 1 := by rw [he]; rfl
        refine Ev.step (fun _ => rfl) ?_
        have hc : Lib.ctz 64 s = Lib.ctzFrom 64 s := by unfold Lib.ctz; rw [if_neg hz]
        have e1 : bits_TrailingZeros.f (IntKind.u64.wrap (s : Int)) = some ((Lib.ctzFrom 64 s : Nat) : Int) := by
          rw [u64_small s (by omega)]
          unfold bits_TrailingZeros.f bits_TrailingZeros64.f
          rw [if_pos ⟨by omega, by omega⟩, Int.toNat_natCast, hc]
          rfl
        have e2 : Go.bits .and .i64 (s : Int) (wrap64 ((s : Int) - 1)) = ((s &&& (s - 1) : Nat) : Int) := by
          rw [show wrap64 ((s : Int) - 1) = ((s - 1 : Nat) : Int) from by unfold wrap64; omega]
          exact and_i64 _ _ (by omega) (by omega)
        simp only [impl_members.l0, if_neg (show ¬ (s : Int) = 0 by omega), e1, Option.bind_some, if_pos (show acc.length < 17592186044416 by omega), e2]
        have := ih (s &&& (s - 1)) (by have := and_pred_lt s hz; omega) (Nat.lt_of_le_of_lt Nat.and_le_left hs) (acc ++ [((Lib.ctzFrom 64 s : Nat) : Int)]) (by simp; omega)
        refine Ev.to this ?_
        rw [he]
        simp [ints]
  have h := key s s (Nat.le_refl _) hs [] (by have := elems_length_le n s; simp; omega)
  exact h
theorem orHas_eq (s : Nat) (j : Nat) (hj : j ≤ 64) : spec_orHas.f (s : Int) (j : Int) = some (s.testBit j) := by
  unfold spec_orHas.f
  rw [if_pos (by omega), has_mod _ _ (by omega) hj, bit_cast]
theorem orList_ev (n : Nat) (hn : n ≤ 62) (s : Nat) (hs : s < 2 ^ n) : Ev (fun k => spec_orList.f k (s : Int)) (ints (elems n s)) := by
  -- up to the place behind the last element
  obtain ⟨t, ht, hlt, hgt⟩ : ∃ t, t ≤ n ∧ s / 2 ^ t = 0 ∧ ∀ i, i < t → 0 < s / 2 ^ i := by
    refine ⟨(if s = 0 then 0 else Nat.log2 s + 1), ?_, ?_, ?_⟩
    · split
      · omega
      · rename_i h
        have := (Nat.log2_lt h (k := n)).2 hs
        omega
    · split
      · rename_i h; simp [h]
      · exact Nat.div_eq_of_lt (Nat.lt_log2_self)
    · intro i hi
      split at hi
      · omega
      · rename_i h
        apply Nat.div_pos _ (Nat.two_pow_pos _)
        exact Nat.le_trans (Nat.pow_le_pow_right (by decide) (by omega : i ≤ Nat.log2 s)) (Nat.log2_self_le h)
  have hs2 := lt62 hs hn
  have hsplit : elems n s = elems t s := by
    unfold elems
    have e : List.range n = List.range t ++ List.range' t (n - t) := by
      rw [List.range_eq_range', List.range_eq_range']
      have := List.range'_append_1 (s := 0) (m := t) (n := n - t)
      rw [Nat.zero_add] at this
      rw [this]
      congr 1
      omega
    rw [e, List.filter_append]
    have z : (List.range' t (n - t)).filter (fun j => s.testBit j) = [] := by
      rw [List.filter_eq_nil_iff]
      intro j hj
      rw [List.mem_range'] at hj
      obtain ⟨i, hi, rfl⟩ := hj
      have h1 : s < 2 ^ t := by
        rcases Nat.div_eq_zero_iff.1 hlt with h | h
        · exact absurd h (Nat.ne_of_gt (Nat.two_pow_pos _))
        · exact h
      rw [Nat.testBit_lt_two_pow (Nat.lt_of_lt_of_le h1 (Nat.pow_le_pow_right (by decide) (by omega)))]
      simp
    rw [z, List.append_nil]
  rw [hsplit]
  unfold spec_orList.f
  refine Ev.up (fun i k => spec_orList.l0 k (s : Int) (ints (elems i s)) (i : Int)) t ?_ ?_
  · intro i hi h
    refine Ev.step (fun _ => rfl) ?_
    have e1 : shr .i64 (s : Int) (i : Int) > 0 := by rw [shr_nat s i (by omega)]; have := hgt i hi; omega
    have hlen := elems_length_le i s
    have e2 : elems (i + 1) s = elems i s ++ (if s.testBit i then [i] else []) := by
      unfold elems
      rw [List.range_succ, List.filter_append]
      congr 1
      cases hb2 : s.testBit i <;> simp [hb2]
    simp only [spec_orList.l0, if_pos (show (0 : Int) ≤ (i : Int) by omega), if_pos e1, orHas_eq s i (by omega), Option.bind_some, next64 i t hi (by omega)]
    rw [e2] at h
    cases hb : s.testBit i with
    | true =>
      simp only [if_true, ints_length, if_pos (show (elems i s).length < 17592186044416 by omega)]
      rw [hb] at h
      simpa [ints] using h
    | false =>
      rw [hb] at h
      simpa [ints] using h
  · refine Ev.step (fun _ => rfl) ?_
    have e1 : ¬ shr .i64 (s : Int) (t : Int) > 0 := by rw [shr_nat s t (by omega)]; omega
    simp only [spec_orList.l0, if_pos (show (0 : Int) ≤ (t : Int) by omega), if_neg e1]
    exact Ev.now _
end Go.Proofs.YtfjpilcmjabikaaDoor.M
namespace Go.Proofs.YtfjpilcmjabikaaDoor.M
open Go.RowKit Go.Proofs.YtfjpilcmjabikaaDoorW.PrintMore Go.Proofs.YtfjpilcmjabikaaDoorW.PrintLast Go.Proofs.YtfjpilcmjabikaaDoorW.PrintWords Go.Proofs.YtfjpilcmjabikaaDoor.P
def isRel (n : Int) (l : List Int) : Bool := decide (0 ≤ n ∧ n ≤ 10 ∧ (l.length : Int) = n ∧ ∀ x ∈ l, 0 ≤ x ∧ x ≤ ((2 ^ n.toNat : Nat) : Int) - 1)
def row (l : List Int) (i : Nat) : Nat := (l.getD i 0).toNat
def B (l : List Int) (i j : Nat) : Bool := (row l i).testBit j
structure Rel (n : Nat) (l : List Int) : Prop where
  le : n ≤ 10
  len : l.length = n
  mem : ∀ x ∈ l, 0 ≤ x ∧ x ≤ ((2 ^ n : Nat) : Int) - 1
theorem isRel_iff {n : Int} {l : List Int} : isRel n l = true ↔ ∃ m : Nat, n = m ∧ Rel m l := by
  unfold isRel
  rw [decide_eq_true_iff]
  constructor
  · rintro ⟨h0, h1, h2, h3⟩
    obtain ⟨m, rfl⟩ := Int.eq_ofNat_of_zero_le h0
    exact ⟨m, rfl, by omega, by omega, by simpa using h3⟩
  · rintro ⟨m, rfl, h⟩
    refine ⟨by omega, by have := h.le; omega, by have := h.len; omega, by simpa using h.mem⟩
section
variable {n : Nat} {l : List Int}
theorem Rel.getD (h : Rel n l) (i : Nat) : l.getD i 0 = ((row l i : Nat) : Int) := by
  unfold row
  by_cases hi : i < l.length
  · have := (h.mem l[i] (List.getElem_mem hi)).1
    rw [show l.getD i 0 = l[i] by simp [hi]]
    omega
  · rw [show l.getD i 0 = 0 by simp [Nat.not_lt.1 hi]]
    rfl
theorem Rel.row_lt (h : Rel n l) (i : Nat) : row l i < 2 ^ n := by
  have hp : 0 < 2 ^ n := Nat.two_pow_pos n
  by_cases hi : i < l.length
  · have h1 := h.mem l[i] (List.getElem_mem hi)
    have h2 := h.getD i
    rw [show l.getD i 0 = l[i] by simp [hi]] at h2
    omega
  · unfold row
    rw [show l.getD i 0 = 0 by simp [Nat.not_lt.1 hi]]
    simpa using hp
theorem Rel.row_62 (h : Rel n l) (i : Nat) : row l i < 9223372036854775808 := lt62 (h.row_lt i) (by have := h.le; omega)
theorem Rel.B_lt (h : Rel n l) {i j : Nat} (hb : B l i j = true) : j < n := by
  apply Nat.lt_of_not_le
  intro hle
  unfold B at hb
  rw [Nat.testBit_lt_two_pow (Nat.lt_of_lt_of_le (h.row_lt i) (Nat.pow_le_pow_right (by decide) hle))] at hb
  cases hb
theorem Rel.B_lt' (h : Rel n l) {i j : Nat} (hb : B l i j = true) : i < n := by
  apply Nat.lt_of_not_le
  intro hle
  unfold B row at hb
  rw [show l.getD i 0 = 0 by simp [h.len, hle]] at hb
  simp at hb
theorem Rel.rd (h : Rel n l) (i : Nat) : rd l (i : Int) = ((row l i : Nat) : Int) := by rw [rd_nat, h.getD]
theorem Rel.bit (h : Rel n l) (i j : Nat) : M.bit (Go.Proofs.YtfjpilcmjabikaaDoorW.PrintWords.rd l (i : Int)) j = B l i j := by rw [h.rd, bit_cast]; rfl
end
def relL (n : Nat) (p : Nat → Nat → Bool) : List Int := (List.range n).map fun i => ((setOf n (p i) : Nat) : Int)
theorem relL_length (n : Nat) (p : Nat → Nat → Bool) : (relL n p).length = n := by simp [relL]
theorem relL_rel (n : Nat) (hn : n ≤ 10) (p : Nat → Nat → Bool) : Rel n (relL n p) where
  le := hn
  len := relL_length n p
  mem := by
    intro x hx
    simp only [relL, List.mem_map, List.mem_range] at hx
    obtain ⟨i, _, rfl⟩ := hx
    have := setOf_lt n (p i)
    omega
theorem within_eq (a b c : Int) : impl_within.f a b c = some (decide (b ≤ a ∧ a ≤ c)) := by
  unfold impl_within.f
  by_cases h : a ≥ b
  · rw [if_pos h]; simp [h]
  · rw [if_neg h]; simp; omega
theorem l1In_eq (a b c : Int) : spec_l1In.f a b c = some (decide (b ≤ a ∧ a ≤ c)) := by
  unfold spec_l1In.f
  by_cases h : a ≥ b
  · rw [if_pos h]; simp [h]
  · rw [if_neg h]; simp; omega
def allIn (l : List Int) (a b : Int) : Bool := decide (∀ x ∈ l, a ≤ x ∧ x ≤ b)
theorem allIn_eq (l : List Int) (a b : Int) : allIn l a b = allB l.length fun i => decide (a ≤ l.getD i 0 ∧ l.getD i 0 ≤ b) := by
  rw [Bool.eq_iff_iff, allB_iff]
  simp only [allIn, decide_eq_true_iff]
  constructor
  · intro h i hi
    have := h l[i] (List.getElem_mem hi)
    simpa [hi] using this
  · intro h x hx
    obtain ⟨i, hi, rfl⟩ := List.getElem_of_mem hx
    have := h i hi
    simpa [hi] using this
theorem allWithin_ev (l : List Int) (a b : Int) (hl : l.length ≤ 140737488355328) : Ev (fun k => impl_allWithin.f k l a b) (allIn l a b) := by
  rw [allIn_eq]
  unfold impl_allWithin.f
  refine Ev.all (fun i k => impl_allWithin.l0 k a b l (l.length : Int) (i : Int)) l.length _ ?_ ?_ ?_
  · intro i r hi hp h
    refine Ev.step (fun _ => rfl) ?_
    rw [decide_eq_true_iff] at hp
    simp only [impl_allWithin.l0, if_pos (show (i : Int) < (l.length : Int) by omega), if_pos (show (0 : Int) ≤ (i : Int) by omega), within_eq, rd_nat, Option.bind_some, decide_eq_true hp, if_true, next64 i l.length hi hl]
    exact h
  · intro i hi hp
    refine Ev.step (fun _ => rfl) ?_
    rw [decide_eq_false_iff_not] at hp
    simp only [impl_allWithin.l0, if_pos (show (i : Int) < (l.length : Int) by omega), if_pos (show (0 : Int) ≤ (i : Int) by omega), within_eq, rd_nat, Option.bind_some, decide_eq_false hp, Bool.false_eq_true, if_false]
    exact Ev.now _
  · refine Ev.step (fun _ => rfl) ?_
    simp only [impl_allWithin.l0, if_neg (show ¬ (l.length : Int) < (l.length : Int) by omega)]
    exact Ev.now _
theorem l1All_ev (l : List Int) (a b : Int) (hl : l.length ≤ 140737488355328) : Ev (fun k => spec_l1All.f k l a b) (allIn l a b) := by
  rw [allIn_eq]
  unfold spec_l1All.f
  refine Ev.all (fun i k => spec_l1All.l0 k a b l (l.length : Int) (i : Int)) l.length _ ?_ ?_ ?_
  · intro i r hi hp h
    refine Ev.step (fun _ => rfl) ?_
    rw [decide_eq_true_iff] at hp
    simp only [spec_l1All.l0, if_pos (show (i : Int) < (l.length : Int) by omega), if_pos (show (0 : Int) ≤ (i : Int) by omega), l1In_eq, rd_nat, Option.bind_some, decide_eq_true hp, if_true, next64 i l.length hi hl]
    exact h
  · intro i hi hp
    refine Ev.step (fun _ => rfl) ?_
    rw [decide_eq_false_iff_not] at hp
    simp only [spec_l1All.l0, if_pos (show (i : Int) < (l.length : Int) by omega), if_pos (show (0 : Int) ≤ (i : Int) by omega), l1In_eq, rd_nat, Option.bind_some, decide_eq_false hp, Bool.false_eq_true, if_false]
    exact Ev.now _
  · refine Ev.step (fun _ => rfl) ?_
    simp only [spec_l1All.l0, if_neg (show ¬ (l.length : Int) < (l.length : Int) by omega)]
    exact Ev.now _
theorem pow_of (n : Int) (h0 : 0 ≤ n) (h1 : n ≤ 10) : wrap64 (shl .i64 1 n - 1) = ((2 ^ n.toNat : Nat) : Int) - 1 := by
  obtain ⟨m, rfl⟩ := Int.eq_ofNat_of_zero_le h0
  rw [shl1 m (by omega), Int.toNat_natCast]
  have h2 : (2 : Nat) ^ m ≤ 2 ^ 10 := Nat.pow_le_pow_right (by decide) (by omega)
  have h3 : 0 < (2 : Nat) ^ m := Nat.two_pow_pos m
  exact wrap64_id _ (by omega) (by omega)
theorem isRel_parts (n : Int) (l : List Int) : isRel n l = (decide (0 ≤ n ∧ n ≤ 10) && (decide ((l.length : Int) = n) && allIn l 0 (((2 ^ n.toNat : Nat) : Int) - 1))) := by
  rw [Bool.eq_iff_iff]
  simp only [isRel, allIn, Bool.and_eq_true, decide_eq_true_iff]
  exact ⟨fun ⟨a, b, c, d⟩ => ⟨⟨a, b⟩, c, d⟩, fun ⟨⟨a, b⟩, c, d⟩ => ⟨a, b, c, d⟩⟩
theorem IsRelation_ev (n : Int) (l : List Int) (hl : l.length ≤ 140737488355328) : Ev (fun k => impl_IsRelation.f k n l) (isRel n l) := by
  unfold impl_IsRelation.f
  simp only [within_eq, Option.bind_some]
  rw [isRel_parts]
  by_cases h1 : 0 ≤ n ∧ n ≤ 10
  · by_cases h2 : (l.length : Int) = n
    · simp only [decide_eq_true h1, if_true, if_pos h2, if_pos h1.1, pow_of n h1.1 h1.2, decide_eq_true h2, Bool.true_and]
      exact Ev.bind (allWithin_ev l _ _ hl) (Ev.now _)
    · simp only [decide_eq_true h1, if_true, if_neg h2, decide_eq_false h2, Bool.false_and, Bool.and_false]
      exact Ev.now _
  · simp only [decide_eq_false h1, Bool.false_eq_true, if_false, Bool.false_and]
    exact Ev.now _
theorem orRelation_ev (n : Int) (l : List Int) (hl : l.length ≤ 140737488355328) : Ev (fun k => spec_orRelation.f k n l) (isRel n l) := by
  unfold spec_orRelation.f
  simp only [l1In_eq, Option.bind_some]
  rw [isRel_parts]
  by_cases h1 : 0 ≤ n ∧ n ≤ 10
  · by_cases h2 : (l.length : Int) = n
    · simp only [decide_eq_true h1, if_true, if_pos h2, if_pos h1.1, pow_of n h1.1 h1.2, decide_eq_true h2, Bool.true_and]
      exact Ev.bind (l1All_ev l _ _ hl) (Ev.now _)
    · simp only [decide_eq_true h1, if_true, if_neg h2, decide_eq_false h2, Bool.false_and, Bool.and_false]
      exact Ev.now _
  · simp only [decide_eq_false h1, Bool.false_eq_true, if_false, Bool.false_and]
    exact Ev.now _
def closedAt (n : Nat) (l : List Int) (i : Nat) : Bool := allB (elems n (row l i)).length fun q => diff (row l ((elems n (row l i)).getD q 0)) (row l i) == 0
def isOrd (n : Int) (l : List Int) : Bool := isRel n l && allB l.length fun i => !B l i i && closedAt l.length l i
theorem better_eq {n : Nat} {l : List Int} (h : Rel n l) (m : Int) (i j : Nat) (hi : i < n) (hj : j ≤ 62) : impl_Order_better.f m l (i : Int) (j : Int) = some (B l i j) := by
  unfold impl_Order_better.f
  rw [if_pos (by omega), if_pos (by rw [h.len]; omega), if_pos (by omega), has_and _ _ (by rw [h.rd]; omega) (by rw [h.rd]; have := h.row_62 i; omega) (by omega), h.bit]
theorem diff_zero (a b : Nat) : (diff a b = 0) ↔ ∀ j, a.testBit j = true → b.testBit j = true := by
  constructor
  · intro h j hj
    have := testBit_diff a b j
    rw [h, hj] at this
    simpa using this.symm
  · intro h
    apply Nat.eq_of_testBit_eq
    intro j
    rw [testBit_diff]
    cases hj : a.testBit j with
    | false => simp
    | true => simp [h j hj]
theorem ints_getD (l : List Nat) (q : Nat) (h : q < l.length) : (ints l).getD q 0 = ((l.getD q 0 : Nat) : Int) := by simp [ints, h]
theorem closed_iff {n : Nat} {l : List Int} (h : Rel n l) (i : Nat) : closedAt n l i = true ↔ ∀ j k, B l i j = true → B l j k = true → B l i k = true := by
  unfold closedAt
  rw [allB_iff]
  constructor
  · intro H j k hij hjk
    have hm : j ∈ elems n (row l i) := mem_elems.2 ⟨h.B_lt hij, hij⟩
    obtain ⟨q, hq, e⟩ := List.getElem_of_mem hm
    have := H q hq
    rw [show (elems n (row l i)).getD q 0 = j by simp [hq, e], beq_iff_eq, diff_zero] at this
    exact this k hjk
  · intro H q hq
    rw [beq_iff_eq, diff_zero]
    intro k hk
    have hm : (elems n (row l i)).getD q 0 ∈ elems n (row l i) := by simp [hq]
    exact H _ k (mem_elems.1 hm).2 hk
structure Ord (n : Nat) (l : List Int) : Prop extends Rel n l where
  irr : ∀ i, B l i i = false
  trans : ∀ i j k, B l i j = true → B l j k = true → B l i k = true
theorem isOrd_iff {n : Int} {l : List Int} : isOrd n l = true ↔ ∃ m : Nat, n = m ∧ Ord m l := by
  unfold isOrd
  rw [Bool.and_eq_true, isRel_iff, allB_iff]
  constructor
  · rintro ⟨⟨m, rfl, h⟩, H⟩
    rw [h.len] at H
    refine ⟨m, rfl, h, fun i => ?_, fun i j k hij hjk => ?_⟩
    · cases hc : B l i i with
      | false => rfl
      | true =>
        have := H i (h.B_lt hc)
        rw [hc] at this
        simp at this
    · have := H i (h.B_lt' hij)
      rw [Bool.and_eq_true] at this
      exact (closed_iff h i).1 this.2 j k hij hjk
  · rintro ⟨m, rfl, h⟩
    refine ⟨⟨m, rfl, h.toRel⟩, fun i _ => ?_⟩
    rw [h.irr i, h.len, (closed_iff h.toRel i).2 (h.trans i)]
    rfl
theorem IsOrder_ev (n : Int) (l : List Int) (hl : l.length ≤ 140737488355328) : Ev (fun k => impl_IsOrder.f k n l) (isOrd n l) := by
  unfold impl_IsOrder.f isOrd
  refine Ev.bind (IsRelation_ev n l hl) ?_
  cases hr : isRel n l with
  | false => simp only [Bool.false_eq_true, if_false, Bool.false_and]; exact Ev.now _
  | true =>
    obtain ⟨m, rfl, h⟩ := isRel_iff.1 hr
    have hlen := h.len
    have h10 := h.le
    simp only [if_true, Bool.true_and]
    refine Ev.all (fun i k => impl_IsOrder.l0 k l (l.length : Int) (i : Int) (m : Int) l) l.length _ ?_ ?_ ?_
    · intro i r hi hp hrest
      rw [Bool.and_eq_true] at hp
      have hB : B l i i = false := by simpa using hp.1
      refine Ev.step (fun _ => rfl) ?_
      simp only [impl_IsOrder.l0, if_pos (show (i : Int) < (l.length : Int) by omega), if_pos (show (0 : Int) ≤ (i : Int) by omega), better_eq h _ i i (by omega) (by omega), Option.bind_some, hB, Bool.false_eq_true, if_false, h.rd]
      refine Ev.bind (members_ev m (by omega) (row l i) (h.row_lt i)) ?_
      have hE := elems_length_le m (row l i)
      rw [ints_length]
      refine Ev.up (fun q k => impl_IsOrder.l1 k ((row l i : Nat) : Int) l (l.length : Int) (i : Int) (ints (elems m (row l i))) ((elems m (row l i)).length : Int) (q : Int) (m : Int) l) (elems m (row l i)).length ?_ ?_
      · intro q hq hn
        refine Ev.step (fun _ => rfl) ?_
        have hmem : (elems m (row l i)).getD q 0 ∈ elems m (row l i) := by simp [hq]
        have hlt := (mem_elems.1 hmem).1
        have e0 : rd (ints (elems m (row l i))) (q : Int) = (((elems m (row l i)).getD q 0 : Nat) : Int) := by rw [rd_nat, ints_getD _ _ hq]
        have hd : diff (row l ((elems m (row l i)).getD q 0)) (row l i) = 0 := by
          have hc := hp.2
          unfold closedAt at hc
          rw [allB_iff, hlen] at hc
          exact beq_iff_eq.1 (hc q hq)
        simp only [impl_IsOrder.l1, if_pos (show (q : Int) < ((elems m (row l i)).length : Int) by omega), if_pos (show (0 : Int) ≤ (q : Int) by omega), ints_length, e0, if_pos (show (0 : Int) ≤ (((elems m (row l i)).getD q 0 : Nat) : Int) by omega), if_pos (show (((elems m (row l i)).getD q 0 : Nat) : Int) < (l.length : Int) by omega), h.rd, andNot_i64 _ _ (h.row_62 _) (h.row_62 _), hd, Int.natCast_zero, if_true, next64 q _ hq (by omega)]
        exact hn
      · refine Ev.step (fun _ => rfl) ?_
        simp only [impl_IsOrder.l1, if_neg (show ¬ ((elems m (row l i)).length : Int) < ((elems m (row l i)).length : Int) by omega), next64 i l.length hi (by omega)]
        exact hrest
    · intro i hi hp
      refine Ev.step (fun _ => rfl) ?_
      simp only [impl_IsOrder.l0, if_pos (show (i : Int) < (l.length : Int) by omega), if_pos (show (0 : Int) ≤ (i : Int) by omega), better_eq h _ i i (by omega) (by omega), Option.bind_some]
      cases hB : B l i i with
      | true => simp only [if_true]; exact Ev.now _
      | false =>
        rw [hB] at hp
        have hc : closedAt l.length l i = false := by simpa using hp
        unfold closedAt at hc
        rw [hlen] at hc
        obtain ⟨j, hj, hbad, hless⟩ := least_false (allB_false.1 hc)
        simp only [Bool.false_eq_true, if_false, h.rd]
        refine Ev.bind (members_ev m (by omega) (row l i) (h.row_lt i)) ?_
        have hE := elems_length_le m (row l i)
        rw [ints_length]
        refine Ev.up (fun q k => impl_IsOrder.l1 k ((row l i : Nat) : Int) l (l.length : Int) (i : Int) (ints (elems m (row l i))) ((elems m (row l i)).length : Int) (q : Int) (m : Int) l) j ?_ ?_
        · intro q hq hn
          refine Ev.step (fun _ => rfl) ?_
          have hmem : (elems m (row l i)).getD q 0 ∈ elems m (row l i) := by simp [show q < (elems m (row l i)).length by omega]
          have hlt := (mem_elems.1 hmem).1
          have e0 : rd (ints (elems m (row l i))) (q : Int) = (((elems m (row l i)).getD q 0 : Nat) : Int) := by rw [rd_nat, ints_getD _ _ (by omega)]
          have hd : diff (row l ((elems m (row l i)).getD q 0)) (row l i) = 0 := beq_iff_eq.1 (hless q hq)
          simp only [impl_IsOrder.l1, if_pos (show (q : Int) < ((elems m (row l i)).length : Int) by omega), if_pos (show (0 : Int) ≤ (q : Int) by omega), ints_length, e0, if_pos (show (0 : Int) ≤ (((elems m (row l i)).getD q 0 : Nat) : Int) by omega), if_pos (show (((elems m (row l i)).getD q 0 : Nat) : Int) < (l.length : Int) by omega), h.rd, andNot_i64 _ _ (h.row_62 _) (h.row_62 _), hd, Int.natCast_zero, if_true, next64 q _ (show q < (elems m (row l i)).length by omega) (by omega)]
          exact hn
        · refine Ev.step (fun _ => rfl) ?_
          have hmem : (elems m (row l i)).getD j 0 ∈ elems m (row l i) := by simp [hj]
          have hlt := (mem_elems.1 hmem).1
          have e0 : rd (ints (elems m (row l i))) (j : Int) = (((elems m (row l i)).getD j 0 : Nat) : Int) := by rw [rd_nat, ints_getD _ _ (by omega)]
          have hd : ¬ ((diff (row l ((elems m (row l i)).getD j 0)) (row l i) : Nat) : Int) = 0 := by
            have := beq_eq_false_iff_ne.1 hbad
            omega
          simp only [impl_IsOrder.l1, if_pos (show (j : Int) < ((elems m (row l i)).length : Int) by omega), if_pos (show (0 : Int) ≤ (j : Int) by omega), ints_length, e0, if_pos (show (0 : Int) ≤ (((elems m (row l i)).getD j 0 : Nat) : Int) by omega), if_pos (show (((elems m (row l i)).getD j 0 : Nat) : Int) < (l.length : Int) by omega), h.rd, andNot_i64 _ _ (h.row_62 _) (h.row_62 _), if_neg hd]
          exact Ev.now _
    · refine Ev.step (fun _ => rfl) ?_
      simp only [impl_IsOrder.l0, if_neg (show ¬ (l.length : Int) < (l.length : Int) by omega)]
      exact Ev.now _
end Go.Proofs.YtfjpilcmjabikaaDoor.M
namespace Go.Proofs.YtfjpilcmjabikaaDoor.M
open Go.RowKit Go.Proofs.YtfjpilcmjabikaaDoorW.PrintMore Go.Proofs.YtfjpilcmjabikaaDoorW.PrintLast Go.Proofs.YtfjpilcmjabikaaDoorW.PrintWords Go.Proofs.YtfjpilcmjabikaaDoor.P
set_option maxRecDepth 4000
theorem Ev.hit {β γ : Type} {enc : β → γ} {b : β} (G : Nat → Nat → Option γ) (n : Nat) (f : Nat → Option β) (h : (List.range n).findSome? f = some b) (hit : ∀ i b, i < n → f i = some b → Ev (G i) (enc b)) (miss : ∀ i r, i < n → f i = none → Ev (G (i + 1)) r → Ev (G i) r) :
    Ev (G 0) (enc b) := by
  have key : ∀ m i, i + m = n → (List.range' i m).findSome? f = some b → Ev (G i) (enc b) := by
    intro m
    induction m with
    | zero => intro i _ h; simp at h
    | succ m ih =>
      intro i hi h
      rw [List.range'_succ, List.findSome?_cons] at h
      cases hc : f i with
      | some c => rw [hc] at h; injection h with h; subst h; exact hit i c (by omega) hc
      | none => rw [hc] at h; exact miss i _ (by omega) hc (ih (i + 1) (by omega) h)
  rw [List.range_eq_range'] at h
  exact key n 0 (by omega) h
theorem Ev.miss {β γ : Type} {r : γ} (G : Nat → Nat → Option γ) (n : Nat) (f : Nat → Option β) (h : (List.range n).findSome? f = none) (miss : ∀ i r, i < n → f i = none → Ev (G (i + 1)) r → Ev (G i) r) (stop : Ev (G n) r) : Ev (G 0) r := by
  have h := List.findSome?_eq_none_iff.1 h
  exact Ev.up G n (fun i hi next => miss i r hi (h i (by simpa using hi)) next) stop
def fits (l m : List Int) (z : List Nat) (x : Nat) : Bool :=
  (!decide (x ∈ z) && (B l x x == B m z.length z.length)) && allB z.length fun b => (B l x (z.getD b 0) == B m z.length b) && (B l (z.getD b 0) x == B m b z.length)
def findP (n : Nat) (l m : List Int) : Nat → List Nat → Option (List Nat)
  | 0, z => some z
  | d + 1, z => (List.range n).findSome? fun x => if fits l m z x then findP n l m d (z ++ [x]) else none
def Good (l m : List Int) (z : List Nat) : Prop := ∀ a b, a < z.length → b < z.length → (a ≠ b → z.getD a 0 ≠ z.getD b 0) ∧ B l (z.getD a 0) (z.getD b 0) = B m a b
theorem snoc_lt (z : List Nat) (x a : Nat) (h : a < z.length) : (z ++ [x]).getD a 0 = z.getD a 0 := by
  rw [List.getD_eq_getElem?_getD, List.getD_eq_getElem?_getD, List.getElem?_append_left h]
theorem snoc_len (z : List Nat) (x : Nat) : (z ++ [x]).getD z.length 0 = x := by simp
theorem mem_at {z : List Nat} {x : Nat} (h : x ∈ z) : ∃ a, a < z.length ∧ z.getD a 0 = x := by
  obtain ⟨a, ha, e⟩ := List.getElem_of_mem h
  exact ⟨a, ha, by simp [ha, e]⟩
theorem at_mem {z : List Nat} (a : Nat) (h : a < z.length) : z.getD a 0 ∈ z := by
  simp [h]
theorem good_snoc {l m : List Int} {z : List Nat} {x : Nat} : Good l m (z ++ [x]) ↔ Good l m z ∧ fits l m z x = true := by
  have hl : (z ++ [x]).length = z.length + 1 := by simp
  constructor
  · intro g
    refine ⟨fun a b ha hb => ?_, ?_⟩
    · have h := g a b (by omega) (by omega)
      rw [snoc_lt z x a ha, snoc_lt z x b hb] at h
      exact h
    · have g0 := (g z.length z.length (by omega) (by omega)).2
      rw [snoc_len] at g0
      unfold fits
      rw [Bool.and_eq_true, Bool.and_eq_true, allB_iff]
      refine ⟨⟨?_, by rw [beq_iff_eq]; exact g0⟩, fun b hb => ?_⟩
      · rw [Bool.not_eq_true', decide_eq_false_iff_not]
        intro hm
        obtain ⟨a, ha, e⟩ := mem_at hm
        have h := (g a z.length (by omega) (by omega)).1 (by omega)
        rw [snoc_lt z x a ha, snoc_len] at h
        exact h e
      · have h1 := (g z.length b (by omega) (by omega)).2
        have h2 := (g b z.length (by omega) (by omega)).2
        rw [snoc_lt z x b hb, snoc_len] at h1 h2
        rw [Bool.and_eq_true, beq_iff_eq, beq_iff_eq]
        exact ⟨h1, h2⟩
  · rintro ⟨g, hf⟩
    unfold fits at hf
    rw [Bool.and_eq_true, Bool.and_eq_true, allB_iff, Bool.not_eq_true', decide_eq_false_iff_not, beq_iff_eq] at hf
    obtain ⟨⟨hn, hd⟩, hb⟩ := hf
    have hb : ∀ b, b < z.length → B l x (z.getD b 0) = B m z.length b ∧ B l (z.getD b 0) x = B m b z.length := by
      intro b h
      have := hb b h
      rw [Bool.and_eq_true, beq_iff_eq, beq_iff_eq] at this
      exact this
    intro a b ha hb'
    rw [hl] at ha hb'
    by_cases ea : a = z.length
    · by_cases eb : b = z.length
      · subst ea; subst eb
        rw [snoc_len]
        exact ⟨fun h => absurd rfl h, hd⟩
      · have hbl : b < z.length := by omega
        subst ea
        rw [snoc_len, snoc_lt z x b hbl]
        exact ⟨fun _ e => hn (e ▸ at_mem b hbl), (hb b hbl).1⟩
    · have hal : a < z.length := by omega
      by_cases eb : b = z.length
      · subst eb
        rw [snoc_len, snoc_lt z x a hal]
        exact ⟨fun _ e => hn (e ▸ at_mem a hal), (hb a hal).2⟩
      · have hbl : b < z.length := by omega
        rw [snoc_lt z x a hal, snoc_lt z x b hbl]
        exact g a b hal hbl
theorem good_nil (l m : List Int) : Good l m [] := fun a b ha _ => by simp at ha
theorem findP_some {n : Nat} {l m : List Int} : ∀ d z r, findP n l m d z = some r → (∀ x ∈ z, x < n) → Good l m z → Good l m r ∧ r.length = z.length + d ∧ (∀ x ∈ r, x < n) := by
  intro d
  induction d with
  | zero =>
    intro z r h hz g
    injection h with h
    subst h
    exact ⟨g, rfl, hz⟩
  | succ d ih =>
    intro z r h hz g
    unfold findP at h
    obtain ⟨x, hx, h⟩ := List.exists_of_findSome?_eq_some h
    split at h
    · rename_i hf
      have hxn : x < n := by simpa using hx
      obtain ⟨h1, h2, h3⟩ := ih (z ++ [x]) r h (fun y hy => by
        rcases List.mem_append.1 hy with hy | hy
        · exact hz y hy
        · simp at hy; omega) (good_snoc.2 ⟨g, hf⟩)
      exact ⟨h1, by simp at h2; omega, h3⟩
    · cases h
theorem good_left {l m : List Int} {t : List Nat} : ∀ z, Good l m (z ++ t) → Good l m z := by
  intro z g a b ha hb
  have h := g a b (by simp; omega) (by simp; omega)
  rw [List.getD_eq_getElem?_getD, List.getD_eq_getElem?_getD, List.getElem?_append_left ha, List.getElem?_append_left hb] at h
  rw [List.getD_eq_getElem?_getD, List.getD_eq_getElem?_getD]
  exact h
theorem findP_complete {n : Nat} {l m : List Int} : ∀ d z t, Good l m (z ++ t) → t.length = d → (∀ x ∈ t, x < n) → findP n l m d z ≠ none := by
  intro d
  induction d with
  | zero => intro z t _ _ _ h; cases h
  | succ d ih =>
    intro z t g ht hn h
    cases t with
    | nil => simp at ht
    | cons x t =>
      unfold findP at h
      have h := List.findSome?_eq_none_iff.1 h x (by simpa using hn x (by simp))
      have g' : Good l m ((z ++ [x]) ++ t) := by simpa using g
      rw [if_pos (good_snoc.1 (good_left _ g')).2] at h
      exact ih (z ++ [x]) t g' (by simpa using ht) (fun y hy => hn y (by simp [hy])) h
def goL (n : Nat) (leaf : List Nat → Option (List Nat)) : Nat → List Nat → Option (List Nat)
  | 0, z => leaf z
  | d + 1, z => (List.range n).findSome? fun x => goL n leaf d (z ++ [x])
theorem findP_leaf {n : Nat} {l m : List Int} (L : Nat) (leaf : List Nat → Option (List Nat)) (h1 : ∀ z, z.length = L → Good l m z → leaf z = some z) (h2 : ∀ z, z.length = L → ¬ Good l m z → leaf z = none) :
    ∀ d z, z.length + d = L → (Good l m z → findP n l m d z = goL n leaf d z) ∧ (¬ Good l m z → goL n leaf d z = none) := by
  intro d
  induction d with
  | zero => intro z hz; exact ⟨fun g => (h1 z hz g).symm, fun g => h2 z hz g⟩
  | succ d ih =>
    intro z hz
    have ih' := fun x => ih (z ++ [x]) (by simp; omega)
    refine ⟨fun g => ?_, fun g => ?_⟩
    · unfold findP goL
      congr 1
      funext x
      by_cases hf : fits l m z x = true
      · rw [if_pos hf]
        exact (ih' x).1 (good_snoc.2 ⟨g, hf⟩)
      · rw [if_neg hf]
        exact ((ih' x).2 fun g' => hf (good_snoc.1 g').2).symm
    · unfold goL
      rw [List.findSome?_eq_none_iff]
      intro x _
      exact (ih' x).2 fun g' => g (good_snoc.1 g').1
end Go.Proofs.YtfjpilcmjabikaaDoor.M
namespace Go.Proofs.YtfjpilcmjabikaaDoor.P
open Go.RowKit Go.Proofs.YtfjpilcmjabikaaDoorW.PrintWords Go.Proofs.YtfjpilcmjabikaaDoorW.PrintLast Go.Proofs.YtfjpilcmjabikaaDoorW.PrintMore
open Bool renaming true → T, false → F
open List renaming setIfInBounds_toArray → L_, set_cons_zero → M_, set_cons_succ → N_, map_toArray → P_, map_cons → Q_, map_nil → R_, length_drop → S_, length_take → U_
open Aside0 renaming mk → A_
attribute [local go_sem] max2_int min2_int max_two min_two max_three min_three max_four min_four
set_option linter.unusedVariables false
set_option linter.unusedSimpArgs false
attribute [local go_sem] fldOrder_0 fldOrder_1
def spec_orBelow.l0 : Nat → Int → Int → List Int → Int → Int → Option (Int)
 | 0,_,_,_,_,_=>none
 | k + 1,x1,x5,x9,x10,x11=>if x11 < x10 then (if 0 ≤ x11 then (if x11 < (x9.length : Int) then ((spec_orHas.f (rd x9 x11) x1).bind fun t817=>(if t817 = true then (spec_orBelow.l0 k x1 (Go.bits .or .i64 x5 (shl .i64 1 x11)) x9 x10 (wrap64 (x11 + 1))) else (spec_orBelow.l0 k x1 x5 x9 x10 (wrap64 (x11 + 1))))) else (none)) else (none)) else (some x5)
def spec_orBelow.f (k : Nat) (a0_0 : Int) (l0_1 : List Int) (a1 : Int) : Option (Int) := spec_orBelow.l0 k a1 0 l0_1 (l0_1.length : Int) 0
def spec_orFree.f (k : Nat) (a0_0 : Int) (l0_1 : List Int) (a1 : Int) : Option (Int) := if 0 ≤ a0_0 then (if 0 ≤ a1 then (if a1 < (l0_1.length : Int) then ((spec_orBelow.f k a0_0 l0_1 a1).bind fun t820 => (some (Go.bits .andNot .i64 (wrap64 ((shl .i64 1 a0_0) - 1)) (Go.bits .or .i64 (Go.bits .or .i64 (rd l0_1 a1) t820) (shl .i64 1 a1))))) else (none)) else (none)) else (none)
mutual
def spec_ThreeOneOf.l0 : Nat → Int → Int → List Int → Option (List Int × Bool)
 | 0,_,_,_=>none
 | k + 1,x4,x913000,x913001=>if x4 < x913000 then (if 0 ≤ x4 then (if x4 < (x913001.length : Int) then ((spec_orList.f k (rd x913001 x4)).bind fun t915=>(spec_ThreeOneOf.l1 k x4 t915 (t915.length : Int) 0 x913000 x913001)) else (none)) else (none)) else (some (([] : List Int),false))
def spec_ThreeOneOf.l1 : Nat → Int → List Int → Int → Int → Int → List Int → Option (List Int × Bool)
 | 0,_,_,_,_,_,_=>none
 | k + 1,x4,x25,x26,x27,x913000,x913001=>if x27 < x26 then (if 0 ≤ x27 then (if x27 < (x25.length : Int) then (if 0 ≤ (rd x25 x27) then (if (rd x25 x27) < (x913001.length : Int) then ((spec_orList.f k (rd x913001 (rd x25 x27))).bind fun t920=>(spec_ThreeOneOf.l2 k x4 (rd x25 x27) x25 x26 x27 t920 (t920.length : Int) 0 x913000 x913001)) else (none)) else (none)) else (none)) else (none)) else (spec_ThreeOneOf.l0 k (wrap64 (x4 + 1)) x913000 x913001)
def spec_ThreeOneOf.l2 : Nat → Int → Int → List Int → Int → Int → List Int → Int → Int → Int → List Int → Option (List Int × Bool)
 | 0,_,_,_,_,_,_,_,_,_,_=>none
 | k + 1,x4,x6,x25,x26,x27,x36,x37,x38,x913000,x913001=>if x38 < x37 then (if 0 ≤ x38 then (if x38 < (x36.length : Int) then ((spec_orFree.f k x913000 x913001 x4).bind fun t924=>((spec_orFree.f k x913000 x913001 x6).bind fun t925=>((spec_orFree.f k x913000 x913001 (rd x36 x38)).bind fun t926=>((spec_orList.f k (Go.bits .and .i64 (Go.bits .and .i64 t924 t925) t926)).bind fun t927=>(spec_ThreeOneOf.l3 k x4 x6 (rd x36 x38) x25 x26 x27 x36 x37 x38 t927 (t927.length : Int) 0 x913000 x913001))))) else (none)) else (none)) else (spec_ThreeOneOf.l1 k x4 x25 x26 (wrap64 (x27 + 1)) x913000 x913001)
def spec_ThreeOneOf.l3 : Nat → Int → Int → Int → List Int → Int → Int → List Int → Int → Int → List Int → Int → Int → Int → List Int → Option (List Int × Bool)
 | 0,_,_,_,_,_,_,_,_,_,_,_,_,_,_=>none
 | k + 1,x4,x6,x8,x25,x26,x27,x36,x37,x38,x53,x54,x55,x913000,x913001=>if x55 < x54 then (if 0 ≤ x55 then (if x55 < (x53.length : Int) then (some ((([x4,x6,x8,rd x53 x55] : List Int)),true)) else (none)) else (none)) else (spec_ThreeOneOf.l2 k x4 x6 x25 x26 x27 x36 x37 (wrap64 (x38 + 1)) x913000 x913001)
end
def spec_ThreeOneOf.f (k : Nat) (a0_0 : Int) (l0_1 : List Int) : Option (List Int × Bool) := (spec_orGood.f k a0_0 l0_1).bind fun t913 => (if t913 = true then (spec_ThreeOneOf.l0 k 0 a0_0 l0_1) else (some (([] : List Int), false)))
def impl_Order_all.f (a0_0 : Int) (l0_1 : List Int) : Option (Int) := if 0 ≤ a0_0 then (some (wrap64 ((shl .i64 1 a0_0) - 1))) else (none)
def impl_Order_indifferent.l0 : Nat → List Int → Int → Int → Int → List Int → Int → List Int → Option (List Int)
 | 0,_,_,_,_,_,_,_=>none
 | k + 1,x3,x10,x11,x853000,x853001,x861000,x861001=>if x11 < x10 then ((impl_Order_all.f x853000 x853001).bind fun t861=>(if 0 ≤ x11 then (if x11 < (x853001.length : Int) then (if x11 < (x861001.length : Int) then (if x3.length < 17592186044416 then (impl_Order_indifferent.l0 k (x3 ++ [Go.bits .andNot .i64 (Go.bits .andNot .i64 (Go.bits .andNot .i64 t861 (rd x853001 x11)) (rd x861001 x11)) (shl .i64 1 x11)]) x10 (wrap64 (x11 + 1)) x853000 x853001 x861000 x861001) else (none)) else (none)) else (none)) else (none))) else (some x3)
def impl_Order_indifferent.f (k : Nat) (a0_0 : Int) (l0_1 : List Int) : Option (List Int) := (impl_Order_mirror.f k a0_0 l0_1).bind fun bt856 => (impl_Order_indifferent.l0 k (([] : List Int)) a0_0 0 a0_0 l0_1 bt856.1 bt856.2)
mutual
def impl_Order_threeOne.l0 : Nat → List Int → Int → Int → Int → List Int → Option (List Int)
 | 0,_,_,_,_,_=>none
 | k + 1,x3,x13,x14,x868000,x868001=>if x14 < x13 then (if 0 ≤ x14 then (if x14 < (x868001.length : Int) then ((impl_members.f k (rd x868001 x14)).bind fun t872=>(impl_Order_threeOne.l1 k x3 x14 x13 x14 t872 (t872.length : Int) 0 x868000 x868001)) else (none)) else (none)) else (some ([] : List Int))
def impl_Order_threeOne.l1 : Nat → List Int → Int → Int → Int → List Int → Int → Int → Int → List Int → Option (List Int)
 | 0,_,_,_,_,_,_,_,_,_=>none
 | k + 1,x3,x4,x13,x14,x22,x23,x24,x868000,x868001=>if x24 < x23 then (if 0 ≤ x24 then (if x24 < (x22.length : Int) then (if 0 ≤ (rd x22 x24) then (if (rd x22 x24) < (x868001.length : Int) then ((impl_members.f k (rd x868001 (rd x22 x24))).bind fun t877=>(impl_Order_threeOne.l2 k x3 x4 (rd x22 x24) x13 x14 x22 x23 x24 t877 (t877.length : Int) 0 x868000 x868001)) else (none)) else (none)) else (none)) else (none)) else (impl_Order_threeOne.l0 k x3 x13 (wrap64 (x14 + 1)) x868000 x868001)
def impl_Order_threeOne.l2 : Nat → List Int → Int → Int → Int → Int → List Int → Int → Int → List Int → Int → Int → Int → List Int → Option (List Int)
 | 0,_,_,_,_,_,_,_,_,_,_,_,_,_=>none
 | k + 1,x3,x4,x6,x13,x14,x22,x23,x24,x33,x34,x35,x868000,x868001=>if x35 < x34 then (if 0 ≤ x35 then (if x35 < (x33.length : Int) then (if 0 ≤ x4 then (if x4 < (x3.length : Int) then (if 0 ≤ x6 then (if x6 < (x3.length : Int) then (if 0 ≤ (rd x33 x35) then (if (rd x33 x35) < (x3.length : Int) then (if (Go.bits .and .i64 (Go.bits .and .i64 (rd x3 x4) (rd x3 x6)) (rd x3 (rd x33 x35))) = 0 then (impl_Order_threeOne.l2 k x3 x4 x6 x13 x14 x22 x23 x24 x33 x34 (wrap64 (x35 + 1)) x868000 x868001) else ((impl_members.f k (Go.bits .and .i64 (Go.bits .and .i64 (rd x3 x4) (rd x3 x6)) (rd x3 (rd x33 x35)))).bind fun t884=>(if 0 < (t884.length : Int) then (some (([x4,x6,rd x33 x35,rd t884 0] : List Int))) else (none)))) else (none)) else (none)) else (none)) else (none)) else (none)) else (none)) else (none)) else (none)) else (impl_Order_threeOne.l1 k x3 x4 x13 x14 x22 x23 (wrap64 (x24 + 1)) x868000 x868001)
end
def impl_Order_threeOne.f (k : Nat) (a0_0 : Int) (l0_1 : List Int) : Option (List Int) := (impl_Order_indifferent.f k a0_0 l0_1).bind fun t868 => (impl_Order_threeOne.l0 k t868 a0_0 0 a0_0 l0_1)
theorem impl_isSemi.nilAt {P : Program} (w : World) (d : Nat) (t e : TypeId) (a : Option Addr) (l c : Nat) (h : P.underlying t = some (.slice e)) : (Op.equalIn (d + 1) t (.slice a l c) (.slice none 0 0)).run P w = .ok a.isNone w:=by
 cases a <;> simp [Op.equalIn,run_underlying h]
theorem impl_isSemi.nilOf {P : Program} (w : World) (t e : TypeId) (a : Option Addr) (l c : Nat) (h : P.underlying t = some (.slice e)) : (binOp .eql t (.slice a l c) (.slice none 0 0)).run P w = .ok (.bool a.isNone) w:=by
 have h1 : (Op.equal t (.slice a l c) (.slice none 0 0)).run P w = .ok a.isNone w:=impl_isSemi.nilAt w 9999 t e a l c h;simp [binOp,h1]
theorem impl_isSemi.nilNo {P : Program} (w : World) (t e : TypeId) (a : Option Addr) (l c : Nat) (h : P.underlying t = some (.slice e)) : (binOp .neq t (.slice a l c) (.slice none 0 0)).run P w = .ok (.bool (!a.isNone)) w:=by
 have h1 : (Op.equal t (.slice a l c) (.slice none 0 0)).run P w = .ok a.isNone w:=impl_isSemi.nilAt w 9999 t e a l c h;simp [binOp,h1]
theorem impl_isSemi.nilE (w : World) (a : Option Addr) (l c : Nat) : (binOp .eql 24 (.slice a l c) (.slice none 0 0)).run Tryd.prog w = .ok (.bool a.isNone) w:=impl_isSemi.nilOf w _ _ a l c Tryd.underlying24
theorem impl_isSemi.nilN (w : World) (a : Option Addr) (l c : Nat) : (binOp .neq 24 (.slice a l c) (.slice none 0 0)).run Tryd.prog w = .ok (.bool (!a.isNone)) w:=impl_isSemi.nilNo w _ _ a l c Tryd.underlying24
attribute [local go_sem] impl_isSemi.nilE impl_isSemi.nilN
def impl_isSemi.f (k : Nat) (a0_0 : Int) (l0_1 : List Int) : Option (Bool) := (impl_isInterval.f k a0_0 l0_1).bind fun t905 => (if t905 = true then ((impl_Order_threeOne.f k a0_0 l0_1).bind fun t906 => (some (t906 == ([] : List Int)))) else (some false))
def spec_seIndifferent.f (k : Nat) (a0_0 : Int) (l0_1 : List Int) (a1 : Int) (a2 : Int) : Option (Bool) := (spec_orFree.f k a0_0 l0_1 a1).bind fun t822 => ((spec_orHas.f t822 a2).bind fun t823 => (some t823))
mutual
def spec_seTwoTwo.l0 : Nat → Int → Int → List Int → Option (Bool)
 | 0,_,_,_=>none
 | k + 1,x3,x935000,x935001=>if x3 < x935000 then (if 0 ≤ x3 then (if x3 < (x935001.length : Int) then ((spec_orList.f k (rd x935001 x3)).bind fun t936=>(spec_seTwoTwo.l1 k x3 t936 (t936.length : Int) 0 x935000 x935001)) else (none)) else (none)) else (some false)
def spec_seTwoTwo.l1 : Nat → Int → List Int → Int → Int → Int → List Int → Option (Bool)
 | 0,_,_,_,_,_,_=>none
 | k + 1,x3,x20,x21,x22,x935000,x935001=>if x22 < x21 then (if 0 ≤ x22 then (if x22 < (x20.length : Int) then (spec_seTwoTwo.l2 k x3 (rd x20 x22) 0 x20 x21 x22 x935000 x935001) else (none)) else (none)) else (spec_seTwoTwo.l0 k (wrap64 (x3 + 1)) x935000 x935001)
def spec_seTwoTwo.l2 : Nat → Int → Int → Int → List Int → Int → Int → Int → List Int → Option (Bool)
 | 0,_,_,_,_,_,_,_,_=>none
 | k + 1,x3,x5,x6,x20,x21,x22,x935000,x935001=>if x6 < x935000 then (if 0 ≤ x6 then (if x6 < (x935001.length : Int) then ((spec_orList.f k (rd x935001 x6)).bind fun t941=>(spec_seTwoTwo.l3 k x3 x5 x6 x20 x21 x22 t941 (t941.length : Int) 0 x935000 x935001)) else (none)) else (none)) else (spec_seTwoTwo.l1 k x3 x20 x21 (wrap64 (x22 + 1)) x935000 x935001)
def spec_seTwoTwo.l3 : Nat → Int → Int → Int → List Int → Int → Int → List Int → Int → Int → Int → List Int → Option (Bool)
 | 0,_,_,_,_,_,_,_,_,_,_,_=>none
 | k + 1,x3,x5,x6,x20,x21,x22,x37,x38,x39,x935000,x935001=>if x39 < x38 then (if 0 ≤ x39 then (if x39 < (x37.length : Int) then ((spec_seIndifferent.f k x935000 x935001 x3 (rd x37 x39)).bind fun t945=>(if t945 = true then ((spec_seIndifferent.f k x935000 x935001 x6 x5).bind fun t946=>(if t946 = true then (some true) else (spec_seTwoTwo.l3 k x3 x5 x6 x20 x21 x22 x37 x38 (wrap64 (x39 + 1)) x935000 x935001))) else (spec_seTwoTwo.l3 k x3 x5 x6 x20 x21 x22 x37 x38 (wrap64 (x39 + 1)) x935000 x935001))) else (none)) else (none)) else (spec_seTwoTwo.l2 k x3 x5 (wrap64 (x6 + 1)) x20 x21 x22 x935000 x935001)
end
def spec_seTwoTwo.f (k : Nat) (a0_0 : Int) (l0_1 : List Int) : Option (Bool) := spec_seTwoTwo.l0 k 0 a0_0 l0_1
def spec_seGood.f (k : Nat) (a0_0 : Int) (l0_1 : List Int) : Option (Bool) := (spec_ThreeOneOf.f k a0_0 l0_1).bind fun bt948 => ((spec_orGood.f k a0_0 l0_1).bind fun t952 => (if t952 = true then (if bt948.2 = true then (some false) else ((spec_seTwoTwo.f k a0_0 l0_1).bind fun t953 => (some (!t953)))) else (some false)))
end Go.Proofs.YtfjpilcmjabikaaDoor.P
namespace Go.Proofs.YtfjpilcmjabikaaDoor.P
open Go.RowKit Go.Proofs.YtfjpilcmjabikaaDoorW.PrintWords Go.Proofs.YtfjpilcmjabikaaDoorW.PrintLast Go.Proofs.YtfjpilcmjabikaaDoorW.PrintMore
open Bool renaming true → T, false → F
open List renaming setIfInBounds_toArray → L_, set_cons_zero → M_, set_cons_succ → N_, map_toArray → P_, map_cons → Q_, map_nil → R_, length_drop → S_, length_take → U_
open Aside0 renaming mk → A_
attribute [local go_sem] max2_int min2_int max_two min_two max_three min_three max_four min_four
set_option linter.unusedVariables false
set_option linter.unusedSimpArgs false
attribute [local go_sem] fldOrder_0 fldOrder_1
def impl_Order_has.f (k : Nat) (a0_0 : Int) (l0_1 : List Int) (l1 : List Int) : Option (Bool) := (impl_allWithin.f k l1 0 (wrap64 (a0_0 - 1))).bind fun t965 => (some t965)
end Go.Proofs.YtfjpilcmjabikaaDoor.P
namespace Go.Proofs.YtfjpilcmjabikaaDoor.M
open Go.RowKit Go.Proofs.YtfjpilcmjabikaaDoorW.PrintMore Go.Proofs.YtfjpilcmjabikaaDoorW.PrintLast Go.Proofs.YtfjpilcmjabikaaDoorW.PrintWords Go.Proofs.YtfjpilcmjabikaaDoor.P
theorem orGood_ev (n : Int) (l : List Int) (hl : l.length ≤ 140737488355328) : Ev (fun k => spec_orGood.f k n l) (isOrd n l) := by
  unfold spec_orGood.f isOrd
  refine Ev.bind (orRelation_ev n l hl) ?_
  cases hr : isRel n l with
  | false => simp only [Bool.false_eq_true, if_false, Bool.false_and]; exact Ev.now _
  | true =>
    obtain ⟨m, rfl, h⟩ := isRel_iff.1 hr
    have hlen := h.len
    have h10 := h.le
    simp only [if_true, Bool.true_and]
    refine Ev.all (fun i k => spec_orGood.l0 k l (l.length : Int) (i : Int) (m : Int) l) l.length _ ?_ ?_ ?_
    · intro i r hi hp hrest
      rw [Bool.and_eq_true] at hp
      have hB : B l i i = false := by simpa using hp.1
      refine Ev.step (fun _ => rfl) ?_
      simp only [spec_orGood.l0, if_pos (show (i : Int) < (l.length : Int) by omega), if_pos (show (0 : Int) ≤ (i : Int) by omega), h.rd, orHas_eq (row l i) i (by omega), show (row l i).testBit i = B l i i from rfl, Option.bind_some, hB, Bool.false_eq_true, if_false]
      refine Ev.bind (orList_ev m (by omega) (row l i) (h.row_lt i)) ?_
      have hE := elems_length_le m (row l i)
      rw [ints_length]
      refine Ev.up (fun q k => spec_orGood.l1 k ((row l i : Nat) : Int) l (l.length : Int) (i : Int) (ints (elems m (row l i))) ((elems m (row l i)).length : Int) (q : Int) (m : Int) l) (elems m (row l i)).length ?_ ?_
      · intro q hq hn
        refine Ev.step (fun _ => rfl) ?_
        have hmem : (elems m (row l i)).getD q 0 ∈ elems m (row l i) := by simp [hq]
        have hlt := (mem_elems.1 hmem).1
        have e0 : rd (ints (elems m (row l i))) (q : Int) = (((elems m (row l i)).getD q 0 : Nat) : Int) := by rw [rd_nat, ints_getD _ _ hq]
        have hd : diff (row l ((elems m (row l i)).getD q 0)) (row l i) = 0 := by
          have hc := hp.2
          unfold closedAt at hc
          rw [allB_iff, hlen] at hc
          exact beq_iff_eq.1 (hc q hq)
        simp only [spec_orGood.l1, if_pos (show (q : Int) < ((elems m (row l i)).length : Int) by omega), if_pos (show (0 : Int) ≤ (q : Int) by omega), ints_length, e0, if_pos (show (0 : Int) ≤ (((elems m (row l i)).getD q 0 : Nat) : Int) by omega), if_pos (show (((elems m (row l i)).getD q 0 : Nat) : Int) < (l.length : Int) by omega), h.rd, andNot_i64 _ _ (h.row_62 _) (h.row_62 _), hd, Int.natCast_zero, if_true, next64 q _ hq (by omega)]
        exact hn
      · refine Ev.step (fun _ => rfl) ?_
        simp only [spec_orGood.l1, if_neg (show ¬ ((elems m (row l i)).length : Int) < ((elems m (row l i)).length : Int) by omega), next64 i l.length hi (by omega)]
        exact hrest
    · intro i hi hp
      refine Ev.step (fun _ => rfl) ?_
      simp only [spec_orGood.l0, if_pos (show (i : Int) < (l.length : Int) by omega), if_pos (show (0 : Int) ≤ (i : Int) by omega), h.rd, orHas_eq (row l i) i (by omega), show (row l i).testBit i = B l i i from rfl, Option.bind_some]
      cases hB : B l i i with
      | true => simp only [if_true]; exact Ev.now _
      | false =>
        rw [hB] at hp
        have hc : closedAt l.length l i = false := by simpa using hp
        unfold closedAt at hc
        rw [hlen] at hc
        obtain ⟨j, hj, hbad, hless⟩ := least_false (allB_false.1 hc)
        simp only [Bool.false_eq_true, if_false]
        refine Ev.bind (orList_ev m (by omega) (row l i) (h.row_lt i)) ?_
        have hE := elems_length_le m (row l i)
        rw [ints_length]
        refine Ev.up (fun q k => spec_orGood.l1 k ((row l i : Nat) : Int) l (l.length : Int) (i : Int) (ints (elems m (row l i))) ((elems m (row l i)).length : Int) (q : Int) (m : Int) l) j ?_ ?_
        · intro q hq hn
          refine Ev.step (fun _ => rfl) ?_
          have hmem : (elems m (row l i)).getD q 0 ∈ elems m (row l i) := by simp [show q < (elems m (row l i)).length by omega]
          have hlt := (mem_elems.1 hmem).1
          have e0 : rd (ints (elems m (row l i))) (q : Int) = (((elems m (row l i)).getD q 0 : Nat) : Int) := by rw [rd_nat, ints_getD _ _ (by omega)]
          have hd : diff (row l ((elems m (row l i)).getD q 0)) (row l i) = 0 := beq_iff_eq.1 (hless q hq)
          simp only [spec_orGood.l1, if_pos (show (q : Int) < ((elems m (row l i)).length : Int) by omega), if_pos (show (0 : Int) ≤ (q : Int) by omega), ints_length, e0, if_pos (show (0 : Int) ≤ (((elems m (row l i)).getD q 0 : Nat) : Int) by omega), if_pos (show (((elems m (row l i)).getD q 0 : Nat) : Int) < (l.length : Int) by omega), h.rd, andNot_i64 _ _ (h.row_62 _) (h.row_62 _), hd, Int.natCast_zero, if_true, next64 q _ (show q < (elems m (row l i)).length by omega) (by omega)]
          exact hn
        · refine Ev.step (fun _ => rfl) ?_
          have hmem : (elems m (row l i)).getD j 0 ∈ elems m (row l i) := by simp [hj]
          have hlt := (mem_elems.1 hmem).1
          have e0 : rd (ints (elems m (row l i))) (j : Int) = (((elems m (row l i)).getD j 0 : Nat) : Int) := by rw [rd_nat, ints_getD _ _ (by omega)]
          have hd : ¬ ((diff (row l ((elems m (row l i)).getD j 0)) (row l i) : Nat) : Int) = 0 := by
            have := beq_eq_false_iff_ne.1 hbad
            omega
          simp only [spec_orGood.l1, if_pos (show (j : Int) < ((elems m (row l i)).length : Int) by omega), if_pos (show (0 : Int) ≤ (j : Int) by omega), ints_length, e0, if_pos (show (0 : Int) ≤ (((elems m (row l i)).getD j 0 : Nat) : Int) by omega), if_pos (show (((elems m (row l i)).getD j 0 : Nat) : Int) < (l.length : Int) by omega), h.rd, andNot_i64 _ _ (h.row_62 _) (h.row_62 _), if_neg hd]
          exact Ev.now _
    · refine Ev.step (fun _ => rfl) ?_
      simp only [spec_orGood.l0, if_neg (show ¬ (l.length : Int) < (l.length : Int) by omega)]
      exact Ev.now _
theorem setOf_bit_or (q : Nat → Bool) (j : Nat) : setOf (j + 1) q = if q j then setOf j q ||| 2 ^ j else setOf j q := by
  show setOf j q ||| (if q j then 2 ^ j else 0) = _
  cases q j <;> simp
def part (n : Nat) (p : Nat → Nat → Bool) (i j : Nat) : List Int := (List.range n).map fun a => ((setOf (if a < i then n else if a = i then j else 0) (p a) : Nat) : Int)
theorem part_length (n : Nat) (p : Nat → Nat → Bool) (i j : Nat) : (part n p i j).length = n := by simp [part]
theorem part_getD (n : Nat) (p : Nat → Nat → Bool) (i j a : Nat) (h : a < n) : (part n p i j).getD a 0 = ((setOf (if a < i then n else if a = i then j else 0) (p a) : Nat) : Int) := by simp [part, h]
theorem part_next (n : Nat) (p : Nat → Nat → Bool) (i : Nat) : part n p i n = part n p (i + 1) 0 := by
  unfold part
  apply List.map_congr_left
  intro a _
  by_cases h1 : a < i
  · rw [if_pos h1, if_pos (by omega)]
  · rw [if_neg h1]
    by_cases h2 : a = i
    · rw [if_pos h2, if_pos (by omega)]
    · rw [if_neg h2, if_neg (by omega)]
      by_cases h3 : a = i + 1
      · rw [if_pos h3]
      · rw [if_neg h3]
theorem part_no (n : Nat) (p : Nat → Nat → Bool) (i j : Nat) (hi : i < n) (h : p i j = false) : part n p i j = part n p i (j + 1) := by
  unfold part
  apply List.map_congr_left
  intro a _
  by_cases h2 : a = i
  · subst h2
    rw [if_neg (Nat.lt_irrefl _), if_pos rfl, if_neg (Nat.lt_irrefl _), if_pos rfl, setOf_bit_or, h]
    rfl
  · rw [if_neg h2, if_neg h2]
theorem part_yes (n : Nat) (p : Nat → Nat → Bool) (i j : Nat) (hi : i < n) (h : p i j = true) : (part n p i j).set i ((setOf j (p i) ||| 2 ^ j : Nat) : Int) = part n p i (j + 1) := by
  apply list_ext_getD (by simp [part_length])
  intro a ha
  have ha : a < n := by simpa [part_length] using ha
  rw [part_getD n p i (j + 1) a ha]
  by_cases h2 : a = i
  · subst h2
    rw [if_neg (Nat.lt_irrefl _), if_pos rfl, setOf_bit_or, h]
    rw [List.getD_eq_getElem?_getD, List.getElem?_set_self (by rw [part_length]; exact hi)]
    rfl
  · have e : ((part n p i j).set i ((setOf j (p i) ||| 2 ^ j : Nat) : Int)).getD a 0 = (part n p i j).getD a 0 := by
      simp [List.getD, Ne.symm h2]
    rw [e, part_getD n p i j a ha, if_neg h2, if_neg h2]
theorem part_zero (n : Nat) (p : Nat → Nat → Bool) : part n p 0 0 = List.replicate n 0 := by
  apply list_ext_getD (by simp [part_length])
  intro a ha
  have ha : a < n := by simpa [part_length] using ha
  rw [part_getD n p 0 0 a ha, if_neg (Nat.not_lt_zero _)]
  have : (if a = 0 then 0 else 0) = 0 := by split <;> rfl
  rw [this]
  simp [setOf, ha]
theorem part_all (n : Nat) (p : Nat → Nat → Bool) : part n p n 0 = relL n p := by
  unfold part relL
  apply List.map_congr_left
  intro a ha
  rw [List.mem_range] at ha
  rw [if_pos ha]
theorem relation_ev (n : Nat) (hn : n ≤ 62) (g : Nat → Int → Int → Option Bool) (p : Nat → Nat → Bool) (hg : ∀ i j, i < n → j < n → Ev (fun k => g k (i : Int) (j : Int)) (p i j)) :
    Ev (fun k => impl_relation.f k (n : Int) (g k)) ((n : Int), relL n p) := by
  -- the tests all come to their answers from one number of rounds on
  obtain ⟨K, hK⟩ : ∃ K, ∀ k, K ≤ k → ∀ i j, i < n → j < n → g k (i : Int) (j : Int) = some (p i j) := by
    have one : ∀ m, ∃ K, ∀ k, K ≤ k → ∀ i j, i < n → j < n → i * n + j < m → g k (i : Int) (j : Int) = some (p i j) := by
      intro m
      induction m with
      | zero => exact ⟨0, fun k _ i j _ _ h => absurd h (Nat.not_lt_zero _)⟩
      | succ m ih =>
        obtain ⟨K, hK⟩ := ih
        by_cases hx : ∃ i j, i < n ∧ j < n ∧ i * n + j = m
        · obtain ⟨i, j, hi, hj, hm⟩ := hx
          obtain ⟨K', hK'⟩ := hg i j hi hj
          refine ⟨max K K', fun k hk i' j' hi' hj' h => ?_⟩
          by_cases he : i' * n + j' = m
          · have e1 : i' = i := by
              have a1 : (i' * n + j') / n = i' := by rw [Nat.mul_comm, Nat.mul_add_div (by omega), Nat.div_eq_of_lt hj', Nat.add_zero]
              have a2 : (i * n + j) / n = i := by rw [Nat.mul_comm, Nat.mul_add_div (by omega), Nat.div_eq_of_lt hj, Nat.add_zero]
              rw [← a1, ← a2, he, hm]
            subst e1
            have e2 : j' = j := by omega
            subst e2
            exact hK' k (by omega)
          · exact hK k (by omega) i' j' hi' hj' (by omega)
        · exact ⟨K, fun k hk i j hi hj h => hK k hk i j hi hj (by
            rcases Nat.lt_or_ge (i * n + j) m with h1 | h1
            · exact h1
            · exact absurd ⟨i, j, hi, hj, by omega⟩ hx)⟩
    obtain ⟨K, h⟩ := one (n * n + n)
    refine ⟨K, fun k hk i j hi hj => h k hk i j hi hj ?_⟩
    have : i * n ≤ n * n := Nat.mul_le_mul_right n (by omega)
    omega
  -- with the tests as' at one number
  have main : ∀ is : Int → Int → Option Bool, (∀ i j, i < n → j < n → is (i : Int) (j : Int) = some (p i j)) → Ev (fun k => impl_relation.f k (n : Int) is) ((n : Int), relL n p) := by
    intro is his
    unfold impl_relation.f
    simp only [if_pos (show (0 : Int) ≤ (n : Int) by omega), Int.toNat_natCast, if_pos (show n ≤ 35184372088832 by omega)]
    rw [← part_zero n p]
    refine Ev.up (fun i k => impl_relation.l0 is k (n : Int) (n : Int) (i : Int) (n : Int) (part n p i 0)) n ?_ ?_
    · intro i hi h
      refine Ev.step (fun _ => rfl) ?_
      simp only [impl_relation.l0, if_pos (show (i : Int) < (n : Int) by omega)]
      refine Ev.up (fun j k => impl_relation.l1 is k (n : Int) (i : Int) (n : Int) (i : Int) (n : Int) (j : Int) (n : Int) (part n p i j)) n ?_ ?_
      · intro j hj h
        refine Ev.step (fun _ => rfl) ?_
        simp only [impl_relation.l1, if_pos (show (j : Int) < (n : Int) by omega), his i j hi hj, Option.bind_some, next64 j n hj (by omega)]
        cases hp : p i j with
        | false =>
          simp only [Bool.false_eq_true, if_false]
          rw [part_no n p i j hi hp]
          exact h
        | true =>
          have hs : setOf j (p i) < 9223372036854775808 := setOf_62 _ _ (by omega)
          have h2 : (2 : Nat) ^ j < 9223372036854775808 := Nat.lt_of_le_of_lt (Nat.pow_le_pow_right (by decide) (by omega : j ≤ 62)) (by decide)
          have e1 : rd (part n p i j) (i : Int) = ((setOf j (p i) : Nat) : Int) := by
            rw [rd_nat, part_getD n p i j i hi, if_neg (Nat.lt_irrefl _), if_pos rfl]
          simp only [if_true, if_pos (show (0 : Int) ≤ (i : Int) by omega), part_length, if_pos (show (i : Int) < (n : Int) by omega), if_pos (show (0 : Int) ≤ (j : Int) by omega), e1, shl1 j (by omega), or_i64 _ _ hs h2, Int.toNat_natCast]
          rw [part_yes n p i j hi hp]
          exact h
      · refine Ev.step (fun _ => rfl) ?_
        simp only [impl_relation.l1, if_neg (show ¬ (n : Int) < (n : Int) by omega), next64 i n hi (by omega)]
        rw [part_next]
        exact h
    · refine Ev.step (fun _ => rfl) ?_
      simp only [impl_relation.l0, if_neg (show ¬ (n : Int) < (n : Int) by omega)]
      rw [part_all]
      exact Ev.now _
  -- the least test that answers so
  have h0 := main (fun x y => if 0 ≤ x ∧ x < n ∧ 0 ≤ y ∧ y < n then some (p x.toNat y.toNat) else none) (fun i j hi hj => by
    show (if _ then _ else _) = _
    rw [if_pos ⟨by omega, by omega, by omega, by omega⟩, Int.toNat_natCast, Int.toNat_natCast])
  obtain ⟨K', hK'⟩ := h0
  refine ⟨max K K' + 1, fun k hk => ?_⟩
  obtain ⟨d, rfl⟩ : ∃ d, k = d + 1 := ⟨k - 1, by omega⟩
  refine impl_relation.mono2 (is := fun x y => if 0 ≤ x ∧ x < n ∧ 0 ≤ y ∧ y < n then some (p x.toNat y.toNat) else none) (is' := g (d + 1)) (fun x y r hr => ?_) (n : Int) d _ (hK' d (by omega))
  by_cases hxy : 0 ≤ x ∧ x < n ∧ 0 ≤ y ∧ y < n
  · rw [if_pos hxy] at hr
    obtain ⟨i, rfl⟩ := Int.eq_ofNat_of_zero_le hxy.1
    obtain ⟨j, rfl⟩ := Int.eq_ofNat_of_zero_le hxy.2.2.1
    rw [Int.toNat_natCast, Int.toNat_natCast] at hr
    rw [hK (d + 1) (by omega) i j (by omega) (by omega)]
    exact hr
  · rw [if_neg hxy] at hr
    cases hr
end Go.Proofs.YtfjpilcmjabikaaDoor.M
