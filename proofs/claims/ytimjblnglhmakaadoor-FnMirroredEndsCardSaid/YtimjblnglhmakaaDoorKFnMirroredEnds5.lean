/- A part of the proof that the law FnMirroredEnds holds at every input. Written by wip/pack.py: the kit's printed words that are used, the functions' walks as wip/gen.py prints them, and hand proofs. -/
import Derived.Test.YtimjblnglhmakaaDoorKFnMirroredEnds4
namespace Go.Proofs.YtimjblnglhmakaaDoor.P
open Go.RowKit Go.Proofs.YtimjblnglhmakaaDoorW.PrintWords Go.Proofs.YtimjblnglhmakaaDoorW.PrintLast Go.Proofs.YtimjblnglhmakaaDoorW.PrintMore
open Bool renaming true → T, false → F
open List renaming setIfInBounds_toArray → L_, set_cons_zero → M_, set_cons_succ → N_, map_toArray → P_, map_cons → Q_, map_nil → R_, length_drop → S_, length_take → U_
open Aside0 renaming mk → A_
attribute [local go_sem] max2_int min2_int max_two min_two max_three min_three max_four min_four
set_option linter.unusedVariables false
set_option linter.unusedSimpArgs false
attribute [local go_sem] fldOrder_0 fldOrder_1
mutual
def Aab.j0 : Nat → List (S62) → Bool → Bool → Int → List Int → Option (Bool)
 | 0,_,_,_,_,_=>none
 | k + 1,x6,x9,x49,x1417000,x1417001=>if x49 = true then (some false) else (if x9 = true then ((Abt.f k x1417000 x1417001).bind fun bt1426=>((Abe.f k bt1426.1 bt1426.2.1).bind fun bt1432=>((Aa4.f k x1417000 x1417001).bind fun bt1436=>((Aa4.f k bt1426.1 bt1426.2.1).bind fun bt1438=>((Abb.f k x1417000 x1417001).bind fun bt1440=>(if bt1426.2.2 = true then (if bt1432.2 = true then (if bt1436.2 = true then (if bt1438.2 = true then (if bt1440.2 = true then (if bt1436.1 = bt1438.1 then (Aab.j1 k x6 bt1432.1 bt1436.1 bt1440.1 ((bt1432.1.length : Int) != (x6.length : Int)) bt1426.1 bt1426.2.1) else (Aab.j1 k x6 bt1432.1 bt1436.1 bt1440.1 true bt1426.1 bt1426.2.1)) else (Aab.j1 k x6 bt1432.1 bt1436.1 bt1440.1 true bt1426.1 bt1426.2.1)) else (Aab.j1 k x6 bt1432.1 bt1436.1 bt1440.1 true bt1426.1 bt1426.2.1)) else (Aab.j1 k x6 bt1432.1 bt1436.1 bt1440.1 true bt1426.1 bt1426.2.1)) else (Aab.j1 k x6 bt1432.1 bt1436.1 bt1440.1 true bt1426.1 bt1426.2.1)) else (Aab.j1 k x6 bt1432.1 bt1436.1 bt1440.1 true bt1426.1 bt1426.2.1))))))) else (some true))
def Aab.j1 : Nat → List (S62) → List (S62) → Int → List Int → Bool → Int → List Int → Option (Bool)
 | 0,_,_,_,_,_,_,_=>none
 | k + 1,x6,x12,x14,x18,x106,x1432000,x1432001=>if x106 = true then (some false) else (Aab.l0 k x6 x12 x14 x18 x6 (x6.length : Int) 0 x1432000 x1432001)
def Aab.l0 : Nat → List (S62) → List (S62) → Int → List Int → List (S62) → Int → Int → Int → List Int → Option (Bool)
 | 0,_,_,_,_,_,_,_,_,_=>none
 | k + 1,x6,x12,x14,x18,x107,x108,x109,x1432000,x1432001=>if x109 < x108 then (if 0 ≤ x109 then (if x109 < (x107.length : Int) then (if x109 < (x12.length : Int) then (if ((rd_T62 x12 x109).f0) = (wrap64 ((wrap64 (x14 - 1)) - ((rd_T62 x107 x109).f1))) then (if ((rd_T62 x12 x109).f1) = (wrap64 ((wrap64 (x14 - 1)) - ((rd_T62 x107 x109).f0))) then (if x109 < (x18.length : Int) then (if (rd x18 x109) = ((rd_T62 x107 x109).f0) then (Aab.l0 k x6 x12 x14 x18 x107 x108 (wrap64 (x109 + 1)) x1432000 x1432001) else (some false)) else (none)) else (some false)) else (some false)) else (none)) else (none)) else (none)) else ((Aan.f k x6).bind fun bt1449=>((Aau.f k bt1449.1 x1432000 x1432001).bind fun bt1453=>(if bt1449.2 = true then (if bt1453.2 = true then (some bt1453.1) else (some false)) else (some false))))
end
def Aab.f (k : Nat) (l0 : List Int) (l1 : List Int) : Option (Bool) := (Ab1.f l0 l1).bind fun t1411 => (if t1411 = true then (some true) else ((Abl.f k l0).bind fun bt1412 => ((Abe.f k bt1412.1 bt1412.2).bind fun bt1417 => ((Abp.f k bt1412.1 bt1412.2).bind fun bt1421 => (if (bt1417.2 != bt1421.2) = true then (Aab.j0 k bt1417.1 bt1421.2 true bt1412.1 bt1412.2) else ((Aar.f k bt1417.1 bt1421.1).bind fun t1425 => (Aab.j0 k bt1417.1 bt1421.2 (!t1425) bt1412.1 bt1412.2)))))))
set_option maxHeartbeats 8000000 in
set_option maxRecDepth 100000 in
theorem Aab.calls (k : Nat) (A0 : Option Addr) (c0 : Nat) (l0 : List Int) (A1 : Option Addr) (c1 : Nat) (l1 : List Int) (r : Bool) (w : World) (hr0 : Kd.C (Kd.int .u8) w A0 l0.length l0) (hc0 : l0.length ≤ c0) (hr1 : Kd.C (Kd.int .u8) w A1 l1.length l1) (hc1 : l1.length ≤ c1) (hT : TabOK w) (h : Aab.f k l0 l1 = some r) :
 Calls Tryd.prog 11 #[.slice A0 l0.length c0,.slice A1 l1.length c1] w fun e w'=>e = .returned (.bool r) ∧ Below w.heap.size w w':=by
 have hu28:=Tryd.underlying28;have hu62:=Tryd.underlying62;have HT:=A_ hT;clear hT;have HR0:=A_ hr0;have HC0:=A_ hc0;clear hr0 hc0;have HR1:=A_ hr1;have HC1:=A_ hc1;clear hr1 hc1;have HB:=A_ (Below.refl w.heap.size w);have H : ((Ab1.f l0 l1).bind fun C9=>(if C9 = true then (some true) else ((Abl.f k l0).bind fun Bz=>((Abe.f k Bz.1 Bz.2).bind fun B2=>((Abp.f k Bz.1 Bz.2).bind fun B0=>(if (B2.2 != B0.2) = true then (Aab.j0 k B2.1 B0.2 true Bz.1 Bz.2) else ((Aar.f k B2.1 B0.1).bind fun Ce=>(Aab.j0 k B2.1 B0.2 (!Ce) Bz.1 Bz.2)))))))) = some r:=h;clear h;replace H:=Option.bind_eq_some_iff.mp H;obtain ⟨C9,A30,H⟩:=H;replace H : (if C9 = true then (some true) else ((Abl.f k l0).bind fun Bz=>((Abe.f k Bz.1 Bz.2).bind fun B2=>((Abp.f k Bz.1 Bz.2).bind fun B0=>(if (B2.2 != B0.2) = true then (Aab.j0 k B2.1 B0.2 true Bz.1 Bz.2) else ((Aar.f k B2.1 B0.1).bind fun Ce=>(Aab.j0 k B2.1 B0.2 (!Ce) Bz.1 Bz.2))))))) = some r:=H;have A3:=A_ A30;clear A30;by_cases c4 : C9 = true
 ·subst c4;have H1 : (some true) = some r:=by rw [if_pos rfl] at H;exact H
  clear H;have H:=H1;clear H1;obtain rfl:=Option.some.inj H;go_enter Tryd.func11,Tryd.ntmps11
  go_wp2_with (first|(go_at_call 25;(with_reducible refine (Ab1.calls _ _ l0 _ _ l1 true _ ?side1 ?side2 ?side3 ?side4 A3.out).mono ?_);(case side1=>repeat (first|exact HR0.out|(with_reducible refine Kd.C_alloc ?_ _)|(with_reducible refine Kd.C_drewN ?_ _)|(with_reducible refine Kd.C_drew ?_)));(case side2=>exact HC0.out);(case side3=>repeat (first|exact HR1.out|(with_reducible refine Kd.C_alloc ?_ _)|(with_reducible refine Kd.C_drewN ?_ _)|(with_reducible refine Kd.C_drew ?_)));(case side4=>exact HC1.out);rintro e w' ⟨rfl,⟨nd,rfl⟩⟩;(try first|exact ⟨rfl,_,World.drewN_drewN _ _ _⟩|exact ⟨rfl,_,Eq.trans (World.drewN_drewN _ _ _) (congrArg (World.drewN _) (Nat.add_assoc _ _ _))⟩)))
  repeat (go_quiet (first|(go_at_call 25;(with_reducible refine (Ab1.calls _ _ l0 _ _ l1 true _ ?side1 ?side2 ?side3 ?side4 A3.out).mono ?_);(case side1=>repeat (first|exact HR0.out|(with_reducible refine Kd.C_alloc ?_ _)|(with_reducible refine Kd.C_drewN ?_ _)|(with_reducible refine Kd.C_drew ?_)));(case side2=>exact HC0.out);(case side3=>repeat (first|exact HR1.out|(with_reducible refine Kd.C_alloc ?_ _)|(with_reducible refine Kd.C_drewN ?_ _)|(with_reducible refine Kd.C_drew ?_)));(case side4=>exact HC1.out);rintro e w' ⟨rfl,⟨nd,rfl⟩⟩;(try first|exact ⟨rfl,_,World.drewN_drewN _ _ _⟩|exact ⟨rfl,_,Eq.trans (World.drewN_drewN _ _ _) (congrArg (World.drewN _) (Nat.add_assoc _ _ _))⟩)));try go_wp2_with (first|(go_at_call 25;(with_reducible refine (Ab1.calls _ _ l0 _ _ l1 true _ ?side1 ?side2 ?side3 ?side4 A3.out).mono ?_);(case side1=>repeat (first|exact HR0.out|(with_reducible refine Kd.C_alloc ?_ _)|(with_reducible refine Kd.C_drewN ?_ _)|(with_reducible refine Kd.C_drew ?_)));(case side2=>exact HC0.out);(case side3=>repeat (first|exact HR1.out|(with_reducible refine Kd.C_alloc ?_ _)|(with_reducible refine Kd.C_drewN ?_ _)|(with_reducible refine Kd.C_drew ?_)));(case side4=>exact HC1.out);rintro e w' ⟨rfl,⟨nd,rfl⟩⟩;(try first|exact ⟨rfl,_,World.drewN_drewN _ _ _⟩|exact ⟨rfl,_,Eq.trans (World.drewN_drewN _ _ _) (congrArg (World.drewN _) (Nat.add_assoc _ _ _))⟩))))
  go_ret
  exact ⟨by first|rfl|(simp [errW_none,errW_some] <;> rfl)|(simp [*,errW_none,errW_some] <;> rfl),bb_⟩
 ·replace c4:=Bool.eq_false_iff.mpr c4;subst c4;have H1 : ((Abl.f k l0).bind fun Bz=>((Abe.f k Bz.1 Bz.2).bind fun B2=>((Abp.f k Bz.1 Bz.2).bind fun B0=>(if (B2.2 != B0.2) = true then (Aab.j0 k B2.1 B0.2 true Bz.1 Bz.2) else ((Aar.f k B2.1 B0.1).bind fun Ce=>(Aab.j0 k B2.1 B0.2 (!Ce) Bz.1 Bz.2)))))) = some r:=by rw [if_neg (show ¬ (false = true) by decide)] at H;exact H
  clear H;have H:=H1;clear H1;replace H:=Option.bind_eq_some_iff.mp H;obtain ⟨⟨Ax,Au⟩,A50,H⟩:=H;replace H : ((Abe.f k Ax Au).bind fun B2=>((Abp.f k Ax Au).bind fun B0=>(if (B2.2 != B0.2) = true then (Aab.j0 k B2.1 B0.2 true Ax Au) else ((Aar.f k B2.1 B0.1).bind fun Ce=>(Aab.j0 k B2.1 B0.2 (!Ce) Ax Au))))) = some r:=H;have A5:=A_ A50;clear A50;replace H:=Option.bind_eq_some_iff.mp H;obtain ⟨⟨Ac,Co⟩,A60,H⟩:=H;replace H : ((Abp.f k Ax Au).bind fun B0=>(if (Co != B0.2) = true then (Aab.j0 k Ac B0.2 true Ax Au) else ((Aar.f k Ac B0.1).bind fun Ce=>(Aab.j0 k Ac B0.2 (!Ce) Ax Au)))) = some r:=H;have A6:=A_ A60;clear A60;replace H:=Option.bind_eq_some_iff.mp H;obtain ⟨⟨C1,Cd⟩,A70,H⟩:=H;replace H : (if (Co != Cd) = true then (Aab.j0 k Ac Cd true Ax Au) else ((Aar.f k Ac C1).bind fun Ce=>(Aab.j0 k Ac Cd (!Ce) Ax Au))) = some r:=H;have A7:=A_ A70;clear A70;have HC8:=A_ H;clear H;go_enter Tryd.func11,Tryd.ntmps11
  go_upto_region 6 with (first|(go_at_call 25;(with_reducible refine (Ab1.calls _ _ l0 _ _ l1 false _ ?side1 ?side2 ?side3 ?side4 A3.out).mono ?_);(case side1=>repeat (first|exact HR0.out|(with_reducible refine Kd.C_alloc ?_ _)|(with_reducible refine Kd.C_drewN ?_ _)|(with_reducible refine Kd.C_drew ?_)));(case side2=>exact HC0.out);(case side3=>repeat (first|exact HR1.out|(with_reducible refine Kd.C_alloc ?_ _)|(with_reducible refine Kd.C_drewN ?_ _)|(with_reducible refine Kd.C_drew ?_)));(case side4=>exact HC1.out);rintro e w' ⟨rfl,⟨nd,rfl⟩⟩;(try first|exact ⟨rfl,_,World.drewN_drewN _ _ _⟩|exact ⟨rfl,_,Eq.trans (World.drewN_drewN _ _ _) (congrArg (World.drewN _) (Nat.add_assoc _ _ _))⟩))|(go_at_call 89;(with_reducible refine (Abl.calls k _ _ l0 Ax Au _ ?side1 ?side2 A5.out).mono ?_);(case side1=>repeat (first|exact HR0.out|(with_reducible refine Kd.C_alloc ?_ _)|(with_reducible refine Kd.C_drewN ?_ _)|(with_reducible refine Kd.C_drew ?_)));(case side2=>exact HC0.out);rintro e w9 ⟨Dh,rfl,ho0,hb⟩;have Bo:=A_ (Kd.R_lower ho0 (below_size bb_));replace HB:=A_ (below_step bb_ hb);(try clear hb);(try clear hb2);(try clear hk);(try clear hi);(try clear ho0))|((with_reducible refine gate_dst (N:=5) rfl ?_);(try (refine gate_guard (by rfl) ?_;dsimp only));refine box_event ?hg (N:=5) ?hd (cs:=#[.int .i64 0,.slice none 0 0]) (t:=28) ?hr ?_;(case hd=>rfl);(case hg=>rfl);(case hr=>go_simp;try rfl);intro Bp hg w10 hbox hb;replace Bo:=rb_ Bo hb;have Ae:=A_ (hbox);have Dc:=A_ (gw_ (w:=w) hg bb_);have Dd:=A_ (gw_ (w:=w) hg bb_);replace HB:=A_ (below_step bb_ hb);clear hb hbox hg;have hcz11_0 : w10.cell? ⟨Bp,0,none⟩ = some (.int .i64 0):=blk_cell Ae.out 0;have hcz11_1 : w10.cell? ⟨Bp,1,none⟩ = some (.slice none 0 0):=blk_cell Ae.out 1;have hfz11_0:=blk_frozen Ae.out 0;have hfz11_1:=blk_frozen Ae.out 1;obtain ⟨Ao12,co12,eo12⟩:=Kd.R_slice Bo.out;subst eo12)|(go_at_call 48;(with_reducible refine (Abe.calls k Ax _ _ Au Ac Co _ ?side1 ?side2 ?side3 A6.out).mono ?_);(case side1=>refine (Kd.R_reads' (e:=3) (base:=w.heap.size) (ok:=fun k_=>True) (n:=Au.length) (c:=co12) ?_).2.2;exact (rq_ (rf_ Bo Ae (.int .i64 Ax) (.slice Ao12 Au.length co12))));(case side2=>exact (Kd.R_reads' Bo.out).2.1);(case side3=>first|exact HT.out|exact HT.out.below bb_|(repeat (first|exact HT.out|apply TabOK.drewN|apply TabOK.drew|apply TabOK.alloc)));rintro e w13 ⟨C8,rfl,ho0,hb⟩;replace Bo:=A_ (Kd.R_below (rq_ (rf_ Bo Ae (.int .i64 Ax) (.slice Ao12 Au.length co12))) hb);have B1:=A_ (Kd.R_lower ho0 (below_size bb_));replace Ae:=A_ (blk_below (g:=Bp) (o:=.cells #[.int .i64 Ax,.slice Ao12 Au.length co12] 28 (0,0)) (by (with_reducible repeat (first|refine blk_drewN ?_ _|refine blk_drew ?_|refine blk_alloc ?_ _));refine blk_put (cs:=#[.int .i64 Ax,.slice none 0 0]) ?_ 1 _ rfl;(with_reducible repeat (first|refine blk_drewN ?_ _|refine blk_drew ?_|refine blk_alloc ?_ _));refine blk_put (cs:=#[.int .i64 0,.slice none 0 0]) ?_ 0 _ rfl;(with_reducible repeat (first|refine blk_drewN ?_ _|refine blk_drew ?_|refine blk_alloc ?_ _));exact Ae.out) hb);replace HB:=A_ (below_step bb_ hb);(try clear hb);(try clear hb2);(try clear hk);(try clear hi);(try clear ho0);have hcz14_0 : w13.cell? ⟨Bp,0,none⟩ = some (.int .i64 Ax):=blk_cell Ae.out 0;have hcz14_1 : w13.cell? ⟨Bp,1,none⟩ = some (.slice Ao12 Au.length co12):=blk_cell Ae.out 1;have hfz14_0:=blk_frozen Ae.out 0;have hfz14_1:=blk_frozen Ae.out 1)|(go_at_call 49;(with_reducible refine (Abp.calls k Ax _ _ Au C1 Cd _ ?side1 ?side2 A7.out).mono ?_);(case side1=>exact cl_ (Kd.R_reads' Bo.out).2.2);(case side2=>exact (Kd.R_reads' Bo.out).2.1);rintro e w15 ⟨Di,rfl,ho0,hb⟩;replace Bo:=rb_ Bo hb;have Cq:=A_ (Kd.R_lower (Kd.R_new' ho0 (Kd.R_lt (rl_ B1))) (below_size bb_));replace B1:=A_ (Kd.R_elder' (rl_ B1) (Kd.R_base ho0) hb);replace Ae:=bz Ae hb;replace HB:=A_ (below_step bb_ hb);(try clear hb);(try clear hb2);(try clear hk);(try clear hi);(try clear ho0)))
  repeat (go_quiet (first|(go_at_call 25;(with_reducible refine (Ab1.calls _ _ l0 _ _ l1 false _ ?side1 ?side2 ?side3 ?side4 A3.out).mono ?_);(case side1=>repeat (first|exact HR0.out|(with_reducible refine Kd.C_alloc ?_ _)|(with_reducible refine Kd.C_drewN ?_ _)|(with_reducible refine Kd.C_drew ?_)));(case side2=>exact HC0.out);(case side3=>repeat (first|exact HR1.out|(with_reducible refine Kd.C_alloc ?_ _)|(with_reducible refine Kd.C_drewN ?_ _)|(with_reducible refine Kd.C_drew ?_)));(case side4=>exact HC1.out);rintro e w' ⟨rfl,⟨nd,rfl⟩⟩;(try first|exact ⟨rfl,_,World.drewN_drewN _ _ _⟩|exact ⟨rfl,_,Eq.trans (World.drewN_drewN _ _ _) (congrArg (World.drewN _) (Nat.add_assoc _ _ _))⟩))|(go_at_call 89;(with_reducible refine (Abl.calls k _ _ l0 Ax Au _ ?side1 ?side2 A5.out).mono ?_);(case side1=>repeat (first|exact HR0.out|(with_reducible refine Kd.C_alloc ?_ _)|(with_reducible refine Kd.C_drewN ?_ _)|(with_reducible refine Kd.C_drew ?_)));(case side2=>exact HC0.out);rintro e w9 ⟨Dh,rfl,ho0,hb⟩;have Bo:=A_ (Kd.R_lower ho0 (below_size bb_));replace HB:=A_ (below_step bb_ hb);(try clear hb);(try clear hb2);(try clear hk);(try clear hi);(try clear ho0))|((with_reducible refine gate_dst (N:=5) rfl ?_);(try (refine gate_guard (by rfl) ?_;dsimp only));refine box_event ?hg (N:=5) ?hd (cs:=#[.int .i64 0,.slice none 0 0]) (t:=28) ?hr ?_;(case hd=>rfl);(case hg=>rfl);(case hr=>go_simp;try rfl);intro Bp hg w10 hbox hb;replace Bo:=rb_ Bo hb;have Ae:=A_ (hbox);have Dc:=A_ (gw_ (w:=w) hg bb_);have Dd:=A_ (gw_ (w:=w) hg bb_);replace HB:=A_ (below_step bb_ hb);clear hb hbox hg;have hcz11_0 : w10.cell? ⟨Bp,0,none⟩ = some (.int .i64 0):=blk_cell Ae.out 0;have hcz11_1 : w10.cell? ⟨Bp,1,none⟩ = some (.slice none 0 0):=blk_cell Ae.out 1;have hfz11_0:=blk_frozen Ae.out 0;have hfz11_1:=blk_frozen Ae.out 1;obtain ⟨Ao12,co12,eo12⟩:=Kd.R_slice Bo.out;subst eo12)|(go_at_call 48;(with_reducible refine (Abe.calls k Ax _ _ Au Ac Co _ ?side1 ?side2 ?side3 A6.out).mono ?_);(case side1=>refine (Kd.R_reads' (e:=3) (base:=w.heap.size) (ok:=fun k_=>True) (n:=Au.length) (c:=co12) ?_).2.2;exact (rq_ (rf_ Bo Ae (.int .i64 Ax) (.slice Ao12 Au.length co12))));(case side2=>exact (Kd.R_reads' Bo.out).2.1);(case side3=>first|exact HT.out|exact HT.out.below bb_|(repeat (first|exact HT.out|apply TabOK.drewN|apply TabOK.drew|apply TabOK.alloc)));rintro e w13 ⟨C8,rfl,ho0,hb⟩;replace Bo:=A_ (Kd.R_below (rq_ (rf_ Bo Ae (.int .i64 Ax) (.slice Ao12 Au.length co12))) hb);have B1:=A_ (Kd.R_lower ho0 (below_size bb_));replace Ae:=A_ (blk_below (g:=Bp) (o:=.cells #[.int .i64 Ax,.slice Ao12 Au.length co12] 28 (0,0)) (by (with_reducible repeat (first|refine blk_drewN ?_ _|refine blk_drew ?_|refine blk_alloc ?_ _));refine blk_put (cs:=#[.int .i64 Ax,.slice none 0 0]) ?_ 1 _ rfl;(with_reducible repeat (first|refine blk_drewN ?_ _|refine blk_drew ?_|refine blk_alloc ?_ _));refine blk_put (cs:=#[.int .i64 0,.slice none 0 0]) ?_ 0 _ rfl;(with_reducible repeat (first|refine blk_drewN ?_ _|refine blk_drew ?_|refine blk_alloc ?_ _));exact Ae.out) hb);replace HB:=A_ (below_step bb_ hb);(try clear hb);(try clear hb2);(try clear hk);(try clear hi);(try clear ho0);have hcz14_0 : w13.cell? ⟨Bp,0,none⟩ = some (.int .i64 Ax):=blk_cell Ae.out 0;have hcz14_1 : w13.cell? ⟨Bp,1,none⟩ = some (.slice Ao12 Au.length co12):=blk_cell Ae.out 1;have hfz14_0:=blk_frozen Ae.out 0;have hfz14_1:=blk_frozen Ae.out 1)|(go_at_call 49;(with_reducible refine (Abp.calls k Ax _ _ Au C1 Cd _ ?side1 ?side2 A7.out).mono ?_);(case side1=>exact cl_ (Kd.R_reads' Bo.out).2.2);(case side2=>exact (Kd.R_reads' Bo.out).2.1);rintro e w15 ⟨Di,rfl,ho0,hb⟩;replace Bo:=rb_ Bo hb;have Cq:=A_ (Kd.R_lower (Kd.R_new' ho0 (Kd.R_lt (rl_ B1))) (below_size bb_));replace B1:=A_ (Kd.R_elder' (rl_ B1) (Kd.R_base ho0) hb);replace Ae:=bz Ae hb;replace HB:=A_ (below_step bb_ hb);(try clear hb);(try clear hb2);(try clear hk);(try clear hi);(try clear ho0)));go_upto_region 6 with (first|(go_at_call 25;(with_reducible refine (Ab1.calls _ _ l0 _ _ l1 false _ ?side1 ?side2 ?side3 ?side4 A3.out).mono ?_);(case side1=>repeat (first|exact HR0.out|(with_reducible refine Kd.C_alloc ?_ _)|(with_reducible refine Kd.C_drewN ?_ _)|(with_reducible refine Kd.C_drew ?_)));(case side2=>exact HC0.out);(case side3=>repeat (first|exact HR1.out|(with_reducible refine Kd.C_alloc ?_ _)|(with_reducible refine Kd.C_drewN ?_ _)|(with_reducible refine Kd.C_drew ?_)));(case side4=>exact HC1.out);rintro e w' ⟨rfl,⟨nd,rfl⟩⟩;(try first|exact ⟨rfl,_,World.drewN_drewN _ _ _⟩|exact ⟨rfl,_,Eq.trans (World.drewN_drewN _ _ _) (congrArg (World.drewN _) (Nat.add_assoc _ _ _))⟩))|(go_at_call 89;(with_reducible refine (Abl.calls k _ _ l0 Ax Au _ ?side1 ?side2 A5.out).mono ?_);(case side1=>repeat (first|exact HR0.out|(with_reducible refine Kd.C_alloc ?_ _)|(with_reducible refine Kd.C_drewN ?_ _)|(with_reducible refine Kd.C_drew ?_)));(case side2=>exact HC0.out);rintro e w9 ⟨Dh,rfl,ho0,hb⟩;have Bo:=A_ (Kd.R_lower ho0 (below_size bb_));replace HB:=A_ (below_step bb_ hb);(try clear hb);(try clear hb2);(try clear hk);(try clear hi);(try clear ho0))|((with_reducible refine gate_dst (N:=5) rfl ?_);(try (refine gate_guard (by rfl) ?_;dsimp only));refine box_event ?hg (N:=5) ?hd (cs:=#[.int .i64 0,.slice none 0 0]) (t:=28) ?hr ?_;(case hd=>rfl);(case hg=>rfl);(case hr=>go_simp;try rfl);intro Bp hg w10 hbox hb;replace Bo:=rb_ Bo hb;have Ae:=A_ (hbox);have Dc:=A_ (gw_ (w:=w) hg bb_);have Dd:=A_ (gw_ (w:=w) hg bb_);replace HB:=A_ (below_step bb_ hb);clear hb hbox hg;have hcz11_0 : w10.cell? ⟨Bp,0,none⟩ = some (.int .i64 0):=blk_cell Ae.out 0;have hcz11_1 : w10.cell? ⟨Bp,1,none⟩ = some (.slice none 0 0):=blk_cell Ae.out 1;have hfz11_0:=blk_frozen Ae.out 0;have hfz11_1:=blk_frozen Ae.out 1;obtain ⟨Ao12,co12,eo12⟩:=Kd.R_slice Bo.out;subst eo12)|(go_at_call 48;(with_reducible refine (Abe.calls k Ax _ _ Au Ac Co _ ?side1 ?side2 ?side3 A6.out).mono ?_);(case side1=>refine (Kd.R_reads' (e:=3) (base:=w.heap.size) (ok:=fun k_=>True) (n:=Au.length) (c:=co12) ?_).2.2;exact (rq_ (rf_ Bo Ae (.int .i64 Ax) (.slice Ao12 Au.length co12))));(case side2=>exact (Kd.R_reads' Bo.out).2.1);(case side3=>first|exact HT.out|exact HT.out.below bb_|(repeat (first|exact HT.out|apply TabOK.drewN|apply TabOK.drew|apply TabOK.alloc)));rintro e w13 ⟨C8,rfl,ho0,hb⟩;replace Bo:=A_ (Kd.R_below (rq_ (rf_ Bo Ae (.int .i64 Ax) (.slice Ao12 Au.length co12))) hb);have B1:=A_ (Kd.R_lower ho0 (below_size bb_));replace Ae:=A_ (blk_below (g:=Bp) (o:=.cells #[.int .i64 Ax,.slice Ao12 Au.length co12] 28 (0,0)) (by (with_reducible repeat (first|refine blk_drewN ?_ _|refine blk_drew ?_|refine blk_alloc ?_ _));refine blk_put (cs:=#[.int .i64 Ax,.slice none 0 0]) ?_ 1 _ rfl;(with_reducible repeat (first|refine blk_drewN ?_ _|refine blk_drew ?_|refine blk_alloc ?_ _));refine blk_put (cs:=#[.int .i64 0,.slice none 0 0]) ?_ 0 _ rfl;(with_reducible repeat (first|refine blk_drewN ?_ _|refine blk_drew ?_|refine blk_alloc ?_ _));exact Ae.out) hb);replace HB:=A_ (below_step bb_ hb);(try clear hb);(try clear hb2);(try clear hk);(try clear hi);(try clear ho0);have hcz14_0 : w13.cell? ⟨Bp,0,none⟩ = some (.int .i64 Ax):=blk_cell Ae.out 0;have hcz14_1 : w13.cell? ⟨Bp,1,none⟩ = some (.slice Ao12 Au.length co12):=blk_cell Ae.out 1;have hfz14_0:=blk_frozen Ae.out 0;have hfz14_1:=blk_frozen Ae.out 1)|(go_at_call 49;(with_reducible refine (Abp.calls k Ax _ _ Au C1 Cd _ ?side1 ?side2 A7.out).mono ?_);(case side1=>exact cl_ (Kd.R_reads' Bo.out).2.2);(case side2=>exact (Kd.R_reads' Bo.out).2.1);rintro e w15 ⟨Di,rfl,ho0,hb⟩;replace Bo:=rb_ Bo hb;have Cq:=A_ (Kd.R_lower (Kd.R_new' ho0 (Kd.R_lt (rl_ B1))) (below_size bb_));replace B1:=A_ (Kd.R_elder' (rl_ B1) (Kd.R_base ho0) hb);replace Ae:=bz Ae hb;replace HB:=A_ (below_step bb_ hb);(try clear hb);(try clear hb2);(try clear hk);(try clear hi);(try clear ho0))))
  (try simp only [Act.put,L_,M_,N_]);go_cut [49] (fun v49 wc=>∃ (kq : Nat) (x49_7 : Bool),v49 = .bool x49_7 ∧ Aside0 (Aab.j0 kq Ac Cd x49_7 Ax Au = some r) ∧ Aside0 (kq ≤ k) ∧ Aside0 (Kd.R k62 62 wc w.heap.size (fun _=>True) C8 Ac) ∧ Aside0 (Kd.R (Kd.int .i64) 3 wc w.heap.size (fun _=>True) (.slice Ao12 Au.length co12) Au) ∧ Aside0 (wc.heap[Bp]? = some (.cells #[.int .i64 Ax,(.slice Ao12 Au.length co12)] 28 (0,0))) ∧ Aside0 (Below w.heap.size w wc))
  case first =>
   have H:=HC8.out;clear HC8;by_cases c16 : (Co != Cd) = true
   ·rw [if_pos c16] at H;have c16b0 : (Co != Cd) = true:=c16;(try (have c16b1 : decide (Co = Cd) = false:=by simpa using c16));(try (have c16b2 : (Co == Cd) = false:=by simpa using c16));(try (have c16b3 : ¬ (Co = Cd):=by simpa using c16));clear c16;(first|rw [c16b0]|(simp only [i64_w,i32_w];rw [c16b0])|skip)
    have H':=A_ H;clear H;go_wp2
    repeat (go_quiet (fail);try go_wp2)
    go_meet
    case rel=>exact ⟨_,(true),(by first|rfl|(simp;done)|(simp [*];done)),H',⟨by first|omega|exact Nat.le_refl _⟩,⟨rq_ (Kd.R_mono B1.out (fun _ hk=>trivial))⟩,⟨rl_ Bo⟩,⟨bl_ Ae⟩,⟨bb_⟩⟩
   ·rw [if_neg c16] at H;have c16b0 : (Co != Cd) = false:=by simpa using c16
    (try (have c16b1 : decide (Co = Cd) = true:=by simpa using c16));(try (have c16b2 : (Co == Cd) = true:=by simpa using c16));clear c16;(first|rw [c16b0]|(simp only [i64_w,i32_w];rw [c16b0])|skip)
    replace H:=Option.bind_eq_some_iff.mp H;obtain ⟨Ce,Dk,H⟩:=H;replace H : (Aab.j0 k Ac Cd (!Ce) Ax Au) = some r:=H;have A17:=A_ Dk;clear Dk;have H':=A_ H;clear H;obtain ⟨Ao18,co18,eo18⟩:=Kd.R_slice B1.out;subst eo18;obtain ⟨Ao19,co19,eo19⟩:=Kd.R_slice Cq.out;subst eo19;go_wp2_with (first|(go_at_call 52;(with_reducible refine (Aar.calls k _ _ Ac _ _ C1 Ce _ ?side1 ?side2 ?side3 ?side4 A17.out).mono ?_);(case side1=>exact cl_ (Kd.R_reads' B1.out).2.2);(case side2=>exact (Kd.R_reads' B1.out).2.1);(case side3=>exact cl_ (Kd.R_reads' Cq.out).2.2);(case side4=>exact (Kd.R_reads' Cq.out).2.1);rintro e w' ⟨rfl,⟨nd,rfl⟩⟩;(try first|exact ⟨rfl,_,World.drewN_drewN _ _ _⟩|exact ⟨rfl,_,Eq.trans (World.drewN_drewN _ _ _) (congrArg (World.drewN _) (Nat.add_assoc _ _ _))⟩)))
    repeat (go_quiet (first|(go_at_call 52;(with_reducible refine (Aar.calls k _ _ Ac _ _ C1 Ce _ ?side1 ?side2 ?side3 ?side4 A17.out).mono ?_);(case side1=>exact cl_ (Kd.R_reads' B1.out).2.2);(case side2=>exact (Kd.R_reads' B1.out).2.1);(case side3=>exact cl_ (Kd.R_reads' Cq.out).2.2);(case side4=>exact (Kd.R_reads' Cq.out).2.1);rintro e w' ⟨rfl,⟨nd,rfl⟩⟩;(try first|exact ⟨rfl,_,World.drewN_drewN _ _ _⟩|exact ⟨rfl,_,Eq.trans (World.drewN_drewN _ _ _) (congrArg (World.drewN _) (Nat.add_assoc _ _ _))⟩)));try go_wp2_with (first|(go_at_call 52;(with_reducible refine (Aar.calls k _ _ Ac _ _ C1 Ce _ ?side1 ?side2 ?side3 ?side4 A17.out).mono ?_);(case side1=>exact cl_ (Kd.R_reads' B1.out).2.2);(case side2=>exact (Kd.R_reads' B1.out).2.1);(case side3=>exact cl_ (Kd.R_reads' Cq.out).2.2);(case side4=>exact (Kd.R_reads' Cq.out).2.1);rintro e w' ⟨rfl,⟨nd,rfl⟩⟩;(try first|exact ⟨rfl,_,World.drewN_drewN _ _ _⟩|exact ⟨rfl,_,Eq.trans (World.drewN_drewN _ _ _) (congrArg (World.drewN _) (Nat.add_assoc _ _ _))⟩))))
    go_meet
    case rel=>exact ⟨_,(!Ce),(by first|rfl|(simp;done)|(simp [*];done)),H',⟨by first|omega|exact Nat.le_refl _⟩,⟨rq_ (Kd.R_mono B1.out (fun _ hk=>trivial))⟩,⟨rl_ Bo⟩,⟨bl_ Ae⟩,⟨bb_⟩⟩
  case rest =>
   clear HC8;try clear c1
   try clear p2
   try clear c4
   try clear c11
   try clear c16
   try clear c16b0
   try clear c16b1
   try clear c16b2
   try clear hcz11_0
   try clear hcz11_1
   try clear hcz14_0
   try clear hcz14_1
   try clear hfz11_0
   try clear hfz11_1
   try clear hfz14_0
   try clear hfz14_1
   obtain ⟨kq,x49_7,rfl,HA,HJ7,HO_6,Ad,Ae,HB⟩:=hcut;cases kq with
   | zero=>exact absurd HA.out (by simp [Aab.j0])
   | succ kj7 =>
    have H:=HA.out;clear HA;simp only [Aab.j0] at H
    by_cases c20 : x49_7 = true
    ·subst c20;have H1 : (some false) = some r:=by rw [if_pos rfl] at H;exact H
     clear H;have H:=H1;clear H1;obtain rfl:=Option.some.inj H;go_wp2
     repeat (go_quiet (fail);try go_wp2)
     go_ret
     exact ⟨by first|rfl|(simp [errW_none,errW_some] <;> rfl)|(simp [*,errW_none,errW_some] <;> rfl),bb_⟩
    ·replace c20:=Bool.eq_false_iff.mpr c20;subst c20;have H1 : (if Cd = true then ((Abt.f kj7 Ax Au).bind fun Bh=>((Abe.f kj7 Bh.1 Bh.2.1).bind fun Br=>((Aa4.f kj7 Ax Au).bind fun Bi=>((Aa4.f kj7 Bh.1 Bh.2.1).bind fun Cf=>((Abb.f kj7 Ax Au).bind fun Az=>(if Bh.2.2 = true then (if Br.2 = true then (if Bi.2 = true then (if Cf.2 = true then (if Az.2 = true then (if Bi.1 = Cf.1 then (Aab.j1 kj7 Ac Br.1 Bi.1 Az.1 ((Br.1.length : Int) != (Ac.length : Int)) Bh.1 Bh.2.1) else (Aab.j1 kj7 Ac Br.1 Bi.1 Az.1 true Bh.1 Bh.2.1)) else (Aab.j1 kj7 Ac Br.1 Bi.1 Az.1 true Bh.1 Bh.2.1)) else (Aab.j1 kj7 Ac Br.1 Bi.1 Az.1 true Bh.1 Bh.2.1)) else (Aab.j1 kj7 Ac Br.1 Bi.1 Az.1 true Bh.1 Bh.2.1)) else (Aab.j1 kj7 Ac Br.1 Bi.1 Az.1 true Bh.1 Bh.2.1)) else (Aab.j1 kj7 Ac Br.1 Bi.1 Az.1 true Bh.1 Bh.2.1))))))) else (some true)) = some r:=by rw [if_neg (show ¬ (false = true) by decide)] at H;exact H
     clear H;have H:=H1;clear H1;by_cases c21 : Cd = true
     ·subst c21;have H1 : ((Abt.f kj7 Ax Au).bind fun Bh=>((Abe.f kj7 Bh.1 Bh.2.1).bind fun Br=>((Aa4.f kj7 Ax Au).bind fun Bi=>((Aa4.f kj7 Bh.1 Bh.2.1).bind fun Cf=>((Abb.f kj7 Ax Au).bind fun Az=>(if Bh.2.2 = true then (if Br.2 = true then (if Bi.2 = true then (if Cf.2 = true then (if Az.2 = true then (if Bi.1 = Cf.1 then (Aab.j1 kj7 Ac Br.1 Bi.1 Az.1 ((Br.1.length : Int) != (Ac.length : Int)) Bh.1 Bh.2.1) else (Aab.j1 kj7 Ac Br.1 Bi.1 Az.1 true Bh.1 Bh.2.1)) else (Aab.j1 kj7 Ac Br.1 Bi.1 Az.1 true Bh.1 Bh.2.1)) else (Aab.j1 kj7 Ac Br.1 Bi.1 Az.1 true Bh.1 Bh.2.1)) else (Aab.j1 kj7 Ac Br.1 Bi.1 Az.1 true Bh.1 Bh.2.1)) else (Aab.j1 kj7 Ac Br.1 Bi.1 Az.1 true Bh.1 Bh.2.1)) else (Aab.j1 kj7 Ac Br.1 Bi.1 Az.1 true Bh.1 Bh.2.1))))))) = some r:=by rw [if_pos rfl] at H;exact H
      clear H;have H:=H1;clear H1;replace H:=Option.bind_eq_some_iff.mp H;obtain ⟨⟨Al,Ak,Ct⟩,Dl,H⟩:=H;replace H : ((Abe.f kj7 Al Ak).bind fun Br=>((Aa4.f kj7 Ax Au).bind fun Bi=>((Aa4.f kj7 Al Ak).bind fun Cf=>((Abb.f kj7 Ax Au).bind fun Az=>(if Ct = true then (if Br.2 = true then (if Bi.2 = true then (if Cf.2 = true then (if Az.2 = true then (if Bi.1 = Cf.1 then (Aab.j1 kj7 Ac Br.1 Bi.1 Az.1 ((Br.1.length : Int) != (Ac.length : Int)) Al Ak) else (Aab.j1 kj7 Ac Br.1 Bi.1 Az.1 true Al Ak)) else (Aab.j1 kj7 Ac Br.1 Bi.1 Az.1 true Al Ak)) else (Aab.j1 kj7 Ac Br.1 Bi.1 Az.1 true Al Ak)) else (Aab.j1 kj7 Ac Br.1 Bi.1 Az.1 true Al Ak)) else (Aab.j1 kj7 Ac Br.1 Bi.1 Az.1 true Al Ak)) else (Aab.j1 kj7 Ac Br.1 Bi.1 Az.1 true Al Ak)))))) = some r:=H;have A22:=A_ Dl;clear Dl;replace H:=Option.bind_eq_some_iff.mp H;obtain ⟨⟨Aq,Cu⟩,Dm,H⟩:=H;replace H : ((Aa4.f kj7 Ax Au).bind fun Bi=>((Aa4.f kj7 Al Ak).bind fun Cf=>((Abb.f kj7 Ax Au).bind fun Az=>(if Ct = true then (if Cu = true then (if Bi.2 = true then (if Cf.2 = true then (if Az.2 = true then (if Bi.1 = Cf.1 then (Aab.j1 kj7 Ac Aq Bi.1 Az.1 ((Aq.length : Int) != (Ac.length : Int)) Al Ak) else (Aab.j1 kj7 Ac Aq Bi.1 Az.1 true Al Ak)) else (Aab.j1 kj7 Ac Aq Bi.1 Az.1 true Al Ak)) else (Aab.j1 kj7 Ac Aq Bi.1 Az.1 true Al Ak)) else (Aab.j1 kj7 Ac Aq Bi.1 Az.1 true Al Ak)) else (Aab.j1 kj7 Ac Aq Bi.1 Az.1 true Al Ak)) else (Aab.j1 kj7 Ac Aq Bi.1 Az.1 true Al Ak))))) = some r:=H;have A23:=A_ Dm;clear Dm;replace H:=Option.bind_eq_some_iff.mp H;obtain ⟨⟨Av,Cv⟩,Dn,H⟩:=H;replace H : ((Aa4.f kj7 Al Ak).bind fun Cf=>((Abb.f kj7 Ax Au).bind fun Az=>(if Ct = true then (if Cu = true then (if Cv = true then (if Cf.2 = true then (if Az.2 = true then (if Av = Cf.1 then (Aab.j1 kj7 Ac Aq Av Az.1 ((Aq.length : Int) != (Ac.length : Int)) Al Ak) else (Aab.j1 kj7 Ac Aq Av Az.1 true Al Ak)) else (Aab.j1 kj7 Ac Aq Av Az.1 true Al Ak)) else (Aab.j1 kj7 Ac Aq Av Az.1 true Al Ak)) else (Aab.j1 kj7 Ac Aq Av Az.1 true Al Ak)) else (Aab.j1 kj7 Ac Aq Av Az.1 true Al Ak)) else (Aab.j1 kj7 Ac Aq Av Az.1 true Al Ak)))) = some r:=H;have A24:=A_ Dn;clear Dn;replace H:=Option.bind_eq_some_iff.mp H;obtain ⟨⟨Ch,Cw⟩,Do,H⟩:=H;replace H : ((Abb.f kj7 Ax Au).bind fun Az=>(if Ct = true then (if Cu = true then (if Cv = true then (if Cw = true then (if Az.2 = true then (if Av = Ch then (Aab.j1 kj7 Ac Aq Av Az.1 ((Aq.length : Int) != (Ac.length : Int)) Al Ak) else (Aab.j1 kj7 Ac Aq Av Az.1 true Al Ak)) else (Aab.j1 kj7 Ac Aq Av Az.1 true Al Ak)) else (Aab.j1 kj7 Ac Aq Av Az.1 true Al Ak)) else (Aab.j1 kj7 Ac Aq Av Az.1 true Al Ak)) else (Aab.j1 kj7 Ac Aq Av Az.1 true Al Ak)) else (Aab.j1 kj7 Ac Aq Av Az.1 true Al Ak))) = some r:=H;have A25:=A_ Do;clear Do;replace H:=Option.bind_eq_some_iff.mp H;obtain ⟨⟨Be,Cx⟩,Dp,H⟩:=H;replace H : (if Ct = true then (if Cu = true then (if Cv = true then (if Cw = true then (if Cx = true then (if Av = Ch then (Aab.j1 kj7 Ac Aq Av Be ((Aq.length : Int) != (Ac.length : Int)) Al Ak) else (Aab.j1 kj7 Ac Aq Av Be true Al Ak)) else (Aab.j1 kj7 Ac Aq Av Be true Al Ak)) else (Aab.j1 kj7 Ac Aq Av Be true Al Ak)) else (Aab.j1 kj7 Ac Aq Av Be true Al Ak)) else (Aab.j1 kj7 Ac Aq Av Be true Al Ak)) else (Aab.j1 kj7 Ac Aq Av Be true Al Ak)) = some r:=H;have A26:=A_ Dp;clear Dp;have HC27:=A_ H;clear H;have hcz28_0 : wc.cell? ⟨Bp,0,none⟩ = some (.int .i64 Ax):=blk_cell Ae.out 0;have hcz28_1 : wc.cell? ⟨Bp,1,none⟩ = some (.slice Ao12 Au.length co12):=blk_cell Ae.out 1;have hfz28_0:=blk_frozen Ae.out 0;have hfz28_1:=blk_frozen Ae.out 1;go_upto_region 15 with (first|(go_at_call 90;(with_reducible refine (Abt.calls kj7 Ax _ _ Au Al Ak Ct _ ?side1 ?side2 A22.out).mono ?_);(case side1=>exact cl_ (Kd.R_reads' Ad.out).2.2);(case side2=>exact (Kd.R_reads' Ad.out).2.1);rintro e w29 ⟨Dj,rfl,ho0,hb⟩;replace HO_6:=rb_ HO_6 hb;have Ay:=A_ (Kd.R_lower (Kd.R_new' ho0 (Kd.R_lt (rl_ Ad))) (below_size bb_));replace Ad:=A_ (Kd.R_elder' (rl_ Ad) (Kd.R_base ho0) hb);replace Ae:=bz Ae hb;replace HB:=A_ (below_step bb_ hb);(try clear hb);(try clear hb2);(try clear hk);(try clear hi);(try clear ho0))|((with_reducible refine gate_dst (N:=10) rfl ?_);(try (refine gate_guard (by rfl) ?_;dsimp only));refine box_event ?hg (N:=10) ?hd (cs:=#[.int .i64 0,.slice none 0 0]) (t:=28) ?hr ?_;(case hd=>rfl);(case hg=>rfl);(case hr=>go_simp;try rfl);intro Bq hg w30 hbox hb;replace HO_6:=rb_ HO_6 hb;replace Ad:=rb_ Ad hb;replace Ay:=rb_ Ay hb;have Af:=A_ (hbox);have De:=A_ (gw_ (w:=w) hg bb_);have Df:=A_ (gw_ (w:=w) hg bb_);replace HB:=A_ (below_step bb_ hb);have Bn:=A_ (nl_ hg Ae);have Bx:=A_ (ng_ hg Ae);replace Ae:=bz Ae hb;clear hb hbox hg;have hnb31:=Bx.out;have hnc31:=Bn.out;have hcz32_0 : w30.cell? ⟨Bq,0,none⟩ = some (.int .i64 0):=blk_cell Af.out 0;have hcz32_1 : w30.cell? ⟨Bq,1,none⟩ = some (.slice none 0 0):=blk_cell Af.out 1;have hfz32_0:=blk_frozen Af.out 0;have hfz32_1:=blk_frozen Af.out 1;obtain ⟨Ao33,co33,eo33⟩:=Kd.R_slice Ay.out;subst eo33)|(go_at_call 48;(with_reducible refine (Abe.calls kj7 Al _ _ Ak Aq Cu _ ?side1 ?side2 ?side3 A23.out).mono ?_);(case side1=>refine (Kd.R_reads' (e:=3) (base:=w.heap.size) (ok:=fun k_=>(True ∧ some k_ ≠ (.slice Ao12 Au.length co12 : Value).ownBlock)) (n:=Ak.length) (c:=co33) ?_).2.2;exact (rq_ (rf_ Ay Af (.int .i64 Al) (.slice Ao33 Ak.length co33))));(case side2=>exact (Kd.R_reads' Ay.out).2.1);(case side3=>first|exact HT.out|exact HT.out.below bb_|(repeat (first|exact HT.out|apply TabOK.drewN|apply TabOK.drew|apply TabOK.alloc)));rintro e w34 ⟨C2,rfl,ho0,hb⟩;replace Ad:=A_ (Kd.R_below (rq_ (rf_ Ad Af (.int .i64 Al) (.slice Ao33 Ak.length co33))) hb);replace Ay:=A_ (Kd.R_below (rq_ (rf_ Ay Af (.int .i64 Al) (.slice Ao33 Ak.length co33))) hb);have Bw:=A_ (Kd.R_lower (Kd.R_new' ho0 (Kd.R_lt (rq_ (rf_ HO_6 Af (.int .i64 Al) (.slice Ao33 Ak.length co33))))) (below_size bb_));replace HO_6:=A_ (Kd.R_elder' (rq_ (rf_ HO_6 Af (.int .i64 Al) (.slice Ao33 Ak.length co33))) (Kd.R_base ho0) hb);replace Ae:=A_ (blk_below (g:=Bp) (o:=.cells #[.int .i64 Ax,.slice Ao12 Au.length co12] 28 (0,0)) (by (with_reducible repeat (first|refine blk_drewN ?_ _|refine blk_drew ?_|refine blk_alloc ?_ _));refine blk_far ?_ Bn.out _;(with_reducible repeat (first|refine blk_drewN ?_ _|refine blk_drew ?_|refine blk_alloc ?_ _));refine blk_far ?_ Bn.out _;(with_reducible repeat (first|refine blk_drewN ?_ _|refine blk_drew ?_|refine blk_alloc ?_ _));exact Ae.out) hb);replace Af:=A_ (blk_below (g:=Bq) (o:=.cells #[.int .i64 Al,.slice Ao33 Ak.length co33] 28 (0,0)) (by (with_reducible repeat (first|refine blk_drewN ?_ _|refine blk_drew ?_|refine blk_alloc ?_ _));refine blk_put (cs:=#[.int .i64 Al,.slice none 0 0]) ?_ 1 _ rfl;(with_reducible repeat (first|refine blk_drewN ?_ _|refine blk_drew ?_|refine blk_alloc ?_ _));refine blk_put (cs:=#[.int .i64 0,.slice none 0 0]) ?_ 0 _ rfl;(with_reducible repeat (first|refine blk_drewN ?_ _|refine blk_drew ?_|refine blk_alloc ?_ _));exact Af.out) hb);replace HB:=A_ (below_step bb_ hb);(try clear hb);(try clear hb2);(try clear hk);(try clear hi);(try clear ho0);have hcz35_0 : w34.cell? ⟨Bp,0,none⟩ = some (.int .i64 Ax):=blk_cell Ae.out 0;have hcz35_1 : w34.cell? ⟨Bp,1,none⟩ = some (.slice Ao12 Au.length co12):=blk_cell Ae.out 1;have hfz35_0:=blk_frozen Ae.out 0;have hfz35_1:=blk_frozen Ae.out 1)|(go_at_call 59;(with_reducible refine (Aa4.calls kj7 Ax _ _ Au Av Cv _ ?side1 ?side2 ?side3 A24.out).mono ?_);(case side1=>exact cl_ (Kd.R_reads' Ad.out).2.2);(case side2=>exact (Kd.R_reads' Ad.out).2.1);(case side3=>first|exact HT.out|exact HT.out.below bb_|(repeat (first|exact HT.out|apply TabOK.drewN|apply TabOK.drew|apply TabOK.alloc)));rintro e w36 ⟨rfl,hb⟩;replace HO_6:=rb_ HO_6 hb;replace Ad:=rb_ Ad hb;replace Ay:=rb_ Ay hb;replace Bw:=rb_ Bw hb;replace Ae:=bz Ae hb;replace Af:=bz Af hb;replace HB:=A_ (below_step bb_ hb);(try clear hb);(try clear hb2);(try clear hk);(try clear hi);have hcz37_0 : w36.cell? ⟨Bq,0,none⟩ = some (.int .i64 Al):=blk_cell Af.out 0;have hcz37_1 : w36.cell? ⟨Bq,1,none⟩ = some (.slice Ao33 Ak.length co33):=blk_cell Af.out 1;have hfz37_0:=blk_frozen Af.out 0;have hfz37_1:=blk_frozen Af.out 1)|(go_at_call 59;(with_reducible refine (Aa4.calls kj7 Al _ _ Ak Ch Cw _ ?side1 ?side2 ?side3 A25.out).mono ?_);(case side1=>exact cl_ (Kd.R_reads' Ay.out).2.2);(case side2=>exact (Kd.R_reads' Ay.out).2.1);(case side3=>first|exact HT.out|exact HT.out.below bb_|(repeat (first|exact HT.out|apply TabOK.drewN|apply TabOK.drew|apply TabOK.alloc)));rintro e w38 ⟨rfl,hb⟩;replace HO_6:=rb_ HO_6 hb;replace Ad:=rb_ Ad hb;replace Ay:=rb_ Ay hb;replace Bw:=rb_ Bw hb;replace Ae:=bz Ae hb;replace Af:=bz Af hb;replace HB:=A_ (below_step bb_ hb);(try clear hb);(try clear hb2);(try clear hk);(try clear hi);have hcz39_0 : w38.cell? ⟨Bp,0,none⟩ = some (.int .i64 Ax):=blk_cell Ae.out 0;have hcz39_1 : w38.cell? ⟨Bp,1,none⟩ = some (.slice Ao12 Au.length co12):=blk_cell Ae.out 1;have hfz39_0:=blk_frozen Ae.out 0;have hfz39_1:=blk_frozen Ae.out 1)|(go_at_call 58;(with_reducible refine (Abb.calls kj7 Ax _ _ Au Be Cx _ ?side1 ?side2 ?side3 A26.out).mono ?_);(case side1=>exact cl_ (Kd.R_reads' Ad.out).2.2);(case side2=>exact (Kd.R_reads' Ad.out).2.1);(case side3=>first|exact HT.out|exact HT.out.below bb_|(repeat (first|exact HT.out|apply TabOK.drewN|apply TabOK.drew|apply TabOK.alloc)));rintro e w40 ⟨Cz,rfl,ho0,hb⟩;replace HO_6:=rb_ HO_6 hb;replace Bw:=rb_ Bw hb;have Cr:=A_ (Kd.R_lower (Kd.R_new' (Kd.R_new' ho0 (Kd.R_lt (rl_ Ad))) (Kd.R_lt (rl_ Ay))) (below_size bb_));replace Ad:=A_ (Kd.R_elder' (rl_ Ad) (Kd.R_base ho0) hb);replace Ay:=A_ (Kd.R_elder' (rl_ Ay) (Kd.R_base ho0) hb);replace Ae:=bz Ae hb;replace Af:=bz Af hb;replace HB:=A_ (below_step bb_ hb);(try clear hb);(try clear hb2);(try clear hk);(try clear hi);(try clear ho0)))
      repeat (go_quiet (first|(go_at_call 90;(with_reducible refine (Abt.calls kj7 Ax _ _ Au Al Ak Ct _ ?side1 ?side2 A22.out).mono ?_);(case side1=>exact cl_ (Kd.R_reads' Ad.out).2.2);(case side2=>exact (Kd.R_reads' Ad.out).2.1);rintro e w29 ⟨Dj,rfl,ho0,hb⟩;replace HO_6:=rb_ HO_6 hb;have Ay:=A_ (Kd.R_lower (Kd.R_new' ho0 (Kd.R_lt (rl_ Ad))) (below_size bb_));replace Ad:=A_ (Kd.R_elder' (rl_ Ad) (Kd.R_base ho0) hb);replace Ae:=bz Ae hb;replace HB:=A_ (below_step bb_ hb);(try clear hb);(try clear hb2);(try clear hk);(try clear hi);(try clear ho0))|((with_reducible refine gate_dst (N:=10) rfl ?_);(try (refine gate_guard (by rfl) ?_;dsimp only));refine box_event ?hg (N:=10) ?hd (cs:=#[.int .i64 0,.slice none 0 0]) (t:=28) ?hr ?_;(case hd=>rfl);(case hg=>rfl);(case hr=>go_simp;try rfl);intro Bq hg w30 hbox hb;replace HO_6:=rb_ HO_6 hb;replace Ad:=rb_ Ad hb;replace Ay:=rb_ Ay hb;have Af:=A_ (hbox);have De:=A_ (gw_ (w:=w) hg bb_);have Df:=A_ (gw_ (w:=w) hg bb_);replace HB:=A_ (below_step bb_ hb);have Bn:=A_ (nl_ hg Ae);have Bx:=A_ (ng_ hg Ae);replace Ae:=bz Ae hb;clear hb hbox hg;have hnb31:=Bx.out;have hnc31:=Bn.out;have hcz32_0 : w30.cell? ⟨Bq,0,none⟩ = some (.int .i64 0):=blk_cell Af.out 0;have hcz32_1 : w30.cell? ⟨Bq,1,none⟩ = some (.slice none 0 0):=blk_cell Af.out 1;have hfz32_0:=blk_frozen Af.out 0;have hfz32_1:=blk_frozen Af.out 1;obtain ⟨Ao33,co33,eo33⟩:=Kd.R_slice Ay.out;subst eo33)|(go_at_call 48;(with_reducible refine (Abe.calls kj7 Al _ _ Ak Aq Cu _ ?side1 ?side2 ?side3 A23.out).mono ?_);(case side1=>refine (Kd.R_reads' (e:=3) (base:=w.heap.size) (ok:=fun k_=>(True ∧ some k_ ≠ (.slice Ao12 Au.length co12 : Value).ownBlock)) (n:=Ak.length) (c:=co33) ?_).2.2;exact (rq_ (rf_ Ay Af (.int .i64 Al) (.slice Ao33 Ak.length co33))));(case side2=>exact (Kd.R_reads' Ay.out).2.1);(case side3=>first|exact HT.out|exact HT.out.below bb_|(repeat (first|exact HT.out|apply TabOK.drewN|apply TabOK.drew|apply TabOK.alloc)));rintro e w34 ⟨C2,rfl,ho0,hb⟩;replace Ad:=A_ (Kd.R_below (rq_ (rf_ Ad Af (.int .i64 Al) (.slice Ao33 Ak.length co33))) hb);replace Ay:=A_ (Kd.R_below (rq_ (rf_ Ay Af (.int .i64 Al) (.slice Ao33 Ak.length co33))) hb);have Bw:=A_ (Kd.R_lower (Kd.R_new' ho0 (Kd.R_lt (rq_ (rf_ HO_6 Af (.int .i64 Al) (.slice Ao33 Ak.length co33))))) (below_size bb_));replace HO_6:=A_ (Kd.R_elder' (rq_ (rf_ HO_6 Af (.int .i64 Al) (.slice Ao33 Ak.length co33))) (Kd.R_base ho0) hb);replace Ae:=A_ (blk_below (g:=Bp) (o:=.cells #[.int .i64 Ax,.slice Ao12 Au.length co12] 28 (0,0)) (by (with_reducible repeat (first|refine blk_drewN ?_ _|refine blk_drew ?_|refine blk_alloc ?_ _));refine blk_far ?_ Bn.out _;(with_reducible repeat (first|refine blk_drewN ?_ _|refine blk_drew ?_|refine blk_alloc ?_ _));refine blk_far ?_ Bn.out _;(with_reducible repeat (first|refine blk_drewN ?_ _|refine blk_drew ?_|refine blk_alloc ?_ _));exact Ae.out) hb);replace Af:=A_ (blk_below (g:=Bq) (o:=.cells #[.int .i64 Al,.slice Ao33 Ak.length co33] 28 (0,0)) (by (with_reducible repeat (first|refine blk_drewN ?_ _|refine blk_drew ?_|refine blk_alloc ?_ _));refine blk_put (cs:=#[.int .i64 Al,.slice none 0 0]) ?_ 1 _ rfl;(with_reducible repeat (first|refine blk_drewN ?_ _|refine blk_drew ?_|refine blk_alloc ?_ _));refine blk_put (cs:=#[.int .i64 0,.slice none 0 0]) ?_ 0 _ rfl;(with_reducible repeat (first|refine blk_drewN ?_ _|refine blk_drew ?_|refine blk_alloc ?_ _));exact Af.out) hb);replace HB:=A_ (below_step bb_ hb);(try clear hb);(try clear hb2);(try clear hk);(try clear hi);(try clear ho0);have hcz35_0 : w34.cell? ⟨Bp,0,none⟩ = some (.int .i64 Ax):=blk_cell Ae.out 0;have hcz35_1 : w34.cell? ⟨Bp,1,none⟩ = some (.slice Ao12 Au.length co12):=blk_cell Ae.out 1;have hfz35_0:=blk_frozen Ae.out 0;have hfz35_1:=blk_frozen Ae.out 1)|(go_at_call 59;(with_reducible refine (Aa4.calls kj7 Ax _ _ Au Av Cv _ ?side1 ?side2 ?side3 A24.out).mono ?_);(case side1=>exact cl_ (Kd.R_reads' Ad.out).2.2);(case side2=>exact (Kd.R_reads' Ad.out).2.1);(case side3=>first|exact HT.out|exact HT.out.below bb_|(repeat (first|exact HT.out|apply TabOK.drewN|apply TabOK.drew|apply TabOK.alloc)));rintro e w36 ⟨rfl,hb⟩;replace HO_6:=rb_ HO_6 hb;replace Ad:=rb_ Ad hb;replace Ay:=rb_ Ay hb;replace Bw:=rb_ Bw hb;replace Ae:=bz Ae hb;replace Af:=bz Af hb;replace HB:=A_ (below_step bb_ hb);(try clear hb);(try clear hb2);(try clear hk);(try clear hi);have hcz37_0 : w36.cell? ⟨Bq,0,none⟩ = some (.int .i64 Al):=blk_cell Af.out 0;have hcz37_1 : w36.cell? ⟨Bq,1,none⟩ = some (.slice Ao33 Ak.length co33):=blk_cell Af.out 1;have hfz37_0:=blk_frozen Af.out 0;have hfz37_1:=blk_frozen Af.out 1)|(go_at_call 59;(with_reducible refine (Aa4.calls kj7 Al _ _ Ak Ch Cw _ ?side1 ?side2 ?side3 A25.out).mono ?_);(case side1=>exact cl_ (Kd.R_reads' Ay.out).2.2);(case side2=>exact (Kd.R_reads' Ay.out).2.1);(case side3=>first|exact HT.out|exact HT.out.below bb_|(repeat (first|exact HT.out|apply TabOK.drewN|apply TabOK.drew|apply TabOK.alloc)));rintro e w38 ⟨rfl,hb⟩;replace HO_6:=rb_ HO_6 hb;replace Ad:=rb_ Ad hb;replace Ay:=rb_ Ay hb;replace Bw:=rb_ Bw hb;replace Ae:=bz Ae hb;replace Af:=bz Af hb;replace HB:=A_ (below_step bb_ hb);(try clear hb);(try clear hb2);(try clear hk);(try clear hi);have hcz39_0 : w38.cell? ⟨Bp,0,none⟩ = some (.int .i64 Ax):=blk_cell Ae.out 0;have hcz39_1 : w38.cell? ⟨Bp,1,none⟩ = some (.slice Ao12 Au.length co12):=blk_cell Ae.out 1;have hfz39_0:=blk_frozen Ae.out 0;have hfz39_1:=blk_frozen Ae.out 1)|(go_at_call 58;(with_reducible refine (Abb.calls kj7 Ax _ _ Au Be Cx _ ?side1 ?side2 ?side3 A26.out).mono ?_);(case side1=>exact cl_ (Kd.R_reads' Ad.out).2.2);(case side2=>exact (Kd.R_reads' Ad.out).2.1);(case side3=>first|exact HT.out|exact HT.out.below bb_|(repeat (first|exact HT.out|apply TabOK.drewN|apply TabOK.drew|apply TabOK.alloc)));rintro e w40 ⟨Cz,rfl,ho0,hb⟩;replace HO_6:=rb_ HO_6 hb;replace Bw:=rb_ Bw hb;have Cr:=A_ (Kd.R_lower (Kd.R_new' (Kd.R_new' ho0 (Kd.R_lt (rl_ Ad))) (Kd.R_lt (rl_ Ay))) (below_size bb_));replace Ad:=A_ (Kd.R_elder' (rl_ Ad) (Kd.R_base ho0) hb);replace Ay:=A_ (Kd.R_elder' (rl_ Ay) (Kd.R_base ho0) hb);replace Ae:=bz Ae hb;replace Af:=bz Af hb;replace HB:=A_ (below_step bb_ hb);(try clear hb);(try clear hb2);(try clear hk);(try clear hi);(try clear ho0)));go_upto_region 15 with (first|(go_at_call 90;(with_reducible refine (Abt.calls kj7 Ax _ _ Au Al Ak Ct _ ?side1 ?side2 A22.out).mono ?_);(case side1=>exact cl_ (Kd.R_reads' Ad.out).2.2);(case side2=>exact (Kd.R_reads' Ad.out).2.1);rintro e w29 ⟨Dj,rfl,ho0,hb⟩;replace HO_6:=rb_ HO_6 hb;have Ay:=A_ (Kd.R_lower (Kd.R_new' ho0 (Kd.R_lt (rl_ Ad))) (below_size bb_));replace Ad:=A_ (Kd.R_elder' (rl_ Ad) (Kd.R_base ho0) hb);replace Ae:=bz Ae hb;replace HB:=A_ (below_step bb_ hb);(try clear hb);(try clear hb2);(try clear hk);(try clear hi);(try clear ho0))|((with_reducible refine gate_dst (N:=10) rfl ?_);(try (refine gate_guard (by rfl) ?_;dsimp only));refine box_event ?hg (N:=10) ?hd (cs:=#[.int .i64 0,.slice none 0 0]) (t:=28) ?hr ?_;(case hd=>rfl);(case hg=>rfl);(case hr=>go_simp;try rfl);intro Bq hg w30 hbox hb;replace HO_6:=rb_ HO_6 hb;replace Ad:=rb_ Ad hb;replace Ay:=rb_ Ay hb;have Af:=A_ (hbox);have De:=A_ (gw_ (w:=w) hg bb_);have Df:=A_ (gw_ (w:=w) hg bb_);replace HB:=A_ (below_step bb_ hb);have Bn:=A_ (nl_ hg Ae);have Bx:=A_ (ng_ hg Ae);replace Ae:=bz Ae hb;clear hb hbox hg;have hnb31:=Bx.out;have hnc31:=Bn.out;have hcz32_0 : w30.cell? ⟨Bq,0,none⟩ = some (.int .i64 0):=blk_cell Af.out 0;have hcz32_1 : w30.cell? ⟨Bq,1,none⟩ = some (.slice none 0 0):=blk_cell Af.out 1;have hfz32_0:=blk_frozen Af.out 0;have hfz32_1:=blk_frozen Af.out 1;obtain ⟨Ao33,co33,eo33⟩:=Kd.R_slice Ay.out;subst eo33)|(go_at_call 48;(with_reducible refine (Abe.calls kj7 Al _ _ Ak Aq Cu _ ?side1 ?side2 ?side3 A23.out).mono ?_);(case side1=>refine (Kd.R_reads' (e:=3) (base:=w.heap.size) (ok:=fun k_=>(True ∧ some k_ ≠ (.slice Ao12 Au.length co12 : Value).ownBlock)) (n:=Ak.length) (c:=co33) ?_).2.2;exact (rq_ (rf_ Ay Af (.int .i64 Al) (.slice Ao33 Ak.length co33))));(case side2=>exact (Kd.R_reads' Ay.out).2.1);(case side3=>first|exact HT.out|exact HT.out.below bb_|(repeat (first|exact HT.out|apply TabOK.drewN|apply TabOK.drew|apply TabOK.alloc)));rintro e w34 ⟨C2,rfl,ho0,hb⟩;replace Ad:=A_ (Kd.R_below (rq_ (rf_ Ad Af (.int .i64 Al) (.slice Ao33 Ak.length co33))) hb);replace Ay:=A_ (Kd.R_below (rq_ (rf_ Ay Af (.int .i64 Al) (.slice Ao33 Ak.length co33))) hb);have Bw:=A_ (Kd.R_lower (Kd.R_new' ho0 (Kd.R_lt (rq_ (rf_ HO_6 Af (.int .i64 Al) (.slice Ao33 Ak.length co33))))) (below_size bb_));replace HO_6:=A_ (Kd.R_elder' (rq_ (rf_ HO_6 Af (.int .i64 Al) (.slice Ao33 Ak.length co33))) (Kd.R_base ho0) hb);replace Ae:=A_ (blk_below (g:=Bp) (o:=.cells #[.int .i64 Ax,.slice Ao12 Au.length co12] 28 (0,0)) (by (with_reducible repeat (first|refine blk_drewN ?_ _|refine blk_drew ?_|refine blk_alloc ?_ _));refine blk_far ?_ Bn.out _;(with_reducible repeat (first|refine blk_drewN ?_ _|refine blk_drew ?_|refine blk_alloc ?_ _));refine blk_far ?_ Bn.out _;(with_reducible repeat (first|refine blk_drewN ?_ _|refine blk_drew ?_|refine blk_alloc ?_ _));exact Ae.out) hb);replace Af:=A_ (blk_below (g:=Bq) (o:=.cells #[.int .i64 Al,.slice Ao33 Ak.length co33] 28 (0,0)) (by (with_reducible repeat (first|refine blk_drewN ?_ _|refine blk_drew ?_|refine blk_alloc ?_ _));refine blk_put (cs:=#[.int .i64 Al,.slice none 0 0]) ?_ 1 _ rfl;(with_reducible repeat (first|refine blk_drewN ?_ _|refine blk_drew ?_|refine blk_alloc ?_ _));refine blk_put (cs:=#[.int .i64 0,.slice none 0 0]) ?_ 0 _ rfl;(with_reducible repeat (first|refine blk_drewN ?_ _|refine blk_drew ?_|refine blk_alloc ?_ _));exact Af.out) hb);replace HB:=A_ (below_step bb_ hb);(try clear hb);(try clear hb2);(try clear hk);(try clear hi);(try clear ho0);have hcz35_0 : w34.cell? ⟨Bp,0,none⟩ = some (.int .i64 Ax):=blk_cell Ae.out 0;have hcz35_1 : w34.cell? ⟨Bp,1,none⟩ = some (.slice Ao12 Au.length co12):=blk_cell Ae.out 1;have hfz35_0:=blk_frozen Ae.out 0;have hfz35_1:=blk_frozen Ae.out 1)|(go_at_call 59;(with_reducible refine (Aa4.calls kj7 Ax _ _ Au Av Cv _ ?side1 ?side2 ?side3 A24.out).mono ?_);(case side1=>exact cl_ (Kd.R_reads' Ad.out).2.2);(case side2=>exact (Kd.R_reads' Ad.out).2.1);(case side3=>first|exact HT.out|exact HT.out.below bb_|(repeat (first|exact HT.out|apply TabOK.drewN|apply TabOK.drew|apply TabOK.alloc)));rintro e w36 ⟨rfl,hb⟩;replace HO_6:=rb_ HO_6 hb;replace Ad:=rb_ Ad hb;replace Ay:=rb_ Ay hb;replace Bw:=rb_ Bw hb;replace Ae:=bz Ae hb;replace Af:=bz Af hb;replace HB:=A_ (below_step bb_ hb);(try clear hb);(try clear hb2);(try clear hk);(try clear hi);have hcz37_0 : w36.cell? ⟨Bq,0,none⟩ = some (.int .i64 Al):=blk_cell Af.out 0;have hcz37_1 : w36.cell? ⟨Bq,1,none⟩ = some (.slice Ao33 Ak.length co33):=blk_cell Af.out 1;have hfz37_0:=blk_frozen Af.out 0;have hfz37_1:=blk_frozen Af.out 1)|(go_at_call 59;(with_reducible refine (Aa4.calls kj7 Al _ _ Ak Ch Cw _ ?side1 ?side2 ?side3 A25.out).mono ?_);(case side1=>exact cl_ (Kd.R_reads' Ay.out).2.2);(case side2=>exact (Kd.R_reads' Ay.out).2.1);(case side3=>first|exact HT.out|exact HT.out.below bb_|(repeat (first|exact HT.out|apply TabOK.drewN|apply TabOK.drew|apply TabOK.alloc)));rintro e w38 ⟨rfl,hb⟩;replace HO_6:=rb_ HO_6 hb;replace Ad:=rb_ Ad hb;replace Ay:=rb_ Ay hb;replace Bw:=rb_ Bw hb;replace Ae:=bz Ae hb;replace Af:=bz Af hb;replace HB:=A_ (below_step bb_ hb);(try clear hb);(try clear hb2);(try clear hk);(try clear hi);have hcz39_0 : w38.cell? ⟨Bp,0,none⟩ = some (.int .i64 Ax):=blk_cell Ae.out 0;have hcz39_1 : w38.cell? ⟨Bp,1,none⟩ = some (.slice Ao12 Au.length co12):=blk_cell Ae.out 1;have hfz39_0:=blk_frozen Ae.out 0;have hfz39_1:=blk_frozen Ae.out 1)|(go_at_call 58;(with_reducible refine (Abb.calls kj7 Ax _ _ Au Be Cx _ ?side1 ?side2 ?side3 A26.out).mono ?_);(case side1=>exact cl_ (Kd.R_reads' Ad.out).2.2);(case side2=>exact (Kd.R_reads' Ad.out).2.1);(case side3=>first|exact HT.out|exact HT.out.below bb_|(repeat (first|exact HT.out|apply TabOK.drewN|apply TabOK.drew|apply TabOK.alloc)));rintro e w40 ⟨Cz,rfl,ho0,hb⟩;replace HO_6:=rb_ HO_6 hb;replace Bw:=rb_ Bw hb;have Cr:=A_ (Kd.R_lower (Kd.R_new' (Kd.R_new' ho0 (Kd.R_lt (rl_ Ad))) (Kd.R_lt (rl_ Ay))) (below_size bb_));replace Ad:=A_ (Kd.R_elder' (rl_ Ad) (Kd.R_base ho0) hb);replace Ay:=A_ (Kd.R_elder' (rl_ Ay) (Kd.R_base ho0) hb);replace Ae:=bz Ae hb;replace Af:=bz Af hb;replace HB:=A_ (below_step bb_ hb);(try clear hb);(try clear hb2);(try clear hk);(try clear hi);(try clear ho0))))
      (try simp only [Act.put,L_,M_,N_]);go_cut [106] (fun Ds wc=>∃ (kq : Nat) (C4 : Bool),Ds = .bool C4 ∧ Aside0 (Aab.j1 kq Ac Aq Av Be C4 Al Ak = some r) ∧ Aside0 (kq ≤ kj7) ∧ Aside0 (Kd.R k62 62 wc w.heap.size (fun k_=>some k_ ≠ (C2 : Value).ownBlock) C8 Ac) ∧ Aside0 (Kd.R k62 62 wc w.heap.size (fun k_=>some k_ ≠ (C8 : Value).ownBlock) C2 Aq) ∧ Aside0 (Kd.R (Kd.int .i64) 3 wc w.heap.size (fun k_=>some k_ ≠ ((.slice Ao12 Au.length co12) : Value).ownBlock ∧ some k_ ≠ ((.slice Ao33 Ak.length co33) : Value).ownBlock) Cz Be) ∧ Aside0 (Kd.R (Kd.int .i64) 3 wc w.heap.size (fun k_=>some k_ ≠ (Cz : Value).ownBlock ∧ some k_ ≠ ((.slice Ao33 Ak.length co33) : Value).ownBlock) (.slice Ao12 Au.length co12) Au) ∧ Aside0 (Kd.R (Kd.int .i64) 3 wc w.heap.size (fun k_=>some k_ ≠ (Cz : Value).ownBlock ∧ some k_ ≠ ((.slice Ao12 Au.length co12) : Value).ownBlock) (.slice Ao33 Ak.length co33) Ak) ∧ Aside0 (wc.heap[Bp]? = some (.cells #[.int .i64 Ax,(.slice Ao12 Au.length co12)] 28 (0,0))) ∧ Aside0 (wc.heap[Bq]? = some (.cells #[.int .i64 Al,(.slice Ao33 Ak.length co33)] 28 (0,0))) ∧ Aside0 (Below w.heap.size w wc))
      case first =>
       have H:=HC27.out;clear HC27;by_cases c41 : Ct = true
       ·subst c41;have H1 : (if Cu = true then (if Cv = true then (if Cw = true then (if Cx = true then (if Av = Ch then (Aab.j1 kj7 Ac Aq Av Be ((Aq.length : Int) != (Ac.length : Int)) Al Ak) else (Aab.j1 kj7 Ac Aq Av Be true Al Ak)) else (Aab.j1 kj7 Ac Aq Av Be true Al Ak)) else (Aab.j1 kj7 Ac Aq Av Be true Al Ak)) else (Aab.j1 kj7 Ac Aq Av Be true Al Ak)) else (Aab.j1 kj7 Ac Aq Av Be true Al Ak)) = some r:=by rw [if_pos rfl] at H;exact H
        clear H;have H:=H1;clear H1;by_cases c42 : Cu = true
        ·subst c42;have H1 : (if Cv = true then (if Cw = true then (if Cx = true then (if Av = Ch then (Aab.j1 kj7 Ac Aq Av Be ((Aq.length : Int) != (Ac.length : Int)) Al Ak) else (Aab.j1 kj7 Ac Aq Av Be true Al Ak)) else (Aab.j1 kj7 Ac Aq Av Be true Al Ak)) else (Aab.j1 kj7 Ac Aq Av Be true Al Ak)) else (Aab.j1 kj7 Ac Aq Av Be true Al Ak)) = some r:=by rw [if_pos rfl] at H;exact H
         clear H;have H:=H1;clear H1;by_cases c43 : Cv = true
         ·subst c43;have H1 : (if Cw = true then (if Cx = true then (if Av = Ch then (Aab.j1 kj7 Ac Aq Av Be ((Aq.length : Int) != (Ac.length : Int)) Al Ak) else (Aab.j1 kj7 Ac Aq Av Be true Al Ak)) else (Aab.j1 kj7 Ac Aq Av Be true Al Ak)) else (Aab.j1 kj7 Ac Aq Av Be true Al Ak)) = some r:=by rw [if_pos rfl] at H;exact H
          clear H;have H:=H1;clear H1;by_cases c44 : Cw = true
          ·subst c44;have H1 : (if Cx = true then (if Av = Ch then (Aab.j1 kj7 Ac Aq Av Be ((Aq.length : Int) != (Ac.length : Int)) Al Ak) else (Aab.j1 kj7 Ac Aq Av Be true Al Ak)) else (Aab.j1 kj7 Ac Aq Av Be true Al Ak)) = some r:=by rw [if_pos rfl] at H;exact H
           clear H;have H:=H1;clear H1;by_cases c45 : Cx = true
           ·subst c45;have H1 : (if Av = Ch then (Aab.j1 kj7 Ac Aq Av Be ((Aq.length : Int) != (Ac.length : Int)) Al Ak) else (Aab.j1 kj7 Ac Aq Av Be true Al Ak)) = some r:=by rw [if_pos rfl] at H;exact H
            clear H;have H:=H1;clear H1;by_cases c46 : Av = Ch
            ·rw [if_pos c46] at H;have c46b0 : (Av == Ch) = true:=beq_iff_eq.mpr c46;have c46b1 : (Av != Ch) = false:=bne_eq_false_iff_eq.mpr c46;clear c46;(first|rw [c46b0]|(simp only [i64_w,i32_w];rw [c46b0])|skip)
             have H':=A_ H;clear H;obtain ⟨Ao47,co47,eo47⟩:=Kd.R_slice Bw.out;subst eo47;obtain ⟨Ao48,co48,eo48⟩:=Kd.R_slice HO_6.out;subst eo48;go_wp2
             repeat (go_quiet (fail);try go_wp2)
             go_meet
             case rel=>exact ⟨_,(((Aq.length : Int) != (Ac.length : Int))),(by first|rfl|(simp;done)|(simp [*];done)),H',⟨by have:=HJ7.out;first|omega|exact Nat.le_refl _⟩,⟨rq_ (Kd.R_mono HO_6.out (fun _ hk=>hk.2))⟩,⟨rq_ (Kd.R_mono Bw.out (fun _ hk=>hk.2))⟩,⟨rq_ (Kd.R_mono Cr.out (fun _ hk=>⟨hk.1.2,hk.2⟩))⟩,⟨rq_ (Kd.R_mono Ad.out (fun _ hk=>⟨hk.2,hk.1.2⟩))⟩,⟨rq_ (Kd.R_mono Ay.out (fun _ hk=>⟨hk.2,hk.1.2⟩))⟩,⟨bl_ Ae⟩,⟨bl_ Af⟩,⟨bb_⟩⟩
            ·rw [if_neg c46] at H;have c46b0 : (Av == Ch) = false:=beq_eq_false_iff_ne.mpr c46;have c46b1 : (Av != Ch) = true:=bne_iff_ne.mpr c46;(first|rw [c46b0]|(simp only [i64_w,i32_w];rw [c46b0])|skip)
             have H':=A_ H;clear H;go_wp2
             repeat (go_quiet (fail);try go_wp2)
             go_meet
             case rel=>exact ⟨_,(true),(by first|rfl|(simp;done)|(simp [*];done)),H',⟨by have:=HJ7.out;first|omega|exact Nat.le_refl _⟩,⟨rq_ (Kd.R_mono HO_6.out (fun _ hk=>hk.2))⟩,⟨rq_ (Kd.R_mono Bw.out (fun _ hk=>hk.2))⟩,⟨rq_ (Kd.R_mono Cr.out (fun _ hk=>⟨hk.1.2,hk.2⟩))⟩,⟨rq_ (Kd.R_mono Ad.out (fun _ hk=>⟨hk.2,hk.1.2⟩))⟩,⟨rq_ (Kd.R_mono Ay.out (fun _ hk=>⟨hk.2,hk.1.2⟩))⟩,⟨bl_ Ae⟩,⟨bl_ Af⟩,⟨bb_⟩⟩
           ·replace c45:=Bool.eq_false_iff.mpr c45;subst c45;have H1 : (Aab.j1 kj7 Ac Aq Av Be true Al Ak) = some r:=by rw [if_neg (show ¬ (false = true) by decide)] at H;exact H
            clear H;have H:=H1;clear H1;have H':=A_ H;clear H;go_wp2
            repeat (go_quiet (fail);try go_wp2)
            go_meet
            case rel=>exact ⟨_,(true),(by first|rfl|(simp;done)|(simp [*];done)),H',⟨by have:=HJ7.out;first|omega|exact Nat.le_refl _⟩,⟨rq_ (Kd.R_mono HO_6.out (fun _ hk=>hk.2))⟩,⟨rq_ (Kd.R_mono Bw.out (fun _ hk=>hk.2))⟩,⟨rq_ (Kd.R_mono Cr.out (fun _ hk=>⟨hk.1.2,hk.2⟩))⟩,⟨rq_ (Kd.R_mono Ad.out (fun _ hk=>⟨hk.2,hk.1.2⟩))⟩,⟨rq_ (Kd.R_mono Ay.out (fun _ hk=>⟨hk.2,hk.1.2⟩))⟩,⟨bl_ Ae⟩,⟨bl_ Af⟩,⟨bb_⟩⟩
          ·replace c44:=Bool.eq_false_iff.mpr c44;subst c44;have H1 : (Aab.j1 kj7 Ac Aq Av Be true Al Ak) = some r:=by rw [if_neg (show ¬ (false = true) by decide)] at H;exact H
           clear H;have H:=H1;clear H1;have H':=A_ H;clear H;go_wp2
           repeat (go_quiet (fail);try go_wp2)
           go_meet
           case rel=>exact ⟨_,(true),(by first|rfl|(simp;done)|(simp [*];done)),H',⟨by have:=HJ7.out;first|omega|exact Nat.le_refl _⟩,⟨rq_ (Kd.R_mono HO_6.out (fun _ hk=>hk.2))⟩,⟨rq_ (Kd.R_mono Bw.out (fun _ hk=>hk.2))⟩,⟨rq_ (Kd.R_mono Cr.out (fun _ hk=>⟨hk.1.2,hk.2⟩))⟩,⟨rq_ (Kd.R_mono Ad.out (fun _ hk=>⟨hk.2,hk.1.2⟩))⟩,⟨rq_ (Kd.R_mono Ay.out (fun _ hk=>⟨hk.2,hk.1.2⟩))⟩,⟨bl_ Ae⟩,⟨bl_ Af⟩,⟨bb_⟩⟩
         ·replace c43:=Bool.eq_false_iff.mpr c43;subst c43;have H1 : (Aab.j1 kj7 Ac Aq Av Be true Al Ak) = some r:=by rw [if_neg (show ¬ (false = true) by decide)] at H;exact H
          clear H;have H:=H1;clear H1;have H':=A_ H;clear H;go_wp2
          repeat (go_quiet (fail);try go_wp2)
          go_meet
          case rel=>exact ⟨_,(true),(by first|rfl|(simp;done)|(simp [*];done)),H',⟨by have:=HJ7.out;first|omega|exact Nat.le_refl _⟩,⟨rq_ (Kd.R_mono HO_6.out (fun _ hk=>hk.2))⟩,⟨rq_ (Kd.R_mono Bw.out (fun _ hk=>hk.2))⟩,⟨rq_ (Kd.R_mono Cr.out (fun _ hk=>⟨hk.1.2,hk.2⟩))⟩,⟨rq_ (Kd.R_mono Ad.out (fun _ hk=>⟨hk.2,hk.1.2⟩))⟩,⟨rq_ (Kd.R_mono Ay.out (fun _ hk=>⟨hk.2,hk.1.2⟩))⟩,⟨bl_ Ae⟩,⟨bl_ Af⟩,⟨bb_⟩⟩
        ·replace c42:=Bool.eq_false_iff.mpr c42;subst c42;have H1 : (Aab.j1 kj7 Ac Aq Av Be true Al Ak) = some r:=by rw [if_neg (show ¬ (false = true) by decide)] at H;exact H
         clear H;have H:=H1;clear H1;have H':=A_ H;clear H;go_wp2
         repeat (go_quiet (fail);try go_wp2)
         go_meet
         case rel=>exact ⟨_,(true),(by first|rfl|(simp;done)|(simp [*];done)),H',⟨by have:=HJ7.out;first|omega|exact Nat.le_refl _⟩,⟨rq_ (Kd.R_mono HO_6.out (fun _ hk=>hk.2))⟩,⟨rq_ (Kd.R_mono Bw.out (fun _ hk=>hk.2))⟩,⟨rq_ (Kd.R_mono Cr.out (fun _ hk=>⟨hk.1.2,hk.2⟩))⟩,⟨rq_ (Kd.R_mono Ad.out (fun _ hk=>⟨hk.2,hk.1.2⟩))⟩,⟨rq_ (Kd.R_mono Ay.out (fun _ hk=>⟨hk.2,hk.1.2⟩))⟩,⟨bl_ Ae⟩,⟨bl_ Af⟩,⟨bb_⟩⟩
       ·replace c41:=Bool.eq_false_iff.mpr c41;subst c41;have H1 : (Aab.j1 kj7 Ac Aq Av Be true Al Ak) = some r:=by rw [if_neg (show ¬ (false = true) by decide)] at H;exact H
        clear H;have H:=H1;clear H1;have H':=A_ H;clear H;go_wp2
        repeat (go_quiet (fail);try go_wp2)
        go_meet
        case rel=>exact ⟨_,(true),(by first|rfl|(simp;done)|(simp [*];done)),H',⟨by have:=HJ7.out;first|omega|exact Nat.le_refl _⟩,⟨rq_ (Kd.R_mono HO_6.out (fun _ hk=>hk.2))⟩,⟨rq_ (Kd.R_mono Bw.out (fun _ hk=>hk.2))⟩,⟨rq_ (Kd.R_mono Cr.out (fun _ hk=>⟨hk.1.2,hk.2⟩))⟩,⟨rq_ (Kd.R_mono Ad.out (fun _ hk=>⟨hk.2,hk.1.2⟩))⟩,⟨rq_ (Kd.R_mono Ay.out (fun _ hk=>⟨hk.2,hk.1.2⟩))⟩,⟨bl_ Ae⟩,⟨bl_ Af⟩,⟨bb_⟩⟩
      case rest =>
       clear HC27;try clear c1
       try clear c2
       try clear p2
       try clear c3
       try clear c4
       try clear c11
       try clear c16
       try clear c16b0
       try clear c16b1
       try clear c16b2
       try clear c20
       try clear c21
       try clear c31
       try clear c41
       try clear c42
       try clear c43
       try clear c44
       try clear c45
       try clear c46
       try clear c46b0
       try clear c46b1
       try clear hcz11_0
       try clear hcz11_1
       try clear hcz14_0
       try clear hcz14_1
       try clear hcz28_0
       try clear hcz28_1
       try clear hcz32_0
       try clear hcz32_1
       try clear hcz35_0
       try clear hcz35_1
       try clear hcz37_0
       try clear hcz37_1
       try clear hcz39_0
       try clear hcz39_1
       try clear hfz11_0
       try clear hfz11_1
       try clear hfz14_0
       try clear hfz14_1
       try clear hfz28_0
       try clear hfz28_1
       try clear hfz32_0
       try clear hfz32_1
       try clear hfz35_0
       try clear hfz35_1
       try clear hfz37_0
       try clear hfz37_1
       try clear hfz39_0
       try clear hfz39_1
       try clear p2
       obtain ⟨kq,C4,rfl,HA,HJ26,HO_6,HO_12,HO_18,Ad,Ag,Ae,Af,HB⟩:=hcut;cases kq with
       | zero=>exact absurd HA.out (by simp [Aab.j1])
       | succ kj26 =>
        have H:=HA.out;clear HA;simp only [Aab.j1] at H
        by_cases c49 : C4 = true
        ·subst c49;have H1 : (some false) = some r:=by rw [if_pos rfl] at H;exact H
         clear H;have H:=H1;clear H1;obtain rfl:=Option.some.inj H;go_wp2
         repeat (go_quiet (fail);try go_wp2)
         go_ret
         exact ⟨by first|rfl|(simp [errW_none,errW_some] <;> rfl)|(simp [*,errW_none,errW_some] <;> rfl),bb_⟩
        ·replace c49:=Bool.eq_false_iff.mpr c49;subst c49;have H1 : (Aab.l0 kj26 Ac Aq Av Be Ac (Ac.length : Int) 0 Al Ak) = some r:=by rw [if_neg (show ¬ (false = true) by decide)] at H;exact H
         clear H;have H:=H1;clear H1;have H':=A_ H;clear H;obtain ⟨Ao50,co50,eo50⟩:=Kd.R_slice HO_6.out;subst eo50;go_wp2
         repeat (go_quiet (fail);try go_wp2)
         go_loopg [109] kj26 (fun kq Dt w'=>∃ (Aa : Int),Dt = .int .i64 Aa ∧ Aside0 (Aab.l0 kq Ac Aq Av Be Ac (Ac.length : Int) Aa Al Ak = some r) ∧ Aside0 (kq ≤ kj26) ∧ Aside0 (Kd.R k62 62 w' w.heap.size (fun k_=>some k_ ≠ (C2 : Value).ownBlock) (.slice Ao50 Ac.length co50) Ac) ∧ Aside0 (Kd.R k62 62 w' w.heap.size (fun k_=>some k_ ≠ ((.slice Ao50 Ac.length co50) : Value).ownBlock ∧ some k_ ≠ ((.slice Ao50 Ac.length co50) : Value).ownBlock) C2 Aq) ∧ Aside0 (Kd.R (Kd.int .i64) 3 w' w.heap.size (fun k_=>some k_ ≠ ((.slice Ao12 Au.length co12) : Value).ownBlock ∧ some k_ ≠ ((.slice Ao33 Ak.length co33) : Value).ownBlock) Cz Be) ∧ Aside0 (Kd.R k62 62 w' w.heap.size (fun k_=>some k_ ≠ (C2 : Value).ownBlock) (.slice Ao50 Ac.length co50) Ac) ∧ Aside0 (Kd.R (Kd.int .i64) 3 w' w.heap.size (fun k_=>some k_ ≠ (Cz : Value).ownBlock ∧ some k_ ≠ ((.slice Ao33 Ak.length co33) : Value).ownBlock) (.slice Ao12 Au.length co12) Au) ∧ Aside0 (Kd.R (Kd.int .i64) 3 w' w.heap.size (fun k_=>some k_ ≠ (Cz : Value).ownBlock ∧ some k_ ≠ ((.slice Ao12 Au.length co12) : Value).ownBlock) (.slice Ao33 Ak.length co33) Ak) ∧ Aside0 (w'.heap[Bp]? = some (.cells #[.int .i64 Ax,(.slice Ao12 Au.length co12)] 28 (0,0))) ∧ Aside0 (w'.heap[Bq]? = some (.cells #[.int .i64 Al,(.slice Ao33 Ak.length co33)] 28 (0,0))) ∧ Aside0 (Below w.heap.size w w'))
         case atStart=>exact ⟨(0),(by first|rfl|(simp;done)|(simp [*];done)),H',⟨Nat.le_refl _⟩,⟨rl_ HO_6⟩,⟨rq_ (Kd.R_mono HO_12.out (fun _ hk=>⟨hk,hk⟩))⟩,⟨rl_ HO_18⟩,⟨rl_ HO_6⟩,⟨rl_ Ad⟩,⟨rl_ Ag⟩,⟨bl_ Ae⟩,⟨bl_ Af⟩,⟨bb_⟩⟩
         case round =>
          clear H';try clear c1
          try clear c2
          try clear p2
          try clear c3
          try clear c4
          try clear c11
          try clear c16
          try clear c16b0
          try clear c16b1
          try clear c16b2
          try clear c20
          try clear c21
          try clear c31
          try clear c41
          try clear c42
          try clear c43
          try clear c44
          try clear c45
          try clear c46
          try clear c46b0
          try clear c46b1
          try clear c49
          try clear hcz11_0
          try clear hcz11_1
          try clear hcz14_0
          try clear hcz14_1
          try clear hcz28_0
          try clear hcz28_1
          try clear hcz32_0
          try clear hcz32_1
          try clear hcz35_0
          try clear hcz35_1
          try clear hcz37_0
          try clear hcz37_1
          try clear hcz39_0
          try clear hcz39_1
          try clear hfz11_0
          try clear hfz11_1
          try clear hfz14_0
          try clear hfz14_1
          try clear hfz28_0
          try clear hfz28_1
          try clear hfz32_0
          try clear hfz32_1
          try clear hfz35_0
          try clear hfz35_1
          try clear hfz37_0
          try clear hfz37_1
          try clear hfz39_0
          try clear hfz39_1
          try clear p2
          obtain ⟨Aa,rfl,HA,HK3,HO_6,HO_12,HO_18,Ar,Ad,Ag,Ae,Af,HB⟩:=hrel;cases gk with
          | zero=>exact absurd HA.out (by simp [Aab.l0])
          | succ k3 =>
           have H:=HA.out;clear HA;simp only [Aab.l0] at H
           by_cases c51 : Aa < (Ac.length : Int)
           ·rw [if_pos c51] at H;have c51b0 : decide (Aa < (Ac.length : Int)) = true:=decide_eq_true c51;clear c51;by_cases c52 : 0 ≤ Aa
            ·rw [if_pos c52] at H;have c52b0 : decide (0 ≤ Aa) = true:=decide_eq_true c52;clear c52;by_cases c53 : Aa < (Ac.length : Int)
             ·rw [if_pos c53] at H;have c53b0 : decide (Aa < (Ac.length : Int)) = true:=decide_eq_true c53;clear c53;by_cases c54 : Aa < (Aq.length : Int)
              ·rw [if_pos c54] at H;have c54b0 : decide (Aa < (Aq.length : Int)) = true:=decide_eq_true c54;clear c54;by_cases c55 : ((rd_T62 Aq Aa).f0) = (wrap64 ((wrap64 (Av - 1)) - ((rd_T62 Ac Aa).f1)))
               ·rw [if_pos c55] at H;have c55b0 : (((rd_T62 Aq Aa).f0) == (wrap64 ((wrap64 (Av - 1)) - ((rd_T62 Ac Aa).f1)))) = true:=beq_iff_eq.mpr c55;have c55b1 : (((rd_T62 Aq Aa).f0) != (wrap64 ((wrap64 (Av - 1)) - ((rd_T62 Ac Aa).f1)))) = false:=bne_eq_false_iff_eq.mpr c55;clear c55;by_cases c56 : ((rd_T62 Aq Aa).f1) = (wrap64 ((wrap64 (Av - 1)) - ((rd_T62 Ac Aa).f0)))
                ·rw [if_pos c56] at H;have c56b0 : (((rd_T62 Aq Aa).f1) == (wrap64 ((wrap64 (Av - 1)) - ((rd_T62 Ac Aa).f0)))) = true:=beq_iff_eq.mpr c56;have c56b1 : (((rd_T62 Aq Aa).f1) != (wrap64 ((wrap64 (Av - 1)) - ((rd_T62 Ac Aa).f0)))) = false:=bne_eq_false_iff_eq.mpr c56;clear c56;by_cases c57 : Aa < (Be.length : Int)
                 ·rw [if_pos c57] at H;have c57b0 : decide (Aa < (Be.length : Int)) = true:=decide_eq_true c57;clear c57;by_cases c58 : (rd Be Aa) = ((rd_T62 Ac Aa).f0)
                  ·rw [if_pos c58] at H;have c58b0 : ((rd Be Aa) == ((rd_T62 Ac Aa).f0)) = true:=beq_iff_eq.mpr c58;have c58b1 : ((rd Be Aa) != ((rd_T62 Ac Aa).f0)) = false:=bne_eq_false_iff_eq.mpr c58;clear c58;have H':=A_ H;clear H;have Ci : 0 ≤ (Aa : Int):=of_decide_eq_true (by first|(with_reducible assumption)|assumption);have Cj : Aa < (Ac.length : Int):=of_decide_eq_true (by first|(with_reducible assumption)|assumption);obtain ⟨Da,C3,C6,C7⟩:=at_T62 (Kd.R_reads' Ar.out).2.2 Aa Ci Cj;cases C3
                   replace Ci:=eq_true Ci;replace Cj:=eq_true Cj;go_wp2_with (first|((with_reducible refine gate_dst (N:=21) rfl ?_);(try (refine gate_guard (by rfl) ?_;dsimp only));refine box_event ?hg (N:=21) ?hd (cs:=#[.int .i64 0,.int .i64 0]) (t:=62) ?hr ?_;(case hd=>rfl);(case hg=>rfl);(case hr=>go_simp;try rfl);intro Ab hg w59 hbox hb;replace HO_6:=A_ (Kd.R_below (Kd.R_elderB (rl_ HO_6) Ab (Nat.le_of_eq hg.symm)) hb);replace HO_12:=A_ (Kd.R_below (Kd.R_elderB (rl_ HO_12) Ab (Nat.le_of_eq hg.symm)) hb);replace HO_18:=rb_ HO_18 hb;replace Ar:=A_ (Kd.R_below (Kd.R_elderB (rl_ Ar) Ab (Nat.le_of_eq hg.symm)) hb);replace Ad:=rb_ Ad hb;replace Ag:=rb_ Ag hb;have Aj:=A_ (hbox);have Ck:=A_ (gw_ (w:=w) hg bb_);have Cl:=A_ (gw_ (w:=w) hg bb_);replace HB:=A_ (below_step bb_ hb);have Bc:=A_ (nl_ hg Ae);have Bf:=A_ (ng_ hg Ae);replace Ae:=bz Ae hb;have Bd:=A_ (nl_ hg Af);have Bg:=A_ (ng_ hg Af);replace Af:=bz Af hb;clear hb hbox hg;have hnb60:=Bf.out;have hnc60:=Bc.out;have hnb61:=Bg.out;have hnc61:=Bd.out;have hcz62_0 : w59.cell? ⟨Ab,0,none⟩ = some (.int .i64 0):=blk_cell Aj.out 0;have hcz62_1 : w59.cell? ⟨Ab,1,none⟩ = some (.int .i64 0):=blk_cell Aj.out 1;have hfz62_0:=blk_frozen Aj.out 0;have hfz62_1:=blk_frozen Aj.out 1;obtain ⟨Ao63,co63,eo63⟩:=Kd.R_slice HO_12.out;subst eo63;have Bj : 0 ≤ (Aa : Int):=of_decide_eq_true (by first|(with_reducible assumption)|assumption);have Bk : Aa < (Aq.length : Int):=of_decide_eq_true (by first|(with_reducible assumption)|assumption);obtain ⟨Aw,B4,Am,An⟩:=at_T62 (Kd.R_reads' HO_12.out).2.2 Aa Bj Bk;cases B4;have Ah : Aw.block ≠ Ab:=(by first|exact Kd.own_blk (Kd.R_ne HO_12.out Aj.out (by decide))|exact (HO_12.out.1 _ rfl).2);have Ai : Aw.block ≠ Ab:=(by first|exact Kd.own_blk (Kd.R_ne HO_12.out Aj.out (by decide))|exact (HO_12.out.1 _ rfl).2);replace Am:=(cell_far (p:=⟨Ab,0,none⟩) (by first|(rw [add_block];exact Ah)|(show (Addr.add _ _).block ≠ _;rw [add_block];exact Ah)|exact Ah) (.int .i64 ((rd_T62 Ac Aa).f0))).trans Am;replace An:=(cell_far (p:=⟨Ab,0,none⟩) (by first|(rw [add_block];exact Ah)|(show (Addr.add _ _).block ≠ _;rw [add_block];exact Ah)|exact Ah) (.int .i64 ((rd_T62 Ac Aa).f0))).trans An;replace Am:=(cell_far (p:=⟨Ab,1,none⟩) (by first|(rw [add_block];exact Ai)|(show (Addr.add _ _).block ≠ _;rw [add_block];exact Ai)|exact Ai) (.int .i64 ((rd_T62 Ac Aa).f1))).trans Am;replace An:=(cell_far (p:=⟨Ab,1,none⟩) (by first|(rw [add_block];exact Ai)|(show (Addr.add _ _).block ≠ _;rw [add_block];exact Ai)|exact Ai) (.int .i64 ((rd_T62 Ac Aa).f1))).trans An;(try have Cb:=fun (n_ : Nat)=>(show ((((w59.drewN n_).setCell ⟨Ab,0,none⟩ (.int .i64 ((rd_T62 Ac Aa).f0))).setCell ⟨Ab,1,none⟩ (.int .i64 ((rd_T62 Ac Aa).f1)))).cell? _ = some _ from Am));(try have Cc:=fun (n_ : Nat)=>(show ((((w59.drewN n_).setCell ⟨Ab,0,none⟩ (.int .i64 ((rd_T62 Ac Aa).f0))).setCell ⟨Ab,1,none⟩ (.int .i64 ((rd_T62 Ac Aa).f1)))).cell? _ = some _ from An));clear Ah;clear Ai;replace Bj:=eq_true Bj;replace Bk:=eq_true Bk;have Bt : 0 ≤ (Aa : Int):=of_decide_eq_true (by first|(with_reducible assumption)|assumption);have Bu : Aa < (Aq.length : Int):=of_decide_eq_true (by first|(with_reducible assumption)|assumption);obtain ⟨B7,Cg,As,At⟩:=at_T62 (Kd.R_reads' HO_12.out).2.2 Aa Bt Bu;obtain rfl : Aw = B7:=(by injection Cg);have Ao : Aw.block ≠ Ab:=(by first|exact Kd.own_blk (Kd.R_ne HO_12.out Aj.out (by decide))|exact (HO_12.out.1 _ rfl).2);have Ap : Aw.block ≠ Ab:=(by first|exact Kd.own_blk (Kd.R_ne HO_12.out Aj.out (by decide))|exact (HO_12.out.1 _ rfl).2);replace As:=(cell_far (p:=⟨Ab,0,none⟩) (by first|(rw [add_block];exact Ao)|(show (Addr.add _ _).block ≠ _;rw [add_block];exact Ao)|exact Ao) (.int .i64 ((rd_T62 Ac Aa).f0))).trans As;replace At:=(cell_far (p:=⟨Ab,0,none⟩) (by first|(rw [add_block];exact Ao)|(show (Addr.add _ _).block ≠ _;rw [add_block];exact Ao)|exact Ao) (.int .i64 ((rd_T62 Ac Aa).f0))).trans At;replace As:=(cell_far (p:=⟨Ab,1,none⟩) (by first|(rw [add_block];exact Ap)|(show (Addr.add _ _).block ≠ _;rw [add_block];exact Ap)|exact Ap) (.int .i64 ((rd_T62 Ac Aa).f1))).trans As;replace At:=(cell_far (p:=⟨Ab,1,none⟩) (by first|(rw [add_block];exact Ap)|(show (Addr.add _ _).block ≠ _;rw [add_block];exact Ap)|exact Ap) (.int .i64 ((rd_T62 Ac Aa).f1))).trans At;(try have Cm:=fun (n_ : Nat)=>(show ((((w59.drewN n_).setCell ⟨Ab,0,none⟩ (.int .i64 ((rd_T62 Ac Aa).f0))).setCell ⟨Ab,1,none⟩ (.int .i64 ((rd_T62 Ac Aa).f1)))).cell? _ = some _ from As));(try have Cn:=fun (n_ : Nat)=>(show ((((w59.drewN n_).setCell ⟨Ab,0,none⟩ (.int .i64 ((rd_T62 Ac Aa).f0))).setCell ⟨Ab,1,none⟩ (.int .i64 ((rd_T62 Ac Aa).f1)))).cell? _ = some _ from At));clear Ao;clear Ap;replace Bt:=eq_true Bt;replace Bu:=eq_true Bu;obtain ⟨Ao64,co64,eo64⟩:=Kd.R_slice HO_18.out;subst eo64;have B5 : 0 ≤ (Aa : Int):=of_decide_eq_true (by first|(with_reducible assumption)|assumption);have B6 : Aa < (Be.length : Int):=of_decide_eq_true (by first|(with_reducible assumption)|assumption);obtain ⟨B8,Cs,Bb⟩:=Kd.at_int (Kd.R_reads' HO_18.out).2.2 Aa B5 B6;cases Cs;have Bl : B8.block ≠ Ab:=(by first|exact Kd.own_blk (Kd.R_ne HO_18.out Aj.out (by decide))|exact (HO_18.out.1 _ rfl).2);have Bm : B8.block ≠ Ab:=(by first|exact Kd.own_blk (Kd.R_ne HO_18.out Aj.out (by decide))|exact (HO_18.out.1 _ rfl).2);replace Bb:=(cell_far (p:=⟨Ab,0,none⟩) (by first|(rw [add_block];exact Bl)|(show (Addr.add _ _).block ≠ _;rw [add_block];exact Bl)|exact Bl) (.int .i64 ((rd_T62 Ac Aa).f0))).trans Bb;replace Bb:=(cell_far (p:=⟨Ab,1,none⟩) (by first|(rw [add_block];exact Bm)|(show (Addr.add _ _).block ≠ _;rw [add_block];exact Bm)|exact Bm) (.int .i64 ((rd_T62 Ac Aa).f1))).trans Bb;(try have Cy:=fun (n_ : Nat)=>(show ((((w59.drewN n_).setCell ⟨Ab,0,none⟩ (.int .i64 ((rd_T62 Ac Aa).f0))).setCell ⟨Ab,1,none⟩ (.int .i64 ((rd_T62 Ac Aa).f1)))).cell? _ = some _ from Bb));clear Bl;clear Bm;replace B5:=eq_true B5;replace B6:=eq_true B6))
                   repeat (go_quiet (first|((with_reducible refine gate_dst (N:=21) rfl ?_);(try (refine gate_guard (by rfl) ?_;dsimp only));refine box_event ?hg (N:=21) ?hd (cs:=#[.int .i64 0,.int .i64 0]) (t:=62) ?hr ?_;(case hd=>rfl);(case hg=>rfl);(case hr=>go_simp;try rfl);intro Ab hg w59 hbox hb;replace HO_6:=A_ (Kd.R_below (Kd.R_elderB (rl_ HO_6) Ab (Nat.le_of_eq hg.symm)) hb);replace HO_12:=A_ (Kd.R_below (Kd.R_elderB (rl_ HO_12) Ab (Nat.le_of_eq hg.symm)) hb);replace HO_18:=rb_ HO_18 hb;replace Ar:=A_ (Kd.R_below (Kd.R_elderB (rl_ Ar) Ab (Nat.le_of_eq hg.symm)) hb);replace Ad:=rb_ Ad hb;replace Ag:=rb_ Ag hb;have Aj:=A_ (hbox);have Ck:=A_ (gw_ (w:=w) hg bb_);have Cl:=A_ (gw_ (w:=w) hg bb_);replace HB:=A_ (below_step bb_ hb);have Bc:=A_ (nl_ hg Ae);have Bf:=A_ (ng_ hg Ae);replace Ae:=bz Ae hb;have Bd:=A_ (nl_ hg Af);have Bg:=A_ (ng_ hg Af);replace Af:=bz Af hb;clear hb hbox hg;have hnb60:=Bf.out;have hnc60:=Bc.out;have hnb61:=Bg.out;have hnc61:=Bd.out;have hcz62_0 : w59.cell? ⟨Ab,0,none⟩ = some (.int .i64 0):=blk_cell Aj.out 0;have hcz62_1 : w59.cell? ⟨Ab,1,none⟩ = some (.int .i64 0):=blk_cell Aj.out 1;have hfz62_0:=blk_frozen Aj.out 0;have hfz62_1:=blk_frozen Aj.out 1;obtain ⟨Ao63,co63,eo63⟩:=Kd.R_slice HO_12.out;subst eo63;have Bj : 0 ≤ (Aa : Int):=of_decide_eq_true (by first|(with_reducible assumption)|assumption);have Bk : Aa < (Aq.length : Int):=of_decide_eq_true (by first|(with_reducible assumption)|assumption);obtain ⟨Aw,B4,Am,An⟩:=at_T62 (Kd.R_reads' HO_12.out).2.2 Aa Bj Bk;cases B4;have Ah : Aw.block ≠ Ab:=(by first|exact Kd.own_blk (Kd.R_ne HO_12.out Aj.out (by decide))|exact (HO_12.out.1 _ rfl).2);have Ai : Aw.block ≠ Ab:=(by first|exact Kd.own_blk (Kd.R_ne HO_12.out Aj.out (by decide))|exact (HO_12.out.1 _ rfl).2);replace Am:=(cell_far (p:=⟨Ab,0,none⟩) (by first|(rw [add_block];exact Ah)|(show (Addr.add _ _).block ≠ _;rw [add_block];exact Ah)|exact Ah) (.int .i64 ((rd_T62 Ac Aa).f0))).trans Am;replace An:=(cell_far (p:=⟨Ab,0,none⟩) (by first|(rw [add_block];exact Ah)|(show (Addr.add _ _).block ≠ _;rw [add_block];exact Ah)|exact Ah) (.int .i64 ((rd_T62 Ac Aa).f0))).trans An;replace Am:=(cell_far (p:=⟨Ab,1,none⟩) (by first|(rw [add_block];exact Ai)|(show (Addr.add _ _).block ≠ _;rw [add_block];exact Ai)|exact Ai) (.int .i64 ((rd_T62 Ac Aa).f1))).trans Am;replace An:=(cell_far (p:=⟨Ab,1,none⟩) (by first|(rw [add_block];exact Ai)|(show (Addr.add _ _).block ≠ _;rw [add_block];exact Ai)|exact Ai) (.int .i64 ((rd_T62 Ac Aa).f1))).trans An;(try have Cb:=fun (n_ : Nat)=>(show ((((w59.drewN n_).setCell ⟨Ab,0,none⟩ (.int .i64 ((rd_T62 Ac Aa).f0))).setCell ⟨Ab,1,none⟩ (.int .i64 ((rd_T62 Ac Aa).f1)))).cell? _ = some _ from Am));(try have Cc:=fun (n_ : Nat)=>(show ((((w59.drewN n_).setCell ⟨Ab,0,none⟩ (.int .i64 ((rd_T62 Ac Aa).f0))).setCell ⟨Ab,1,none⟩ (.int .i64 ((rd_T62 Ac Aa).f1)))).cell? _ = some _ from An));clear Ah;clear Ai;replace Bj:=eq_true Bj;replace Bk:=eq_true Bk;have Bt : 0 ≤ (Aa : Int):=of_decide_eq_true (by first|(with_reducible assumption)|assumption);have Bu : Aa < (Aq.length : Int):=of_decide_eq_true (by first|(with_reducible assumption)|assumption);obtain ⟨B7,Cg,As,At⟩:=at_T62 (Kd.R_reads' HO_12.out).2.2 Aa Bt Bu;obtain rfl : Aw = B7:=(by injection Cg);have Ao : Aw.block ≠ Ab:=(by first|exact Kd.own_blk (Kd.R_ne HO_12.out Aj.out (by decide))|exact (HO_12.out.1 _ rfl).2);have Ap : Aw.block ≠ Ab:=(by first|exact Kd.own_blk (Kd.R_ne HO_12.out Aj.out (by decide))|exact (HO_12.out.1 _ rfl).2);replace As:=(cell_far (p:=⟨Ab,0,none⟩) (by first|(rw [add_block];exact Ao)|(show (Addr.add _ _).block ≠ _;rw [add_block];exact Ao)|exact Ao) (.int .i64 ((rd_T62 Ac Aa).f0))).trans As;replace At:=(cell_far (p:=⟨Ab,0,none⟩) (by first|(rw [add_block];exact Ao)|(show (Addr.add _ _).block ≠ _;rw [add_block];exact Ao)|exact Ao) (.int .i64 ((rd_T62 Ac Aa).f0))).trans At;replace As:=(cell_far (p:=⟨Ab,1,none⟩) (by first|(rw [add_block];exact Ap)|(show (Addr.add _ _).block ≠ _;rw [add_block];exact Ap)|exact Ap) (.int .i64 ((rd_T62 Ac Aa).f1))).trans As;replace At:=(cell_far (p:=⟨Ab,1,none⟩) (by first|(rw [add_block];exact Ap)|(show (Addr.add _ _).block ≠ _;rw [add_block];exact Ap)|exact Ap) (.int .i64 ((rd_T62 Ac Aa).f1))).trans At;(try have Cm:=fun (n_ : Nat)=>(show ((((w59.drewN n_).setCell ⟨Ab,0,none⟩ (.int .i64 ((rd_T62 Ac Aa).f0))).setCell ⟨Ab,1,none⟩ (.int .i64 ((rd_T62 Ac Aa).f1)))).cell? _ = some _ from As));(try have Cn:=fun (n_ : Nat)=>(show ((((w59.drewN n_).setCell ⟨Ab,0,none⟩ (.int .i64 ((rd_T62 Ac Aa).f0))).setCell ⟨Ab,1,none⟩ (.int .i64 ((rd_T62 Ac Aa).f1)))).cell? _ = some _ from At));clear Ao;clear Ap;replace Bt:=eq_true Bt;replace Bu:=eq_true Bu;obtain ⟨Ao64,co64,eo64⟩:=Kd.R_slice HO_18.out;subst eo64;have B5 : 0 ≤ (Aa : Int):=of_decide_eq_true (by first|(with_reducible assumption)|assumption);have B6 : Aa < (Be.length : Int):=of_decide_eq_true (by first|(with_reducible assumption)|assumption);obtain ⟨B8,Cs,Bb⟩:=Kd.at_int (Kd.R_reads' HO_18.out).2.2 Aa B5 B6;cases Cs;have Bl : B8.block ≠ Ab:=(by first|exact Kd.own_blk (Kd.R_ne HO_18.out Aj.out (by decide))|exact (HO_18.out.1 _ rfl).2);have Bm : B8.block ≠ Ab:=(by first|exact Kd.own_blk (Kd.R_ne HO_18.out Aj.out (by decide))|exact (HO_18.out.1 _ rfl).2);replace Bb:=(cell_far (p:=⟨Ab,0,none⟩) (by first|(rw [add_block];exact Bl)|(show (Addr.add _ _).block ≠ _;rw [add_block];exact Bl)|exact Bl) (.int .i64 ((rd_T62 Ac Aa).f0))).trans Bb;replace Bb:=(cell_far (p:=⟨Ab,1,none⟩) (by first|(rw [add_block];exact Bm)|(show (Addr.add _ _).block ≠ _;rw [add_block];exact Bm)|exact Bm) (.int .i64 ((rd_T62 Ac Aa).f1))).trans Bb;(try have Cy:=fun (n_ : Nat)=>(show ((((w59.drewN n_).setCell ⟨Ab,0,none⟩ (.int .i64 ((rd_T62 Ac Aa).f0))).setCell ⟨Ab,1,none⟩ (.int .i64 ((rd_T62 Ac Aa).f1)))).cell? _ = some _ from Bb));clear Bl;clear Bm;replace B5:=eq_true B5;replace B6:=eq_true B6));try go_wp2_with (first|((with_reducible refine gate_dst (N:=21) rfl ?_);(try (refine gate_guard (by rfl) ?_;dsimp only));refine box_event ?hg (N:=21) ?hd (cs:=#[.int .i64 0,.int .i64 0]) (t:=62) ?hr ?_;(case hd=>rfl);(case hg=>rfl);(case hr=>go_simp;try rfl);intro Ab hg w59 hbox hb;replace HO_6:=A_ (Kd.R_below (Kd.R_elderB (rl_ HO_6) Ab (Nat.le_of_eq hg.symm)) hb);replace HO_12:=A_ (Kd.R_below (Kd.R_elderB (rl_ HO_12) Ab (Nat.le_of_eq hg.symm)) hb);replace HO_18:=rb_ HO_18 hb;replace Ar:=A_ (Kd.R_below (Kd.R_elderB (rl_ Ar) Ab (Nat.le_of_eq hg.symm)) hb);replace Ad:=rb_ Ad hb;replace Ag:=rb_ Ag hb;have Aj:=A_ (hbox);have Ck:=A_ (gw_ (w:=w) hg bb_);have Cl:=A_ (gw_ (w:=w) hg bb_);replace HB:=A_ (below_step bb_ hb);have Bc:=A_ (nl_ hg Ae);have Bf:=A_ (ng_ hg Ae);replace Ae:=bz Ae hb;have Bd:=A_ (nl_ hg Af);have Bg:=A_ (ng_ hg Af);replace Af:=bz Af hb;clear hb hbox hg;have hnb60:=Bf.out;have hnc60:=Bc.out;have hnb61:=Bg.out;have hnc61:=Bd.out;have hcz62_0 : w59.cell? ⟨Ab,0,none⟩ = some (.int .i64 0):=blk_cell Aj.out 0;have hcz62_1 : w59.cell? ⟨Ab,1,none⟩ = some (.int .i64 0):=blk_cell Aj.out 1;have hfz62_0:=blk_frozen Aj.out 0;have hfz62_1:=blk_frozen Aj.out 1;obtain ⟨Ao63,co63,eo63⟩:=Kd.R_slice HO_12.out;subst eo63;have Bj : 0 ≤ (Aa : Int):=of_decide_eq_true (by first|(with_reducible assumption)|assumption);have Bk : Aa < (Aq.length : Int):=of_decide_eq_true (by first|(with_reducible assumption)|assumption);obtain ⟨Aw,B4,Am,An⟩:=at_T62 (Kd.R_reads' HO_12.out).2.2 Aa Bj Bk;cases B4;have Ah : Aw.block ≠ Ab:=(by first|exact Kd.own_blk (Kd.R_ne HO_12.out Aj.out (by decide))|exact (HO_12.out.1 _ rfl).2);have Ai : Aw.block ≠ Ab:=(by first|exact Kd.own_blk (Kd.R_ne HO_12.out Aj.out (by decide))|exact (HO_12.out.1 _ rfl).2);replace Am:=(cell_far (p:=⟨Ab,0,none⟩) (by first|(rw [add_block];exact Ah)|(show (Addr.add _ _).block ≠ _;rw [add_block];exact Ah)|exact Ah) (.int .i64 ((rd_T62 Ac Aa).f0))).trans Am;replace An:=(cell_far (p:=⟨Ab,0,none⟩) (by first|(rw [add_block];exact Ah)|(show (Addr.add _ _).block ≠ _;rw [add_block];exact Ah)|exact Ah) (.int .i64 ((rd_T62 Ac Aa).f0))).trans An;replace Am:=(cell_far (p:=⟨Ab,1,none⟩) (by first|(rw [add_block];exact Ai)|(show (Addr.add _ _).block ≠ _;rw [add_block];exact Ai)|exact Ai) (.int .i64 ((rd_T62 Ac Aa).f1))).trans Am;replace An:=(cell_far (p:=⟨Ab,1,none⟩) (by first|(rw [add_block];exact Ai)|(show (Addr.add _ _).block ≠ _;rw [add_block];exact Ai)|exact Ai) (.int .i64 ((rd_T62 Ac Aa).f1))).trans An;(try have Cb:=fun (n_ : Nat)=>(show ((((w59.drewN n_).setCell ⟨Ab,0,none⟩ (.int .i64 ((rd_T62 Ac Aa).f0))).setCell ⟨Ab,1,none⟩ (.int .i64 ((rd_T62 Ac Aa).f1)))).cell? _ = some _ from Am));(try have Cc:=fun (n_ : Nat)=>(show ((((w59.drewN n_).setCell ⟨Ab,0,none⟩ (.int .i64 ((rd_T62 Ac Aa).f0))).setCell ⟨Ab,1,none⟩ (.int .i64 ((rd_T62 Ac Aa).f1)))).cell? _ = some _ from An));clear Ah;clear Ai;replace Bj:=eq_true Bj;replace Bk:=eq_true Bk;have Bt : 0 ≤ (Aa : Int):=of_decide_eq_true (by first|(with_reducible assumption)|assumption);have Bu : Aa < (Aq.length : Int):=of_decide_eq_true (by first|(with_reducible assumption)|assumption);obtain ⟨B7,Cg,As,At⟩:=at_T62 (Kd.R_reads' HO_12.out).2.2 Aa Bt Bu;obtain rfl : Aw = B7:=(by injection Cg);have Ao : Aw.block ≠ Ab:=(by first|exact Kd.own_blk (Kd.R_ne HO_12.out Aj.out (by decide))|exact (HO_12.out.1 _ rfl).2);have Ap : Aw.block ≠ Ab:=(by first|exact Kd.own_blk (Kd.R_ne HO_12.out Aj.out (by decide))|exact (HO_12.out.1 _ rfl).2);replace As:=(cell_far (p:=⟨Ab,0,none⟩) (by first|(rw [add_block];exact Ao)|(show (Addr.add _ _).block ≠ _;rw [add_block];exact Ao)|exact Ao) (.int .i64 ((rd_T62 Ac Aa).f0))).trans As;replace At:=(cell_far (p:=⟨Ab,0,none⟩) (by first|(rw [add_block];exact Ao)|(show (Addr.add _ _).block ≠ _;rw [add_block];exact Ao)|exact Ao) (.int .i64 ((rd_T62 Ac Aa).f0))).trans At;replace As:=(cell_far (p:=⟨Ab,1,none⟩) (by first|(rw [add_block];exact Ap)|(show (Addr.add _ _).block ≠ _;rw [add_block];exact Ap)|exact Ap) (.int .i64 ((rd_T62 Ac Aa).f1))).trans As;replace At:=(cell_far (p:=⟨Ab,1,none⟩) (by first|(rw [add_block];exact Ap)|(show (Addr.add _ _).block ≠ _;rw [add_block];exact Ap)|exact Ap) (.int .i64 ((rd_T62 Ac Aa).f1))).trans At;(try have Cm:=fun (n_ : Nat)=>(show ((((w59.drewN n_).setCell ⟨Ab,0,none⟩ (.int .i64 ((rd_T62 Ac Aa).f0))).setCell ⟨Ab,1,none⟩ (.int .i64 ((rd_T62 Ac Aa).f1)))).cell? _ = some _ from As));(try have Cn:=fun (n_ : Nat)=>(show ((((w59.drewN n_).setCell ⟨Ab,0,none⟩ (.int .i64 ((rd_T62 Ac Aa).f0))).setCell ⟨Ab,1,none⟩ (.int .i64 ((rd_T62 Ac Aa).f1)))).cell? _ = some _ from At));clear Ao;clear Ap;replace Bt:=eq_true Bt;replace Bu:=eq_true Bu;obtain ⟨Ao64,co64,eo64⟩:=Kd.R_slice HO_18.out;subst eo64;have B5 : 0 ≤ (Aa : Int):=of_decide_eq_true (by first|(with_reducible assumption)|assumption);have B6 : Aa < (Be.length : Int):=of_decide_eq_true (by first|(with_reducible assumption)|assumption);obtain ⟨B8,Cs,Bb⟩:=Kd.at_int (Kd.R_reads' HO_18.out).2.2 Aa B5 B6;cases Cs;have Bl : B8.block ≠ Ab:=(by first|exact Kd.own_blk (Kd.R_ne HO_18.out Aj.out (by decide))|exact (HO_18.out.1 _ rfl).2);have Bm : B8.block ≠ Ab:=(by first|exact Kd.own_blk (Kd.R_ne HO_18.out Aj.out (by decide))|exact (HO_18.out.1 _ rfl).2);replace Bb:=(cell_far (p:=⟨Ab,0,none⟩) (by first|(rw [add_block];exact Bl)|(show (Addr.add _ _).block ≠ _;rw [add_block];exact Bl)|exact Bl) (.int .i64 ((rd_T62 Ac Aa).f0))).trans Bb;replace Bb:=(cell_far (p:=⟨Ab,1,none⟩) (by first|(rw [add_block];exact Bm)|(show (Addr.add _ _).block ≠ _;rw [add_block];exact Bm)|exact Bm) (.int .i64 ((rd_T62 Ac Aa).f1))).trans Bb;(try have Cy:=fun (n_ : Nat)=>(show ((((w59.drewN n_).setCell ⟨Ab,0,none⟩ (.int .i64 ((rd_T62 Ac Aa).f0))).setCell ⟨Ab,1,none⟩ (.int .i64 ((rd_T62 Ac Aa).f1)))).cell? _ = some _ from Bb));clear Bl;clear Bm;replace B5:=eq_true B5;replace B6:=eq_true B6)))
                   go_roundg k3
                   case measure=>have:=HJ7.out;have:=HJ26.out;have:=HK3.out;omega
                   case rel=>exact ⟨(wrap64 (Aa + 1)),(by first|rfl|(simp;done)|(simp [*];done)),H',⟨by have:=HJ7.out;have:=HJ26.out;have:=HK3.out;omega⟩,⟨rq_ (Kd.R_mono (Kd.R_far (p:=⟨Ab,1,none⟩) (Kd.R_far (p:=⟨Ab,0,none⟩) (Kd.R_mono HO_6.out (fun k_ hk=>(⟨hk,hk.2⟩ : _ ∧ k_ ≠ Ab))) (fun _ hk=>hk.2) (.int .i64 ((rd_T62 Ac Aa).f0))) (fun _ hk=>hk.2) (.int .i64 ((rd_T62 Ac Aa).f1))) (fun _ hk=>hk.1.1))⟩,⟨rq_ (Kd.R_mono (Kd.R_far (p:=⟨Ab,1,none⟩) (Kd.R_far (p:=⟨Ab,0,none⟩) (Kd.R_mono HO_12.out (fun k_ hk=>(⟨hk,hk.2⟩ : _ ∧ k_ ≠ Ab))) (fun _ hk=>hk.2) (.int .i64 ((rd_T62 Ac Aa).f0))) (fun _ hk=>hk.2) (.int .i64 ((rd_T62 Ac Aa).f1))) (fun _ hk=>⟨hk.1.1.1,hk.1.1.2⟩))⟩,⟨rq_ (Kd.R_mono (Kd.R_far (p:=⟨Ab,1,none⟩) (Kd.R_far (p:=⟨Ab,0,none⟩) (Kd.R_types HO_18.out Aj.out (by decide)) (fun _ hk=>hk.2) (.int .i64 ((rd_T62 Ac Aa).f0))) (fun _ hk=>hk.2) (.int .i64 ((rd_T62 Ac Aa).f1))) (fun _ hk=>⟨hk.1.1,hk.1.2⟩))⟩,⟨rq_ (Kd.R_mono (Kd.R_far (p:=⟨Ab,1,none⟩) (Kd.R_far (p:=⟨Ab,0,none⟩) (Kd.R_mono Ar.out (fun k_ hk=>(⟨hk,hk.2⟩ : _ ∧ k_ ≠ Ab))) (fun _ hk=>hk.2) (.int .i64 ((rd_T62 Ac Aa).f0))) (fun _ hk=>hk.2) (.int .i64 ((rd_T62 Ac Aa).f1))) (fun _ hk=>hk.1.1))⟩,⟨rq_ (Kd.R_mono (Kd.R_far (p:=⟨Ab,1,none⟩) (Kd.R_far (p:=⟨Ab,0,none⟩) (Kd.R_types Ad.out Aj.out (by decide)) (fun _ hk=>hk.2) (.int .i64 ((rd_T62 Ac Aa).f0))) (fun _ hk=>hk.2) (.int .i64 ((rd_T62 Ac Aa).f1))) (fun _ hk=>⟨hk.1.1,hk.1.2⟩))⟩,⟨rq_ (Kd.R_mono (Kd.R_far (p:=⟨Ab,1,none⟩) (Kd.R_far (p:=⟨Ab,0,none⟩) (Kd.R_types Ag.out Aj.out (by decide)) (fun _ hk=>hk.2) (.int .i64 ((rd_T62 Ac Aa).f0))) (fun _ hk=>hk.2) (.int .i64 ((rd_T62 Ac Aa).f1))) (fun _ hk=>⟨hk.1.1,hk.1.2⟩))⟩,⟨by (with_reducible repeat (first|refine blk_drewN ?_ _|refine blk_drew ?_|refine blk_alloc ?_ _));refine blk_far ?_ Bc.out _;(with_reducible repeat (first|refine blk_drewN ?_ _|refine blk_drew ?_|refine blk_alloc ?_ _));refine blk_far ?_ Bc.out _;(with_reducible repeat (first|refine blk_drewN ?_ _|refine blk_drew ?_|refine blk_alloc ?_ _));exact Ae.out⟩,⟨by (with_reducible repeat (first|refine blk_drewN ?_ _|refine blk_drew ?_|refine blk_alloc ?_ _));refine blk_far ?_ Bd.out _;(with_reducible repeat (first|refine blk_drewN ?_ _|refine blk_drew ?_|refine blk_alloc ?_ _));refine blk_far ?_ Bd.out _;(with_reducible repeat (first|refine blk_drewN ?_ _|refine blk_drew ?_|refine blk_alloc ?_ _));exact Af.out⟩,⟨bb_⟩⟩
                  ·rw [if_neg c58] at H;have c58b0 : ((rd Be Aa) == ((rd_T62 Ac Aa).f0)) = false:=beq_eq_false_iff_ne.mpr c58;have c58b1 : ((rd Be Aa) != ((rd_T62 Ac Aa).f0)) = true:=bne_iff_ne.mpr c58;obtain rfl:=Option.some.inj H;have Ci : 0 ≤ (Aa : Int):=of_decide_eq_true (by first|(with_reducible assumption)|assumption);have Cj : Aa < (Ac.length : Int):=of_decide_eq_true (by first|(with_reducible assumption)|assumption);obtain ⟨Da,C3,C6,C7⟩:=at_T62 (Kd.R_reads' Ar.out).2.2 Aa Ci Cj;cases C3
                   replace Ci:=eq_true Ci;replace Cj:=eq_true Cj;go_wp2_with (first|((with_reducible refine gate_dst (N:=21) rfl ?_);(try (refine gate_guard (by rfl) ?_;dsimp only));refine box_event ?hg (N:=21) ?hd (cs:=#[.int .i64 0,.int .i64 0]) (t:=62) ?hr ?_;(case hd=>rfl);(case hg=>rfl);(case hr=>go_simp;try rfl);intro Ab hg w65 hbox hb;replace HO_6:=A_ (Kd.R_below (Kd.R_elderB (rl_ HO_6) Ab (Nat.le_of_eq hg.symm)) hb);replace HO_12:=A_ (Kd.R_below (Kd.R_elderB (rl_ HO_12) Ab (Nat.le_of_eq hg.symm)) hb);replace HO_18:=rb_ HO_18 hb;replace Ar:=A_ (Kd.R_below (Kd.R_elderB (rl_ Ar) Ab (Nat.le_of_eq hg.symm)) hb);replace Ad:=rb_ Ad hb;replace Ag:=rb_ Ag hb;have Aj:=A_ (hbox);have Ck:=A_ (gw_ (w:=w) hg bb_);have Cl:=A_ (gw_ (w:=w) hg bb_);replace HB:=A_ (below_step bb_ hb);have Bc:=A_ (nl_ hg Ae);have Bf:=A_ (ng_ hg Ae);replace Ae:=bz Ae hb;have Bd:=A_ (nl_ hg Af);have Bg:=A_ (ng_ hg Af);replace Af:=bz Af hb;clear hb hbox hg;have hnb66:=Bf.out;have hnc66:=Bc.out;have hnb67:=Bg.out;have hnc67:=Bd.out;have hcz68_0 : w65.cell? ⟨Ab,0,none⟩ = some (.int .i64 0):=blk_cell Aj.out 0;have hcz68_1 : w65.cell? ⟨Ab,1,none⟩ = some (.int .i64 0):=blk_cell Aj.out 1;have hfz68_0:=blk_frozen Aj.out 0;have hfz68_1:=blk_frozen Aj.out 1;obtain ⟨Ao69,co69,eo69⟩:=Kd.R_slice HO_12.out;subst eo69;have Bj : 0 ≤ (Aa : Int):=of_decide_eq_true (by first|(with_reducible assumption)|assumption);have Bk : Aa < (Aq.length : Int):=of_decide_eq_true (by first|(with_reducible assumption)|assumption);obtain ⟨Aw,B4,Am,An⟩:=at_T62 (Kd.R_reads' HO_12.out).2.2 Aa Bj Bk;cases B4;have Ah : Aw.block ≠ Ab:=(by first|exact Kd.own_blk (Kd.R_ne HO_12.out Aj.out (by decide))|exact (HO_12.out.1 _ rfl).2);have Ai : Aw.block ≠ Ab:=(by first|exact Kd.own_blk (Kd.R_ne HO_12.out Aj.out (by decide))|exact (HO_12.out.1 _ rfl).2);replace Am:=(cell_far (p:=⟨Ab,0,none⟩) (by first|(rw [add_block];exact Ah)|(show (Addr.add _ _).block ≠ _;rw [add_block];exact Ah)|exact Ah) (.int .i64 ((rd_T62 Ac Aa).f0))).trans Am;replace An:=(cell_far (p:=⟨Ab,0,none⟩) (by first|(rw [add_block];exact Ah)|(show (Addr.add _ _).block ≠ _;rw [add_block];exact Ah)|exact Ah) (.int .i64 ((rd_T62 Ac Aa).f0))).trans An;replace Am:=(cell_far (p:=⟨Ab,1,none⟩) (by first|(rw [add_block];exact Ai)|(show (Addr.add _ _).block ≠ _;rw [add_block];exact Ai)|exact Ai) (.int .i64 ((rd_T62 Ac Aa).f1))).trans Am;replace An:=(cell_far (p:=⟨Ab,1,none⟩) (by first|(rw [add_block];exact Ai)|(show (Addr.add _ _).block ≠ _;rw [add_block];exact Ai)|exact Ai) (.int .i64 ((rd_T62 Ac Aa).f1))).trans An;(try have Cb:=fun (n_ : Nat)=>(show ((((w65.drewN n_).setCell ⟨Ab,0,none⟩ (.int .i64 ((rd_T62 Ac Aa).f0))).setCell ⟨Ab,1,none⟩ (.int .i64 ((rd_T62 Ac Aa).f1)))).cell? _ = some _ from Am));(try have Cc:=fun (n_ : Nat)=>(show ((((w65.drewN n_).setCell ⟨Ab,0,none⟩ (.int .i64 ((rd_T62 Ac Aa).f0))).setCell ⟨Ab,1,none⟩ (.int .i64 ((rd_T62 Ac Aa).f1)))).cell? _ = some _ from An));clear Ah;clear Ai;replace Bj:=eq_true Bj;replace Bk:=eq_true Bk;have Bt : 0 ≤ (Aa : Int):=of_decide_eq_true (by first|(with_reducible assumption)|assumption);have Bu : Aa < (Aq.length : Int):=of_decide_eq_true (by first|(with_reducible assumption)|assumption);obtain ⟨B7,Cg,As,At⟩:=at_T62 (Kd.R_reads' HO_12.out).2.2 Aa Bt Bu;obtain rfl : Aw = B7:=(by injection Cg);have Ao : Aw.block ≠ Ab:=(by first|exact Kd.own_blk (Kd.R_ne HO_12.out Aj.out (by decide))|exact (HO_12.out.1 _ rfl).2);have Ap : Aw.block ≠ Ab:=(by first|exact Kd.own_blk (Kd.R_ne HO_12.out Aj.out (by decide))|exact (HO_12.out.1 _ rfl).2);replace As:=(cell_far (p:=⟨Ab,0,none⟩) (by first|(rw [add_block];exact Ao)|(show (Addr.add _ _).block ≠ _;rw [add_block];exact Ao)|exact Ao) (.int .i64 ((rd_T62 Ac Aa).f0))).trans As;replace At:=(cell_far (p:=⟨Ab,0,none⟩) (by first|(rw [add_block];exact Ao)|(show (Addr.add _ _).block ≠ _;rw [add_block];exact Ao)|exact Ao) (.int .i64 ((rd_T62 Ac Aa).f0))).trans At;replace As:=(cell_far (p:=⟨Ab,1,none⟩) (by first|(rw [add_block];exact Ap)|(show (Addr.add _ _).block ≠ _;rw [add_block];exact Ap)|exact Ap) (.int .i64 ((rd_T62 Ac Aa).f1))).trans As;replace At:=(cell_far (p:=⟨Ab,1,none⟩) (by first|(rw [add_block];exact Ap)|(show (Addr.add _ _).block ≠ _;rw [add_block];exact Ap)|exact Ap) (.int .i64 ((rd_T62 Ac Aa).f1))).trans At;(try have Cm:=fun (n_ : Nat)=>(show ((((w65.drewN n_).setCell ⟨Ab,0,none⟩ (.int .i64 ((rd_T62 Ac Aa).f0))).setCell ⟨Ab,1,none⟩ (.int .i64 ((rd_T62 Ac Aa).f1)))).cell? _ = some _ from As));(try have Cn:=fun (n_ : Nat)=>(show ((((w65.drewN n_).setCell ⟨Ab,0,none⟩ (.int .i64 ((rd_T62 Ac Aa).f0))).setCell ⟨Ab,1,none⟩ (.int .i64 ((rd_T62 Ac Aa).f1)))).cell? _ = some _ from At));clear Ao;clear Ap;replace Bt:=eq_true Bt;replace Bu:=eq_true Bu;obtain ⟨Ao70,co70,eo70⟩:=Kd.R_slice HO_18.out;subst eo70;have B5 : 0 ≤ (Aa : Int):=of_decide_eq_true (by first|(with_reducible assumption)|assumption);have B6 : Aa < (Be.length : Int):=of_decide_eq_true (by first|(with_reducible assumption)|assumption);obtain ⟨B8,Cs,Bb⟩:=Kd.at_int (Kd.R_reads' HO_18.out).2.2 Aa B5 B6;cases Cs;have Bl : B8.block ≠ Ab:=(by first|exact Kd.own_blk (Kd.R_ne HO_18.out Aj.out (by decide))|exact (HO_18.out.1 _ rfl).2);have Bm : B8.block ≠ Ab:=(by first|exact Kd.own_blk (Kd.R_ne HO_18.out Aj.out (by decide))|exact (HO_18.out.1 _ rfl).2);replace Bb:=(cell_far (p:=⟨Ab,0,none⟩) (by first|(rw [add_block];exact Bl)|(show (Addr.add _ _).block ≠ _;rw [add_block];exact Bl)|exact Bl) (.int .i64 ((rd_T62 Ac Aa).f0))).trans Bb;replace Bb:=(cell_far (p:=⟨Ab,1,none⟩) (by first|(rw [add_block];exact Bm)|(show (Addr.add _ _).block ≠ _;rw [add_block];exact Bm)|exact Bm) (.int .i64 ((rd_T62 Ac Aa).f1))).trans Bb;(try have Cy:=fun (n_ : Nat)=>(show ((((w65.drewN n_).setCell ⟨Ab,0,none⟩ (.int .i64 ((rd_T62 Ac Aa).f0))).setCell ⟨Ab,1,none⟩ (.int .i64 ((rd_T62 Ac Aa).f1)))).cell? _ = some _ from Bb));clear Bl;clear Bm;replace B5:=eq_true B5;replace B6:=eq_true B6))
                   repeat (go_quiet (first|((with_reducible refine gate_dst (N:=21) rfl ?_);(try (refine gate_guard (by rfl) ?_;dsimp only));refine box_event ?hg (N:=21) ?hd (cs:=#[.int .i64 0,.int .i64 0]) (t:=62) ?hr ?_;(case hd=>rfl);(case hg=>rfl);(case hr=>go_simp;try rfl);intro Ab hg w65 hbox hb;replace HO_6:=A_ (Kd.R_below (Kd.R_elderB (rl_ HO_6) Ab (Nat.le_of_eq hg.symm)) hb);replace HO_12:=A_ (Kd.R_below (Kd.R_elderB (rl_ HO_12) Ab (Nat.le_of_eq hg.symm)) hb);replace HO_18:=rb_ HO_18 hb;replace Ar:=A_ (Kd.R_below (Kd.R_elderB (rl_ Ar) Ab (Nat.le_of_eq hg.symm)) hb);replace Ad:=rb_ Ad hb;replace Ag:=rb_ Ag hb;have Aj:=A_ (hbox);have Ck:=A_ (gw_ (w:=w) hg bb_);have Cl:=A_ (gw_ (w:=w) hg bb_);replace HB:=A_ (below_step bb_ hb);have Bc:=A_ (nl_ hg Ae);have Bf:=A_ (ng_ hg Ae);replace Ae:=bz Ae hb;have Bd:=A_ (nl_ hg Af);have Bg:=A_ (ng_ hg Af);replace Af:=bz Af hb;clear hb hbox hg;have hnb66:=Bf.out;have hnc66:=Bc.out;have hnb67:=Bg.out;have hnc67:=Bd.out;have hcz68_0 : w65.cell? ⟨Ab,0,none⟩ = some (.int .i64 0):=blk_cell Aj.out 0;have hcz68_1 : w65.cell? ⟨Ab,1,none⟩ = some (.int .i64 0):=blk_cell Aj.out 1;have hfz68_0:=blk_frozen Aj.out 0;have hfz68_1:=blk_frozen Aj.out 1;obtain ⟨Ao69,co69,eo69⟩:=Kd.R_slice HO_12.out;subst eo69;have Bj : 0 ≤ (Aa : Int):=of_decide_eq_true (by first|(with_reducible assumption)|assumption);have Bk : Aa < (Aq.length : Int):=of_decide_eq_true (by first|(with_reducible assumption)|assumption);obtain ⟨Aw,B4,Am,An⟩:=at_T62 (Kd.R_reads' HO_12.out).2.2 Aa Bj Bk;cases B4;have Ah : Aw.block ≠ Ab:=(by first|exact Kd.own_blk (Kd.R_ne HO_12.out Aj.out (by decide))|exact (HO_12.out.1 _ rfl).2);have Ai : Aw.block ≠ Ab:=(by first|exact Kd.own_blk (Kd.R_ne HO_12.out Aj.out (by decide))|exact (HO_12.out.1 _ rfl).2);replace Am:=(cell_far (p:=⟨Ab,0,none⟩) (by first|(rw [add_block];exact Ah)|(show (Addr.add _ _).block ≠ _;rw [add_block];exact Ah)|exact Ah) (.int .i64 ((rd_T62 Ac Aa).f0))).trans Am;replace An:=(cell_far (p:=⟨Ab,0,none⟩) (by first|(rw [add_block];exact Ah)|(show (Addr.add _ _).block ≠ _;rw [add_block];exact Ah)|exact Ah) (.int .i64 ((rd_T62 Ac Aa).f0))).trans An;replace Am:=(cell_far (p:=⟨Ab,1,none⟩) (by first|(rw [add_block];exact Ai)|(show (Addr.add _ _).block ≠ _;rw [add_block];exact Ai)|exact Ai) (.int .i64 ((rd_T62 Ac Aa).f1))).trans Am;replace An:=(cell_far (p:=⟨Ab,1,none⟩) (by first|(rw [add_block];exact Ai)|(show (Addr.add _ _).block ≠ _;rw [add_block];exact Ai)|exact Ai) (.int .i64 ((rd_T62 Ac Aa).f1))).trans An;(try have Cb:=fun (n_ : Nat)=>(show ((((w65.drewN n_).setCell ⟨Ab,0,none⟩ (.int .i64 ((rd_T62 Ac Aa).f0))).setCell ⟨Ab,1,none⟩ (.int .i64 ((rd_T62 Ac Aa).f1)))).cell? _ = some _ from Am));(try have Cc:=fun (n_ : Nat)=>(show ((((w65.drewN n_).setCell ⟨Ab,0,none⟩ (.int .i64 ((rd_T62 Ac Aa).f0))).setCell ⟨Ab,1,none⟩ (.int .i64 ((rd_T62 Ac Aa).f1)))).cell? _ = some _ from An));clear Ah;clear Ai;replace Bj:=eq_true Bj;replace Bk:=eq_true Bk;have Bt : 0 ≤ (Aa : Int):=of_decide_eq_true (by first|(with_reducible assumption)|assumption);have Bu : Aa < (Aq.length : Int):=of_decide_eq_true (by first|(with_reducible assumption)|assumption);obtain ⟨B7,Cg,As,At⟩:=at_T62 (Kd.R_reads' HO_12.out).2.2 Aa Bt Bu;obtain rfl : Aw = B7:=(by injection Cg);have Ao : Aw.block ≠ Ab:=(by first|exact Kd.own_blk (Kd.R_ne HO_12.out Aj.out (by decide))|exact (HO_12.out.1 _ rfl).2);have Ap : Aw.block ≠ Ab:=(by first|exact Kd.own_blk (Kd.R_ne HO_12.out Aj.out (by decide))|exact (HO_12.out.1 _ rfl).2);replace As:=(cell_far (p:=⟨Ab,0,none⟩) (by first|(rw [add_block];exact Ao)|(show (Addr.add _ _).block ≠ _;rw [add_block];exact Ao)|exact Ao) (.int .i64 ((rd_T62 Ac Aa).f0))).trans As;replace At:=(cell_far (p:=⟨Ab,0,none⟩) (by first|(rw [add_block];exact Ao)|(show (Addr.add _ _).block ≠ _;rw [add_block];exact Ao)|exact Ao) (.int .i64 ((rd_T62 Ac Aa).f0))).trans At;replace As:=(cell_far (p:=⟨Ab,1,none⟩) (by first|(rw [add_block];exact Ap)|(show (Addr.add _ _).block ≠ _;rw [add_block];exact Ap)|exact Ap) (.int .i64 ((rd_T62 Ac Aa).f1))).trans As;replace At:=(cell_far (p:=⟨Ab,1,none⟩) (by first|(rw [add_block];exact Ap)|(show (Addr.add _ _).block ≠ _;rw [add_block];exact Ap)|exact Ap) (.int .i64 ((rd_T62 Ac Aa).f1))).trans At;(try have Cm:=fun (n_ : Nat)=>(show ((((w65.drewN n_).setCell ⟨Ab,0,none⟩ (.int .i64 ((rd_T62 Ac Aa).f0))).setCell ⟨Ab,1,none⟩ (.int .i64 ((rd_T62 Ac Aa).f1)))).cell? _ = some _ from As));(try have Cn:=fun (n_ : Nat)=>(show ((((w65.drewN n_).setCell ⟨Ab,0,none⟩ (.int .i64 ((rd_T62 Ac Aa).f0))).setCell ⟨Ab,1,none⟩ (.int .i64 ((rd_T62 Ac Aa).f1)))).cell? _ = some _ from At));clear Ao;clear Ap;replace Bt:=eq_true Bt;replace Bu:=eq_true Bu;obtain ⟨Ao70,co70,eo70⟩:=Kd.R_slice HO_18.out;subst eo70;have B5 : 0 ≤ (Aa : Int):=of_decide_eq_true (by first|(with_reducible assumption)|assumption);have B6 : Aa < (Be.length : Int):=of_decide_eq_true (by first|(with_reducible assumption)|assumption);obtain ⟨B8,Cs,Bb⟩:=Kd.at_int (Kd.R_reads' HO_18.out).2.2 Aa B5 B6;cases Cs;have Bl : B8.block ≠ Ab:=(by first|exact Kd.own_blk (Kd.R_ne HO_18.out Aj.out (by decide))|exact (HO_18.out.1 _ rfl).2);have Bm : B8.block ≠ Ab:=(by first|exact Kd.own_blk (Kd.R_ne HO_18.out Aj.out (by decide))|exact (HO_18.out.1 _ rfl).2);replace Bb:=(cell_far (p:=⟨Ab,0,none⟩) (by first|(rw [add_block];exact Bl)|(show (Addr.add _ _).block ≠ _;rw [add_block];exact Bl)|exact Bl) (.int .i64 ((rd_T62 Ac Aa).f0))).trans Bb;replace Bb:=(cell_far (p:=⟨Ab,1,none⟩) (by first|(rw [add_block];exact Bm)|(show (Addr.add _ _).block ≠ _;rw [add_block];exact Bm)|exact Bm) (.int .i64 ((rd_T62 Ac Aa).f1))).trans Bb;(try have Cy:=fun (n_ : Nat)=>(show ((((w65.drewN n_).setCell ⟨Ab,0,none⟩ (.int .i64 ((rd_T62 Ac Aa).f0))).setCell ⟨Ab,1,none⟩ (.int .i64 ((rd_T62 Ac Aa).f1)))).cell? _ = some _ from Bb));clear Bl;clear Bm;replace B5:=eq_true B5;replace B6:=eq_true B6));try go_wp2_with (first|((with_reducible refine gate_dst (N:=21) rfl ?_);(try (refine gate_guard (by rfl) ?_;dsimp only));refine box_event ?hg (N:=21) ?hd (cs:=#[.int .i64 0,.int .i64 0]) (t:=62) ?hr ?_;(case hd=>rfl);(case hg=>rfl);(case hr=>go_simp;try rfl);intro Ab hg w65 hbox hb;replace HO_6:=A_ (Kd.R_below (Kd.R_elderB (rl_ HO_6) Ab (Nat.le_of_eq hg.symm)) hb);replace HO_12:=A_ (Kd.R_below (Kd.R_elderB (rl_ HO_12) Ab (Nat.le_of_eq hg.symm)) hb);replace HO_18:=rb_ HO_18 hb;replace Ar:=A_ (Kd.R_below (Kd.R_elderB (rl_ Ar) Ab (Nat.le_of_eq hg.symm)) hb);replace Ad:=rb_ Ad hb;replace Ag:=rb_ Ag hb;have Aj:=A_ (hbox);have Ck:=A_ (gw_ (w:=w) hg bb_);have Cl:=A_ (gw_ (w:=w) hg bb_);replace HB:=A_ (below_step bb_ hb);have Bc:=A_ (nl_ hg Ae);have Bf:=A_ (ng_ hg Ae);replace Ae:=bz Ae hb;have Bd:=A_ (nl_ hg Af);have Bg:=A_ (ng_ hg Af);replace Af:=bz Af hb;clear hb hbox hg;have hnb66:=Bf.out;have hnc66:=Bc.out;have hnb67:=Bg.out;have hnc67:=Bd.out;have hcz68_0 : w65.cell? ⟨Ab,0,none⟩ = some (.int .i64 0):=blk_cell Aj.out 0;have hcz68_1 : w65.cell? ⟨Ab,1,none⟩ = some (.int .i64 0):=blk_cell Aj.out 1;have hfz68_0:=blk_frozen Aj.out 0;have hfz68_1:=blk_frozen Aj.out 1;obtain ⟨Ao69,co69,eo69⟩:=Kd.R_slice HO_12.out;subst eo69;have Bj : 0 ≤ (Aa : Int):=of_decide_eq_true (by first|(with_reducible assumption)|assumption);have Bk : Aa < (Aq.length : Int):=of_decide_eq_true (by first|(with_reducible assumption)|assumption);obtain ⟨Aw,B4,Am,An⟩:=at_T62 (Kd.R_reads' HO_12.out).2.2 Aa Bj Bk;cases B4;have Ah : Aw.block ≠ Ab:=(by first|exact Kd.own_blk (Kd.R_ne HO_12.out Aj.out (by decide))|exact (HO_12.out.1 _ rfl).2);have Ai : Aw.block ≠ Ab:=(by first|exact Kd.own_blk (Kd.R_ne HO_12.out Aj.out (by decide))|exact (HO_12.out.1 _ rfl).2);replace Am:=(cell_far (p:=⟨Ab,0,none⟩) (by first|(rw [add_block];exact Ah)|(show (Addr.add _ _).block ≠ _;rw [add_block];exact Ah)|exact Ah) (.int .i64 ((rd_T62 Ac Aa).f0))).trans Am;replace An:=(cell_far (p:=⟨Ab,0,none⟩) (by first|(rw [add_block];exact Ah)|(show (Addr.add _ _).block ≠ _;rw [add_block];exact Ah)|exact Ah) (.int .i64 ((rd_T62 Ac Aa).f0))).trans An;replace Am:=(cell_far (p:=⟨Ab,1,none⟩) (by first|(rw [add_block];exact Ai)|(show (Addr.add _ _).block ≠ _;rw [add_block];exact Ai)|exact Ai) (.int .i64 ((rd_T62 Ac Aa).f1))).trans Am;replace An:=(cell_far (p:=⟨Ab,1,none⟩) (by first|(rw [add_block];exact Ai)|(show (Addr.add _ _).block ≠ _;rw [add_block];exact Ai)|exact Ai) (.int .i64 ((rd_T62 Ac Aa).f1))).trans An;(try have Cb:=fun (n_ : Nat)=>(show ((((w65.drewN n_).setCell ⟨Ab,0,none⟩ (.int .i64 ((rd_T62 Ac Aa).f0))).setCell ⟨Ab,1,none⟩ (.int .i64 ((rd_T62 Ac Aa).f1)))).cell? _ = some _ from Am));(try have Cc:=fun (n_ : Nat)=>(show ((((w65.drewN n_).setCell ⟨Ab,0,none⟩ (.int .i64 ((rd_T62 Ac Aa).f0))).setCell ⟨Ab,1,none⟩ (.int .i64 ((rd_T62 Ac Aa).f1)))).cell? _ = some _ from An));clear Ah;clear Ai;replace Bj:=eq_true Bj;replace Bk:=eq_true Bk;have Bt : 0 ≤ (Aa : Int):=of_decide_eq_true (by first|(with_reducible assumption)|assumption);have Bu : Aa < (Aq.length : Int):=of_decide_eq_true (by first|(with_reducible assumption)|assumption);obtain ⟨B7,Cg,As,At⟩:=at_T62 (Kd.R_reads' HO_12.out).2.2 Aa Bt Bu;obtain rfl : Aw = B7:=(by injection Cg);have Ao : Aw.block ≠ Ab:=(by first|exact Kd.own_blk (Kd.R_ne HO_12.out Aj.out (by decide))|exact (HO_12.out.1 _ rfl).2);have Ap : Aw.block ≠ Ab:=(by first|exact Kd.own_blk (Kd.R_ne HO_12.out Aj.out (by decide))|exact (HO_12.out.1 _ rfl).2);replace As:=(cell_far (p:=⟨Ab,0,none⟩) (by first|(rw [add_block];exact Ao)|(show (Addr.add _ _).block ≠ _;rw [add_block];exact Ao)|exact Ao) (.int .i64 ((rd_T62 Ac Aa).f0))).trans As;replace At:=(cell_far (p:=⟨Ab,0,none⟩) (by first|(rw [add_block];exact Ao)|(show (Addr.add _ _).block ≠ _;rw [add_block];exact Ao)|exact Ao) (.int .i64 ((rd_T62 Ac Aa).f0))).trans At;replace As:=(cell_far (p:=⟨Ab,1,none⟩) (by first|(rw [add_block];exact Ap)|(show (Addr.add _ _).block ≠ _;rw [add_block];exact Ap)|exact Ap) (.int .i64 ((rd_T62 Ac Aa).f1))).trans As;replace At:=(cell_far (p:=⟨Ab,1,none⟩) (by first|(rw [add_block];exact Ap)|(show (Addr.add _ _).block ≠ _;rw [add_block];exact Ap)|exact Ap) (.int .i64 ((rd_T62 Ac Aa).f1))).trans At;(try have Cm:=fun (n_ : Nat)=>(show ((((w65.drewN n_).setCell ⟨Ab,0,none⟩ (.int .i64 ((rd_T62 Ac Aa).f0))).setCell ⟨Ab,1,none⟩ (.int .i64 ((rd_T62 Ac Aa).f1)))).cell? _ = some _ from As));(try have Cn:=fun (n_ : Nat)=>(show ((((w65.drewN n_).setCell ⟨Ab,0,none⟩ (.int .i64 ((rd_T62 Ac Aa).f0))).setCell ⟨Ab,1,none⟩ (.int .i64 ((rd_T62 Ac Aa).f1)))).cell? _ = some _ from At));clear Ao;clear Ap;replace Bt:=eq_true Bt;replace Bu:=eq_true Bu;obtain ⟨Ao70,co70,eo70⟩:=Kd.R_slice HO_18.out;subst eo70;have B5 : 0 ≤ (Aa : Int):=of_decide_eq_true (by first|(with_reducible assumption)|assumption);have B6 : Aa < (Be.length : Int):=of_decide_eq_true (by first|(with_reducible assumption)|assumption);obtain ⟨B8,Cs,Bb⟩:=Kd.at_int (Kd.R_reads' HO_18.out).2.2 Aa B5 B6;cases Cs;have Bl : B8.block ≠ Ab:=(by first|exact Kd.own_blk (Kd.R_ne HO_18.out Aj.out (by decide))|exact (HO_18.out.1 _ rfl).2);have Bm : B8.block ≠ Ab:=(by first|exact Kd.own_blk (Kd.R_ne HO_18.out Aj.out (by decide))|exact (HO_18.out.1 _ rfl).2);replace Bb:=(cell_far (p:=⟨Ab,0,none⟩) (by first|(rw [add_block];exact Bl)|(show (Addr.add _ _).block ≠ _;rw [add_block];exact Bl)|exact Bl) (.int .i64 ((rd_T62 Ac Aa).f0))).trans Bb;replace Bb:=(cell_far (p:=⟨Ab,1,none⟩) (by first|(rw [add_block];exact Bm)|(show (Addr.add _ _).block ≠ _;rw [add_block];exact Bm)|exact Bm) (.int .i64 ((rd_T62 Ac Aa).f1))).trans Bb;(try have Cy:=fun (n_ : Nat)=>(show ((((w65.drewN n_).setCell ⟨Ab,0,none⟩ (.int .i64 ((rd_T62 Ac Aa).f0))).setCell ⟨Ab,1,none⟩ (.int .i64 ((rd_T62 Ac Aa).f1)))).cell? _ = some _ from Bb));clear Bl;clear Bm;replace B5:=eq_true B5;replace B6:=eq_true B6)))
                   go_ret
                   exact ⟨by first|rfl|(simp [errW_none,errW_some] <;> rfl)|(simp [*,errW_none,errW_some] <;> rfl),bb_⟩
                 ·rw [if_neg c57] at H;exact absurd H (by simp)
                ·rw [if_neg c56] at H;have c56b0 : (((rd_T62 Aq Aa).f1) == (wrap64 ((wrap64 (Av - 1)) - ((rd_T62 Ac Aa).f0)))) = false:=beq_eq_false_iff_ne.mpr c56;have c56b1 : (((rd_T62 Aq Aa).f1) != (wrap64 ((wrap64 (Av - 1)) - ((rd_T62 Ac Aa).f0)))) = true:=bne_iff_ne.mpr c56;obtain rfl:=Option.some.inj H;have Ci : 0 ≤ (Aa : Int):=of_decide_eq_true (by first|(with_reducible assumption)|assumption);have Cj : Aa < (Ac.length : Int):=of_decide_eq_true (by first|(with_reducible assumption)|assumption);obtain ⟨Da,C3,C6,C7⟩:=at_T62 (Kd.R_reads' Ar.out).2.2 Aa Ci Cj;cases C3
                 replace Ci:=eq_true Ci;replace Cj:=eq_true Cj;go_wp2_with (first|((with_reducible refine gate_dst (N:=21) rfl ?_);(try (refine gate_guard (by rfl) ?_;dsimp only));refine box_event ?hg (N:=21) ?hd (cs:=#[.int .i64 0,.int .i64 0]) (t:=62) ?hr ?_;(case hd=>rfl);(case hg=>rfl);(case hr=>go_simp;try rfl);intro Ab hg w71 hbox hb;replace HO_6:=A_ (Kd.R_below (Kd.R_elderB (rl_ HO_6) Ab (Nat.le_of_eq hg.symm)) hb);replace HO_12:=A_ (Kd.R_below (Kd.R_elderB (rl_ HO_12) Ab (Nat.le_of_eq hg.symm)) hb);replace HO_18:=rb_ HO_18 hb;replace Ar:=A_ (Kd.R_below (Kd.R_elderB (rl_ Ar) Ab (Nat.le_of_eq hg.symm)) hb);replace Ad:=rb_ Ad hb;replace Ag:=rb_ Ag hb;have Aj:=A_ (hbox);have Ck:=A_ (gw_ (w:=w) hg bb_);have Cl:=A_ (gw_ (w:=w) hg bb_);replace HB:=A_ (below_step bb_ hb);have Bc:=A_ (nl_ hg Ae);have Bf:=A_ (ng_ hg Ae);replace Ae:=bz Ae hb;have Bd:=A_ (nl_ hg Af);have Bg:=A_ (ng_ hg Af);replace Af:=bz Af hb;clear hb hbox hg;have hnb72:=Bf.out;have hnc72:=Bc.out;have hnb73:=Bg.out;have hnc73:=Bd.out;have hcz74_0 : w71.cell? ⟨Ab,0,none⟩ = some (.int .i64 0):=blk_cell Aj.out 0;have hcz74_1 : w71.cell? ⟨Ab,1,none⟩ = some (.int .i64 0):=blk_cell Aj.out 1;have hfz74_0:=blk_frozen Aj.out 0;have hfz74_1:=blk_frozen Aj.out 1;obtain ⟨Ao75,co75,eo75⟩:=Kd.R_slice HO_12.out;subst eo75;have Bj : 0 ≤ (Aa : Int):=of_decide_eq_true (by first|(with_reducible assumption)|assumption);have Bk : Aa < (Aq.length : Int):=of_decide_eq_true (by first|(with_reducible assumption)|assumption);obtain ⟨Aw,B4,Am,An⟩:=at_T62 (Kd.R_reads' HO_12.out).2.2 Aa Bj Bk;cases B4;have Ah : Aw.block ≠ Ab:=(by first|exact Kd.own_blk (Kd.R_ne HO_12.out Aj.out (by decide))|exact (HO_12.out.1 _ rfl).2);have Ai : Aw.block ≠ Ab:=(by first|exact Kd.own_blk (Kd.R_ne HO_12.out Aj.out (by decide))|exact (HO_12.out.1 _ rfl).2);replace Am:=(cell_far (p:=⟨Ab,0,none⟩) (by first|(rw [add_block];exact Ah)|(show (Addr.add _ _).block ≠ _;rw [add_block];exact Ah)|exact Ah) (.int .i64 ((rd_T62 Ac Aa).f0))).trans Am;replace An:=(cell_far (p:=⟨Ab,0,none⟩) (by first|(rw [add_block];exact Ah)|(show (Addr.add _ _).block ≠ _;rw [add_block];exact Ah)|exact Ah) (.int .i64 ((rd_T62 Ac Aa).f0))).trans An;replace Am:=(cell_far (p:=⟨Ab,1,none⟩) (by first|(rw [add_block];exact Ai)|(show (Addr.add _ _).block ≠ _;rw [add_block];exact Ai)|exact Ai) (.int .i64 ((rd_T62 Ac Aa).f1))).trans Am;replace An:=(cell_far (p:=⟨Ab,1,none⟩) (by first|(rw [add_block];exact Ai)|(show (Addr.add _ _).block ≠ _;rw [add_block];exact Ai)|exact Ai) (.int .i64 ((rd_T62 Ac Aa).f1))).trans An;(try have Cb:=fun (n_ : Nat)=>(show ((((w71.drewN n_).setCell ⟨Ab,0,none⟩ (.int .i64 ((rd_T62 Ac Aa).f0))).setCell ⟨Ab,1,none⟩ (.int .i64 ((rd_T62 Ac Aa).f1)))).cell? _ = some _ from Am));(try have Cc:=fun (n_ : Nat)=>(show ((((w71.drewN n_).setCell ⟨Ab,0,none⟩ (.int .i64 ((rd_T62 Ac Aa).f0))).setCell ⟨Ab,1,none⟩ (.int .i64 ((rd_T62 Ac Aa).f1)))).cell? _ = some _ from An));clear Ah;clear Ai;replace Bj:=eq_true Bj;replace Bk:=eq_true Bk;have Bt : 0 ≤ (Aa : Int):=of_decide_eq_true (by first|(with_reducible assumption)|assumption);have Bu : Aa < (Aq.length : Int):=of_decide_eq_true (by first|(with_reducible assumption)|assumption);obtain ⟨B7,Cg,As,At⟩:=at_T62 (Kd.R_reads' HO_12.out).2.2 Aa Bt Bu;obtain rfl : Aw = B7:=(by injection Cg);have Ao : Aw.block ≠ Ab:=(by first|exact Kd.own_blk (Kd.R_ne HO_12.out Aj.out (by decide))|exact (HO_12.out.1 _ rfl).2);have Ap : Aw.block ≠ Ab:=(by first|exact Kd.own_blk (Kd.R_ne HO_12.out Aj.out (by decide))|exact (HO_12.out.1 _ rfl).2);replace As:=(cell_far (p:=⟨Ab,0,none⟩) (by first|(rw [add_block];exact Ao)|(show (Addr.add _ _).block ≠ _;rw [add_block];exact Ao)|exact Ao) (.int .i64 ((rd_T62 Ac Aa).f0))).trans As;replace At:=(cell_far (p:=⟨Ab,0,none⟩) (by first|(rw [add_block];exact Ao)|(show (Addr.add _ _).block ≠ _;rw [add_block];exact Ao)|exact Ao) (.int .i64 ((rd_T62 Ac Aa).f0))).trans At;replace As:=(cell_far (p:=⟨Ab,1,none⟩) (by first|(rw [add_block];exact Ap)|(show (Addr.add _ _).block ≠ _;rw [add_block];exact Ap)|exact Ap) (.int .i64 ((rd_T62 Ac Aa).f1))).trans As;replace At:=(cell_far (p:=⟨Ab,1,none⟩) (by first|(rw [add_block];exact Ap)|(show (Addr.add _ _).block ≠ _;rw [add_block];exact Ap)|exact Ap) (.int .i64 ((rd_T62 Ac Aa).f1))).trans At;(try have Cm:=fun (n_ : Nat)=>(show ((((w71.drewN n_).setCell ⟨Ab,0,none⟩ (.int .i64 ((rd_T62 Ac Aa).f0))).setCell ⟨Ab,1,none⟩ (.int .i64 ((rd_T62 Ac Aa).f1)))).cell? _ = some _ from As));(try have Cn:=fun (n_ : Nat)=>(show ((((w71.drewN n_).setCell ⟨Ab,0,none⟩ (.int .i64 ((rd_T62 Ac Aa).f0))).setCell ⟨Ab,1,none⟩ (.int .i64 ((rd_T62 Ac Aa).f1)))).cell? _ = some _ from At));clear Ao;clear Ap;replace Bt:=eq_true Bt;replace Bu:=eq_true Bu))
                 repeat (go_quiet (first|((with_reducible refine gate_dst (N:=21) rfl ?_);(try (refine gate_guard (by rfl) ?_;dsimp only));refine box_event ?hg (N:=21) ?hd (cs:=#[.int .i64 0,.int .i64 0]) (t:=62) ?hr ?_;(case hd=>rfl);(case hg=>rfl);(case hr=>go_simp;try rfl);intro Ab hg w71 hbox hb;replace HO_6:=A_ (Kd.R_below (Kd.R_elderB (rl_ HO_6) Ab (Nat.le_of_eq hg.symm)) hb);replace HO_12:=A_ (Kd.R_below (Kd.R_elderB (rl_ HO_12) Ab (Nat.le_of_eq hg.symm)) hb);replace HO_18:=rb_ HO_18 hb;replace Ar:=A_ (Kd.R_below (Kd.R_elderB (rl_ Ar) Ab (Nat.le_of_eq hg.symm)) hb);replace Ad:=rb_ Ad hb;replace Ag:=rb_ Ag hb;have Aj:=A_ (hbox);have Ck:=A_ (gw_ (w:=w) hg bb_);have Cl:=A_ (gw_ (w:=w) hg bb_);replace HB:=A_ (below_step bb_ hb);have Bc:=A_ (nl_ hg Ae);have Bf:=A_ (ng_ hg Ae);replace Ae:=bz Ae hb;have Bd:=A_ (nl_ hg Af);have Bg:=A_ (ng_ hg Af);replace Af:=bz Af hb;clear hb hbox hg;have hnb72:=Bf.out;have hnc72:=Bc.out;have hnb73:=Bg.out;have hnc73:=Bd.out;have hcz74_0 : w71.cell? ⟨Ab,0,none⟩ = some (.int .i64 0):=blk_cell Aj.out 0;have hcz74_1 : w71.cell? ⟨Ab,1,none⟩ = some (.int .i64 0):=blk_cell Aj.out 1;have hfz74_0:=blk_frozen Aj.out 0;have hfz74_1:=blk_frozen Aj.out 1;obtain ⟨Ao75,co75,eo75⟩:=Kd.R_slice HO_12.out;subst eo75;have Bj : 0 ≤ (Aa : Int):=of_decide_eq_true (by first|(with_reducible assumption)|assumption);have Bk : Aa < (Aq.length : Int):=of_decide_eq_true (by first|(with_reducible assumption)|assumption);obtain ⟨Aw,B4,Am,An⟩:=at_T62 (Kd.R_reads' HO_12.out).2.2 Aa Bj Bk;cases B4;have Ah : Aw.block ≠ Ab:=(by first|exact Kd.own_blk (Kd.R_ne HO_12.out Aj.out (by decide))|exact (HO_12.out.1 _ rfl).2);have Ai : Aw.block ≠ Ab:=(by first|exact Kd.own_blk (Kd.R_ne HO_12.out Aj.out (by decide))|exact (HO_12.out.1 _ rfl).2);replace Am:=(cell_far (p:=⟨Ab,0,none⟩) (by first|(rw [add_block];exact Ah)|(show (Addr.add _ _).block ≠ _;rw [add_block];exact Ah)|exact Ah) (.int .i64 ((rd_T62 Ac Aa).f0))).trans Am;replace An:=(cell_far (p:=⟨Ab,0,none⟩) (by first|(rw [add_block];exact Ah)|(show (Addr.add _ _).block ≠ _;rw [add_block];exact Ah)|exact Ah) (.int .i64 ((rd_T62 Ac Aa).f0))).trans An;replace Am:=(cell_far (p:=⟨Ab,1,none⟩) (by first|(rw [add_block];exact Ai)|(show (Addr.add _ _).block ≠ _;rw [add_block];exact Ai)|exact Ai) (.int .i64 ((rd_T62 Ac Aa).f1))).trans Am;replace An:=(cell_far (p:=⟨Ab,1,none⟩) (by first|(rw [add_block];exact Ai)|(show (Addr.add _ _).block ≠ _;rw [add_block];exact Ai)|exact Ai) (.int .i64 ((rd_T62 Ac Aa).f1))).trans An;(try have Cb:=fun (n_ : Nat)=>(show ((((w71.drewN n_).setCell ⟨Ab,0,none⟩ (.int .i64 ((rd_T62 Ac Aa).f0))).setCell ⟨Ab,1,none⟩ (.int .i64 ((rd_T62 Ac Aa).f1)))).cell? _ = some _ from Am));(try have Cc:=fun (n_ : Nat)=>(show ((((w71.drewN n_).setCell ⟨Ab,0,none⟩ (.int .i64 ((rd_T62 Ac Aa).f0))).setCell ⟨Ab,1,none⟩ (.int .i64 ((rd_T62 Ac Aa).f1)))).cell? _ = some _ from An));clear Ah;clear Ai;replace Bj:=eq_true Bj;replace Bk:=eq_true Bk;have Bt : 0 ≤ (Aa : Int):=of_decide_eq_true (by first|(with_reducible assumption)|assumption);have Bu : Aa < (Aq.length : Int):=of_decide_eq_true (by first|(with_reducible assumption)|assumption);obtain ⟨B7,Cg,As,At⟩:=at_T62 (Kd.R_reads' HO_12.out).2.2 Aa Bt Bu;obtain rfl : Aw = B7:=(by injection Cg);have Ao : Aw.block ≠ Ab:=(by first|exact Kd.own_blk (Kd.R_ne HO_12.out Aj.out (by decide))|exact (HO_12.out.1 _ rfl).2);have Ap : Aw.block ≠ Ab:=(by first|exact Kd.own_blk (Kd.R_ne HO_12.out Aj.out (by decide))|exact (HO_12.out.1 _ rfl).2);replace As:=(cell_far (p:=⟨Ab,0,none⟩) (by first|(rw [add_block];exact Ao)|(show (Addr.add _ _).block ≠ _;rw [add_block];exact Ao)|exact Ao) (.int .i64 ((rd_T62 Ac Aa).f0))).trans As;replace At:=(cell_far (p:=⟨Ab,0,none⟩) (by first|(rw [add_block];exact Ao)|(show (Addr.add _ _).block ≠ _;rw [add_block];exact Ao)|exact Ao) (.int .i64 ((rd_T62 Ac Aa).f0))).trans At;replace As:=(cell_far (p:=⟨Ab,1,none⟩) (by first|(rw [add_block];exact Ap)|(show (Addr.add _ _).block ≠ _;rw [add_block];exact Ap)|exact Ap) (.int .i64 ((rd_T62 Ac Aa).f1))).trans As;replace At:=(cell_far (p:=⟨Ab,1,none⟩) (by first|(rw [add_block];exact Ap)|(show (Addr.add _ _).block ≠ _;rw [add_block];exact Ap)|exact Ap) (.int .i64 ((rd_T62 Ac Aa).f1))).trans At;(try have Cm:=fun (n_ : Nat)=>(show ((((w71.drewN n_).setCell ⟨Ab,0,none⟩ (.int .i64 ((rd_T62 Ac Aa).f0))).setCell ⟨Ab,1,none⟩ (.int .i64 ((rd_T62 Ac Aa).f1)))).cell? _ = some _ from As));(try have Cn:=fun (n_ : Nat)=>(show ((((w71.drewN n_).setCell ⟨Ab,0,none⟩ (.int .i64 ((rd_T62 Ac Aa).f0))).setCell ⟨Ab,1,none⟩ (.int .i64 ((rd_T62 Ac Aa).f1)))).cell? _ = some _ from At));clear Ao;clear Ap;replace Bt:=eq_true Bt;replace Bu:=eq_true Bu));try go_wp2_with (first|((with_reducible refine gate_dst (N:=21) rfl ?_);(try (refine gate_guard (by rfl) ?_;dsimp only));refine box_event ?hg (N:=21) ?hd (cs:=#[.int .i64 0,.int .i64 0]) (t:=62) ?hr ?_;(case hd=>rfl);(case hg=>rfl);(case hr=>go_simp;try rfl);intro Ab hg w71 hbox hb;replace HO_6:=A_ (Kd.R_below (Kd.R_elderB (rl_ HO_6) Ab (Nat.le_of_eq hg.symm)) hb);replace HO_12:=A_ (Kd.R_below (Kd.R_elderB (rl_ HO_12) Ab (Nat.le_of_eq hg.symm)) hb);replace HO_18:=rb_ HO_18 hb;replace Ar:=A_ (Kd.R_below (Kd.R_elderB (rl_ Ar) Ab (Nat.le_of_eq hg.symm)) hb);replace Ad:=rb_ Ad hb;replace Ag:=rb_ Ag hb;have Aj:=A_ (hbox);have Ck:=A_ (gw_ (w:=w) hg bb_);have Cl:=A_ (gw_ (w:=w) hg bb_);replace HB:=A_ (below_step bb_ hb);have Bc:=A_ (nl_ hg Ae);have Bf:=A_ (ng_ hg Ae);replace Ae:=bz Ae hb;have Bd:=A_ (nl_ hg Af);have Bg:=A_ (ng_ hg Af);replace Af:=bz Af hb;clear hb hbox hg;have hnb72:=Bf.out;have hnc72:=Bc.out;have hnb73:=Bg.out;have hnc73:=Bd.out;have hcz74_0 : w71.cell? ⟨Ab,0,none⟩ = some (.int .i64 0):=blk_cell Aj.out 0;have hcz74_1 : w71.cell? ⟨Ab,1,none⟩ = some (.int .i64 0):=blk_cell Aj.out 1;have hfz74_0:=blk_frozen Aj.out 0;have hfz74_1:=blk_frozen Aj.out 1;obtain ⟨Ao75,co75,eo75⟩:=Kd.R_slice HO_12.out;subst eo75;have Bj : 0 ≤ (Aa : Int):=of_decide_eq_true (by first|(with_reducible assumption)|assumption);have Bk : Aa < (Aq.length : Int):=of_decide_eq_true (by first|(with_reducible assumption)|assumption);obtain ⟨Aw,B4,Am,An⟩:=at_T62 (Kd.R_reads' HO_12.out).2.2 Aa Bj Bk;cases B4;have Ah : Aw.block ≠ Ab:=(by first|exact Kd.own_blk (Kd.R_ne HO_12.out Aj.out (by decide))|exact (HO_12.out.1 _ rfl).2);have Ai : Aw.block ≠ Ab:=(by first|exact Kd.own_blk (Kd.R_ne HO_12.out Aj.out (by decide))|exact (HO_12.out.1 _ rfl).2);replace Am:=(cell_far (p:=⟨Ab,0,none⟩) (by first|(rw [add_block];exact Ah)|(show (Addr.add _ _).block ≠ _;rw [add_block];exact Ah)|exact Ah) (.int .i64 ((rd_T62 Ac Aa).f0))).trans Am;replace An:=(cell_far (p:=⟨Ab,0,none⟩) (by first|(rw [add_block];exact Ah)|(show (Addr.add _ _).block ≠ _;rw [add_block];exact Ah)|exact Ah) (.int .i64 ((rd_T62 Ac Aa).f0))).trans An;replace Am:=(cell_far (p:=⟨Ab,1,none⟩) (by first|(rw [add_block];exact Ai)|(show (Addr.add _ _).block ≠ _;rw [add_block];exact Ai)|exact Ai) (.int .i64 ((rd_T62 Ac Aa).f1))).trans Am;replace An:=(cell_far (p:=⟨Ab,1,none⟩) (by first|(rw [add_block];exact Ai)|(show (Addr.add _ _).block ≠ _;rw [add_block];exact Ai)|exact Ai) (.int .i64 ((rd_T62 Ac Aa).f1))).trans An;(try have Cb:=fun (n_ : Nat)=>(show ((((w71.drewN n_).setCell ⟨Ab,0,none⟩ (.int .i64 ((rd_T62 Ac Aa).f0))).setCell ⟨Ab,1,none⟩ (.int .i64 ((rd_T62 Ac Aa).f1)))).cell? _ = some _ from Am));(try have Cc:=fun (n_ : Nat)=>(show ((((w71.drewN n_).setCell ⟨Ab,0,none⟩ (.int .i64 ((rd_T62 Ac Aa).f0))).setCell ⟨Ab,1,none⟩ (.int .i64 ((rd_T62 Ac Aa).f1)))).cell? _ = some _ from An));clear Ah;clear Ai;replace Bj:=eq_true Bj;replace Bk:=eq_true Bk;have Bt : 0 ≤ (Aa : Int):=of_decide_eq_true (by first|(with_reducible assumption)|assumption);have Bu : Aa < (Aq.length : Int):=of_decide_eq_true (by first|(with_reducible assumption)|assumption);obtain ⟨B7,Cg,As,At⟩:=at_T62 (Kd.R_reads' HO_12.out).2.2 Aa Bt Bu;obtain rfl : Aw = B7:=(by injection Cg);have Ao : Aw.block ≠ Ab:=(by first|exact Kd.own_blk (Kd.R_ne HO_12.out Aj.out (by decide))|exact (HO_12.out.1 _ rfl).2);have Ap : Aw.block ≠ Ab:=(by first|exact Kd.own_blk (Kd.R_ne HO_12.out Aj.out (by decide))|exact (HO_12.out.1 _ rfl).2);replace As:=(cell_far (p:=⟨Ab,0,none⟩) (by first|(rw [add_block];exact Ao)|(show (Addr.add _ _).block ≠ _;rw [add_block];exact Ao)|exact Ao) (.int .i64 ((rd_T62 Ac Aa).f0))).trans As;replace At:=(cell_far (p:=⟨Ab,0,none⟩) (by first|(rw [add_block];exact Ao)|(show (Addr.add _ _).block ≠ _;rw [add_block];exact Ao)|exact Ao) (.int .i64 ((rd_T62 Ac Aa).f0))).trans At;replace As:=(cell_far (p:=⟨Ab,1,none⟩) (by first|(rw [add_block];exact Ap)|(show (Addr.add _ _).block ≠ _;rw [add_block];exact Ap)|exact Ap) (.int .i64 ((rd_T62 Ac Aa).f1))).trans As;replace At:=(cell_far (p:=⟨Ab,1,none⟩) (by first|(rw [add_block];exact Ap)|(show (Addr.add _ _).block ≠ _;rw [add_block];exact Ap)|exact Ap) (.int .i64 ((rd_T62 Ac Aa).f1))).trans At;(try have Cm:=fun (n_ : Nat)=>(show ((((w71.drewN n_).setCell ⟨Ab,0,none⟩ (.int .i64 ((rd_T62 Ac Aa).f0))).setCell ⟨Ab,1,none⟩ (.int .i64 ((rd_T62 Ac Aa).f1)))).cell? _ = some _ from As));(try have Cn:=fun (n_ : Nat)=>(show ((((w71.drewN n_).setCell ⟨Ab,0,none⟩ (.int .i64 ((rd_T62 Ac Aa).f0))).setCell ⟨Ab,1,none⟩ (.int .i64 ((rd_T62 Ac Aa).f1)))).cell? _ = some _ from At));clear Ao;clear Ap;replace Bt:=eq_true Bt;replace Bu:=eq_true Bu)))
                 go_ret
                 exact ⟨by first|rfl|(simp [errW_none,errW_some] <;> rfl)|(simp [*,errW_none,errW_some] <;> rfl),bb_⟩
               ·rw [if_neg c55] at H;have c55b0 : (((rd_T62 Aq Aa).f0) == (wrap64 ((wrap64 (Av - 1)) - ((rd_T62 Ac Aa).f1)))) = false:=beq_eq_false_iff_ne.mpr c55;have c55b1 : (((rd_T62 Aq Aa).f0) != (wrap64 ((wrap64 (Av - 1)) - ((rd_T62 Ac Aa).f1)))) = true:=bne_iff_ne.mpr c55;obtain rfl:=Option.some.inj H;have Ci : 0 ≤ (Aa : Int):=of_decide_eq_true (by first|(with_reducible assumption)|assumption);have Cj : Aa < (Ac.length : Int):=of_decide_eq_true (by first|(with_reducible assumption)|assumption);obtain ⟨Da,C3,C6,C7⟩:=at_T62 (Kd.R_reads' Ar.out).2.2 Aa Ci Cj;cases C3
                replace Ci:=eq_true Ci;replace Cj:=eq_true Cj;go_wp2_with (first|((with_reducible refine gate_dst (N:=21) rfl ?_);(try (refine gate_guard (by rfl) ?_;dsimp only));refine box_event ?hg (N:=21) ?hd (cs:=#[.int .i64 0,.int .i64 0]) (t:=62) ?hr ?_;(case hd=>rfl);(case hg=>rfl);(case hr=>go_simp;try rfl);intro Ab hg w76 hbox hb;replace HO_6:=A_ (Kd.R_below (Kd.R_elderB (rl_ HO_6) Ab (Nat.le_of_eq hg.symm)) hb);replace HO_12:=A_ (Kd.R_below (Kd.R_elderB (rl_ HO_12) Ab (Nat.le_of_eq hg.symm)) hb);replace HO_18:=rb_ HO_18 hb;replace Ar:=A_ (Kd.R_below (Kd.R_elderB (rl_ Ar) Ab (Nat.le_of_eq hg.symm)) hb);replace Ad:=rb_ Ad hb;replace Ag:=rb_ Ag hb;have Aj:=A_ (hbox);have Ck:=A_ (gw_ (w:=w) hg bb_);have Cl:=A_ (gw_ (w:=w) hg bb_);replace HB:=A_ (below_step bb_ hb);have Bc:=A_ (nl_ hg Ae);have Bf:=A_ (ng_ hg Ae);replace Ae:=bz Ae hb;have Bd:=A_ (nl_ hg Af);have Bg:=A_ (ng_ hg Af);replace Af:=bz Af hb;clear hb hbox hg;have hnb77:=Bf.out;have hnc77:=Bc.out;have hnb78:=Bg.out;have hnc78:=Bd.out;have hcz79_0 : w76.cell? ⟨Ab,0,none⟩ = some (.int .i64 0):=blk_cell Aj.out 0;have hcz79_1 : w76.cell? ⟨Ab,1,none⟩ = some (.int .i64 0):=blk_cell Aj.out 1;have hfz79_0:=blk_frozen Aj.out 0;have hfz79_1:=blk_frozen Aj.out 1;obtain ⟨Ao80,co80,eo80⟩:=Kd.R_slice HO_12.out;subst eo80;have Bj : 0 ≤ (Aa : Int):=of_decide_eq_true (by first|(with_reducible assumption)|assumption);have Bk : Aa < (Aq.length : Int):=of_decide_eq_true (by first|(with_reducible assumption)|assumption);obtain ⟨Aw,B4,Am,An⟩:=at_T62 (Kd.R_reads' HO_12.out).2.2 Aa Bj Bk;cases B4;have Ah : Aw.block ≠ Ab:=(by first|exact Kd.own_blk (Kd.R_ne HO_12.out Aj.out (by decide))|exact (HO_12.out.1 _ rfl).2);have Ai : Aw.block ≠ Ab:=(by first|exact Kd.own_blk (Kd.R_ne HO_12.out Aj.out (by decide))|exact (HO_12.out.1 _ rfl).2);replace Am:=(cell_far (p:=⟨Ab,0,none⟩) (by first|(rw [add_block];exact Ah)|(show (Addr.add _ _).block ≠ _;rw [add_block];exact Ah)|exact Ah) (.int .i64 ((rd_T62 Ac Aa).f0))).trans Am;replace An:=(cell_far (p:=⟨Ab,0,none⟩) (by first|(rw [add_block];exact Ah)|(show (Addr.add _ _).block ≠ _;rw [add_block];exact Ah)|exact Ah) (.int .i64 ((rd_T62 Ac Aa).f0))).trans An;replace Am:=(cell_far (p:=⟨Ab,1,none⟩) (by first|(rw [add_block];exact Ai)|(show (Addr.add _ _).block ≠ _;rw [add_block];exact Ai)|exact Ai) (.int .i64 ((rd_T62 Ac Aa).f1))).trans Am;replace An:=(cell_far (p:=⟨Ab,1,none⟩) (by first|(rw [add_block];exact Ai)|(show (Addr.add _ _).block ≠ _;rw [add_block];exact Ai)|exact Ai) (.int .i64 ((rd_T62 Ac Aa).f1))).trans An;(try have Cb:=fun (n_ : Nat)=>(show ((((w76.drewN n_).setCell ⟨Ab,0,none⟩ (.int .i64 ((rd_T62 Ac Aa).f0))).setCell ⟨Ab,1,none⟩ (.int .i64 ((rd_T62 Ac Aa).f1)))).cell? _ = some _ from Am));(try have Cc:=fun (n_ : Nat)=>(show ((((w76.drewN n_).setCell ⟨Ab,0,none⟩ (.int .i64 ((rd_T62 Ac Aa).f0))).setCell ⟨Ab,1,none⟩ (.int .i64 ((rd_T62 Ac Aa).f1)))).cell? _ = some _ from An));clear Ah;clear Ai;replace Bj:=eq_true Bj;replace Bk:=eq_true Bk))
                repeat (go_quiet (first|((with_reducible refine gate_dst (N:=21) rfl ?_);(try (refine gate_guard (by rfl) ?_;dsimp only));refine box_event ?hg (N:=21) ?hd (cs:=#[.int .i64 0,.int .i64 0]) (t:=62) ?hr ?_;(case hd=>rfl);(case hg=>rfl);(case hr=>go_simp;try rfl);intro Ab hg w76 hbox hb;replace HO_6:=A_ (Kd.R_below (Kd.R_elderB (rl_ HO_6) Ab (Nat.le_of_eq hg.symm)) hb);replace HO_12:=A_ (Kd.R_below (Kd.R_elderB (rl_ HO_12) Ab (Nat.le_of_eq hg.symm)) hb);replace HO_18:=rb_ HO_18 hb;replace Ar:=A_ (Kd.R_below (Kd.R_elderB (rl_ Ar) Ab (Nat.le_of_eq hg.symm)) hb);replace Ad:=rb_ Ad hb;replace Ag:=rb_ Ag hb;have Aj:=A_ (hbox);have Ck:=A_ (gw_ (w:=w) hg bb_);have Cl:=A_ (gw_ (w:=w) hg bb_);replace HB:=A_ (below_step bb_ hb);have Bc:=A_ (nl_ hg Ae);have Bf:=A_ (ng_ hg Ae);replace Ae:=bz Ae hb;have Bd:=A_ (nl_ hg Af);have Bg:=A_ (ng_ hg Af);replace Af:=bz Af hb;clear hb hbox hg;have hnb77:=Bf.out;have hnc77:=Bc.out;have hnb78:=Bg.out;have hnc78:=Bd.out;have hcz79_0 : w76.cell? ⟨Ab,0,none⟩ = some (.int .i64 0):=blk_cell Aj.out 0;have hcz79_1 : w76.cell? ⟨Ab,1,none⟩ = some (.int .i64 0):=blk_cell Aj.out 1;have hfz79_0:=blk_frozen Aj.out 0;have hfz79_1:=blk_frozen Aj.out 1;obtain ⟨Ao80,co80,eo80⟩:=Kd.R_slice HO_12.out;subst eo80;have Bj : 0 ≤ (Aa : Int):=of_decide_eq_true (by first|(with_reducible assumption)|assumption);have Bk : Aa < (Aq.length : Int):=of_decide_eq_true (by first|(with_reducible assumption)|assumption);obtain ⟨Aw,B4,Am,An⟩:=at_T62 (Kd.R_reads' HO_12.out).2.2 Aa Bj Bk;cases B4;have Ah : Aw.block ≠ Ab:=(by first|exact Kd.own_blk (Kd.R_ne HO_12.out Aj.out (by decide))|exact (HO_12.out.1 _ rfl).2);have Ai : Aw.block ≠ Ab:=(by first|exact Kd.own_blk (Kd.R_ne HO_12.out Aj.out (by decide))|exact (HO_12.out.1 _ rfl).2);replace Am:=(cell_far (p:=⟨Ab,0,none⟩) (by first|(rw [add_block];exact Ah)|(show (Addr.add _ _).block ≠ _;rw [add_block];exact Ah)|exact Ah) (.int .i64 ((rd_T62 Ac Aa).f0))).trans Am;replace An:=(cell_far (p:=⟨Ab,0,none⟩) (by first|(rw [add_block];exact Ah)|(show (Addr.add _ _).block ≠ _;rw [add_block];exact Ah)|exact Ah) (.int .i64 ((rd_T62 Ac Aa).f0))).trans An;replace Am:=(cell_far (p:=⟨Ab,1,none⟩) (by first|(rw [add_block];exact Ai)|(show (Addr.add _ _).block ≠ _;rw [add_block];exact Ai)|exact Ai) (.int .i64 ((rd_T62 Ac Aa).f1))).trans Am;replace An:=(cell_far (p:=⟨Ab,1,none⟩) (by first|(rw [add_block];exact Ai)|(show (Addr.add _ _).block ≠ _;rw [add_block];exact Ai)|exact Ai) (.int .i64 ((rd_T62 Ac Aa).f1))).trans An;(try have Cb:=fun (n_ : Nat)=>(show ((((w76.drewN n_).setCell ⟨Ab,0,none⟩ (.int .i64 ((rd_T62 Ac Aa).f0))).setCell ⟨Ab,1,none⟩ (.int .i64 ((rd_T62 Ac Aa).f1)))).cell? _ = some _ from Am));(try have Cc:=fun (n_ : Nat)=>(show ((((w76.drewN n_).setCell ⟨Ab,0,none⟩ (.int .i64 ((rd_T62 Ac Aa).f0))).setCell ⟨Ab,1,none⟩ (.int .i64 ((rd_T62 Ac Aa).f1)))).cell? _ = some _ from An));clear Ah;clear Ai;replace Bj:=eq_true Bj;replace Bk:=eq_true Bk));try go_wp2_with (first|((with_reducible refine gate_dst (N:=21) rfl ?_);(try (refine gate_guard (by rfl) ?_;dsimp only));refine box_event ?hg (N:=21) ?hd (cs:=#[.int .i64 0,.int .i64 0]) (t:=62) ?hr ?_;(case hd=>rfl);(case hg=>rfl);(case hr=>go_simp;try rfl);intro Ab hg w76 hbox hb;replace HO_6:=A_ (Kd.R_below (Kd.R_elderB (rl_ HO_6) Ab (Nat.le_of_eq hg.symm)) hb);replace HO_12:=A_ (Kd.R_below (Kd.R_elderB (rl_ HO_12) Ab (Nat.le_of_eq hg.symm)) hb);replace HO_18:=rb_ HO_18 hb;replace Ar:=A_ (Kd.R_below (Kd.R_elderB (rl_ Ar) Ab (Nat.le_of_eq hg.symm)) hb);replace Ad:=rb_ Ad hb;replace Ag:=rb_ Ag hb;have Aj:=A_ (hbox);have Ck:=A_ (gw_ (w:=w) hg bb_);have Cl:=A_ (gw_ (w:=w) hg bb_);replace HB:=A_ (below_step bb_ hb);have Bc:=A_ (nl_ hg Ae);have Bf:=A_ (ng_ hg Ae);replace Ae:=bz Ae hb;have Bd:=A_ (nl_ hg Af);have Bg:=A_ (ng_ hg Af);replace Af:=bz Af hb;clear hb hbox hg;have hnb77:=Bf.out;have hnc77:=Bc.out;have hnb78:=Bg.out;have hnc78:=Bd.out;have hcz79_0 : w76.cell? ⟨Ab,0,none⟩ = some (.int .i64 0):=blk_cell Aj.out 0;have hcz79_1 : w76.cell? ⟨Ab,1,none⟩ = some (.int .i64 0):=blk_cell Aj.out 1;have hfz79_0:=blk_frozen Aj.out 0;have hfz79_1:=blk_frozen Aj.out 1;obtain ⟨Ao80,co80,eo80⟩:=Kd.R_slice HO_12.out;subst eo80;have Bj : 0 ≤ (Aa : Int):=of_decide_eq_true (by first|(with_reducible assumption)|assumption);have Bk : Aa < (Aq.length : Int):=of_decide_eq_true (by first|(with_reducible assumption)|assumption);obtain ⟨Aw,B4,Am,An⟩:=at_T62 (Kd.R_reads' HO_12.out).2.2 Aa Bj Bk;cases B4;have Ah : Aw.block ≠ Ab:=(by first|exact Kd.own_blk (Kd.R_ne HO_12.out Aj.out (by decide))|exact (HO_12.out.1 _ rfl).2);have Ai : Aw.block ≠ Ab:=(by first|exact Kd.own_blk (Kd.R_ne HO_12.out Aj.out (by decide))|exact (HO_12.out.1 _ rfl).2);replace Am:=(cell_far (p:=⟨Ab,0,none⟩) (by first|(rw [add_block];exact Ah)|(show (Addr.add _ _).block ≠ _;rw [add_block];exact Ah)|exact Ah) (.int .i64 ((rd_T62 Ac Aa).f0))).trans Am;replace An:=(cell_far (p:=⟨Ab,0,none⟩) (by first|(rw [add_block];exact Ah)|(show (Addr.add _ _).block ≠ _;rw [add_block];exact Ah)|exact Ah) (.int .i64 ((rd_T62 Ac Aa).f0))).trans An;replace Am:=(cell_far (p:=⟨Ab,1,none⟩) (by first|(rw [add_block];exact Ai)|(show (Addr.add _ _).block ≠ _;rw [add_block];exact Ai)|exact Ai) (.int .i64 ((rd_T62 Ac Aa).f1))).trans Am;replace An:=(cell_far (p:=⟨Ab,1,none⟩) (by first|(rw [add_block];exact Ai)|(show (Addr.add _ _).block ≠ _;rw [add_block];exact Ai)|exact Ai) (.int .i64 ((rd_T62 Ac Aa).f1))).trans An;(try have Cb:=fun (n_ : Nat)=>(show ((((w76.drewN n_).setCell ⟨Ab,0,none⟩ (.int .i64 ((rd_T62 Ac Aa).f0))).setCell ⟨Ab,1,none⟩ (.int .i64 ((rd_T62 Ac Aa).f1)))).cell? _ = some _ from Am));(try have Cc:=fun (n_ : Nat)=>(show ((((w76.drewN n_).setCell ⟨Ab,0,none⟩ (.int .i64 ((rd_T62 Ac Aa).f0))).setCell ⟨Ab,1,none⟩ (.int .i64 ((rd_T62 Ac Aa).f1)))).cell? _ = some _ from An));clear Ah;clear Ai;replace Bj:=eq_true Bj;replace Bk:=eq_true Bk)))
                go_ret
                exact ⟨by first|rfl|(simp [errW_none,errW_some] <;> rfl)|(simp [*,errW_none,errW_some] <;> rfl),bb_⟩
              ·rw [if_neg c54] at H;exact absurd H (by simp)
             ·rw [if_neg c53] at H;exact absurd H (by simp)
            ·rw [if_neg c52] at H;exact absurd H (by simp)
           ·rw [if_neg c51] at H;have c51b0 : decide (Aa < (Ac.length : Int)) = false:=decide_eq_false c51;clear c51;replace H:=Option.bind_eq_some_iff.mp H;obtain ⟨⟨Ca,Db⟩,Dq,H⟩:=H;replace H : ((Aau.f k3 Ca Al Ak).bind fun Dg=>(if Db = true then (if Dg.2 = true then (some Dg.1) else (some false)) else (some false))) = some r:=H;have A81:=A_ Dq;clear Dq;replace H:=Option.bind_eq_some_iff.mp H;obtain ⟨⟨Cp,C5⟩,Dr,H⟩:=H;replace H : (if Db = true then (if C5 = true then (some Cp) else (some false)) else (some false)) = some r:=H;have A82:=A_ Dr;clear Dr;by_cases c83 : Db = true
            ·subst c83;have H1 : (if C5 = true then (some Cp) else (some false)) = some r:=by rw [if_pos rfl] at H;exact H
             clear H;have H:=H1;clear H1;by_cases c84 : C5 = true
             ·subst c84;have H1 : (some Cp) = some r:=by rw [if_pos rfl] at H;exact H
              clear H;have H:=H1;clear H1;obtain rfl:=Option.some.inj H;go_wp2_with (first|(go_at_call 91;(with_reducible refine (Aan.calls k3 _ _ Ac Ca true _ ?side1 ?side2 A81.out).mono ?_);(case side1=>exact cl_ (Kd.R_reads' HO_6.out).2.2);(case side2=>exact (Kd.R_reads' HO_6.out).2.1);rintro e w85 ⟨C0,rfl,ho0,hb⟩;replace HO_18:=rb_ HO_18 hb;replace Ad:=rb_ Ad hb;replace Ag:=rb_ Ag hb;have Ba:=A_ (Kd.R_lower (Kd.R_new' (Kd.R_new' (Kd.R_new' ho0 (Kd.R_lt (rl_ HO_6))) (Kd.R_lt (rl_ HO_12))) (Kd.R_lt (rl_ Ar))) (below_size bb_));replace HO_6:=A_ (Kd.R_elder' (rl_ HO_6) (Kd.R_base ho0) hb);replace HO_12:=A_ (Kd.R_elder' (rl_ HO_12) (Kd.R_base ho0) hb);replace Ar:=A_ (Kd.R_elder' (rl_ Ar) (Kd.R_base ho0) hb);replace Ae:=bz Ae hb;replace Af:=bz Af hb;replace HB:=A_ (below_step bb_ hb);(try clear hb);(try clear hb2);(try clear hk);(try clear hi);(try clear ho0);have hnb86:=Bx.out;have hnc86:=Bn.out;have hcz87_0 : w85.cell? ⟨Bq,0,none⟩ = some (.int .i64 Al):=blk_cell Af.out 0;have hcz87_1 : w85.cell? ⟨Bq,1,none⟩ = some (.slice Ao33 Ak.length co33):=blk_cell Af.out 1;have hfz87_0:=blk_frozen Af.out 0;have hfz87_1:=blk_frozen Af.out 1;obtain ⟨Ao88,co88,eo88⟩:=Kd.R_slice Ba.out;subst eo88)|(go_at_call 50;(with_reducible refine (Aau.calls k3 _ _ Ca Al _ _ Ak Cp true _ ?side1 ?side2 ?side3 ?side4 ?side5 A82.out).mono ?_);(case side1=>exact cl_ (Kd.R_reads' Ba.out).2.2);(case side2=>exact (Kd.R_reads' Ba.out).2.1);(case side3=>exact cl_ (Kd.R_reads' Ag.out).2.2);(case side4=>exact (Kd.R_reads' Ag.out).2.1);(case side5=>first|exact HT.out|exact HT.out.below bb_|(repeat (first|exact HT.out|apply TabOK.drewN|apply TabOK.drew|apply TabOK.alloc)));rintro e w89 ⟨rfl,hb⟩;replace HO_6:=rb_ HO_6 hb;replace HO_12:=rb_ HO_12 hb;replace HO_18:=rb_ HO_18 hb;replace Ar:=rb_ Ar hb;replace Ad:=rb_ Ad hb;replace Ag:=rb_ Ag hb;replace Ba:=rb_ Ba hb;replace Ae:=bz Ae hb;replace Af:=bz Af hb;replace HB:=A_ (below_step bb_ hb);(try clear hb);(try clear hb2);(try clear hk);(try clear hi)))
              repeat (go_quiet (first|(go_at_call 91;(with_reducible refine (Aan.calls k3 _ _ Ac Ca true _ ?side1 ?side2 A81.out).mono ?_);(case side1=>exact cl_ (Kd.R_reads' HO_6.out).2.2);(case side2=>exact (Kd.R_reads' HO_6.out).2.1);rintro e w85 ⟨C0,rfl,ho0,hb⟩;replace HO_18:=rb_ HO_18 hb;replace Ad:=rb_ Ad hb;replace Ag:=rb_ Ag hb;have Ba:=A_ (Kd.R_lower (Kd.R_new' (Kd.R_new' (Kd.R_new' ho0 (Kd.R_lt (rl_ HO_6))) (Kd.R_lt (rl_ HO_12))) (Kd.R_lt (rl_ Ar))) (below_size bb_));replace HO_6:=A_ (Kd.R_elder' (rl_ HO_6) (Kd.R_base ho0) hb);replace HO_12:=A_ (Kd.R_elder' (rl_ HO_12) (Kd.R_base ho0) hb);replace Ar:=A_ (Kd.R_elder' (rl_ Ar) (Kd.R_base ho0) hb);replace Ae:=bz Ae hb;replace Af:=bz Af hb;replace HB:=A_ (below_step bb_ hb);(try clear hb);(try clear hb2);(try clear hk);(try clear hi);(try clear ho0);have hnb86:=Bx.out;have hnc86:=Bn.out;have hcz87_0 : w85.cell? ⟨Bq,0,none⟩ = some (.int .i64 Al):=blk_cell Af.out 0;have hcz87_1 : w85.cell? ⟨Bq,1,none⟩ = some (.slice Ao33 Ak.length co33):=blk_cell Af.out 1;have hfz87_0:=blk_frozen Af.out 0;have hfz87_1:=blk_frozen Af.out 1;obtain ⟨Ao88,co88,eo88⟩:=Kd.R_slice Ba.out;subst eo88)|(go_at_call 50;(with_reducible refine (Aau.calls k3 _ _ Ca Al _ _ Ak Cp true _ ?side1 ?side2 ?side3 ?side4 ?side5 A82.out).mono ?_);(case side1=>exact cl_ (Kd.R_reads' Ba.out).2.2);(case side2=>exact (Kd.R_reads' Ba.out).2.1);(case side3=>exact cl_ (Kd.R_reads' Ag.out).2.2);(case side4=>exact (Kd.R_reads' Ag.out).2.1);(case side5=>first|exact HT.out|exact HT.out.below bb_|(repeat (first|exact HT.out|apply TabOK.drewN|apply TabOK.drew|apply TabOK.alloc)));rintro e w89 ⟨rfl,hb⟩;replace HO_6:=rb_ HO_6 hb;replace HO_12:=rb_ HO_12 hb;replace HO_18:=rb_ HO_18 hb;replace Ar:=rb_ Ar hb;replace Ad:=rb_ Ad hb;replace Ag:=rb_ Ag hb;replace Ba:=rb_ Ba hb;replace Ae:=bz Ae hb;replace Af:=bz Af hb;replace HB:=A_ (below_step bb_ hb);(try clear hb);(try clear hb2);(try clear hk);(try clear hi)));try go_wp2_with (first|(go_at_call 91;(with_reducible refine (Aan.calls k3 _ _ Ac Ca true _ ?side1 ?side2 A81.out).mono ?_);(case side1=>exact cl_ (Kd.R_reads' HO_6.out).2.2);(case side2=>exact (Kd.R_reads' HO_6.out).2.1);rintro e w85 ⟨C0,rfl,ho0,hb⟩;replace HO_18:=rb_ HO_18 hb;replace Ad:=rb_ Ad hb;replace Ag:=rb_ Ag hb;have Ba:=A_ (Kd.R_lower (Kd.R_new' (Kd.R_new' (Kd.R_new' ho0 (Kd.R_lt (rl_ HO_6))) (Kd.R_lt (rl_ HO_12))) (Kd.R_lt (rl_ Ar))) (below_size bb_));replace HO_6:=A_ (Kd.R_elder' (rl_ HO_6) (Kd.R_base ho0) hb);replace HO_12:=A_ (Kd.R_elder' (rl_ HO_12) (Kd.R_base ho0) hb);replace Ar:=A_ (Kd.R_elder' (rl_ Ar) (Kd.R_base ho0) hb);replace Ae:=bz Ae hb;replace Af:=bz Af hb;replace HB:=A_ (below_step bb_ hb);(try clear hb);(try clear hb2);(try clear hk);(try clear hi);(try clear ho0);have hnb86:=Bx.out;have hnc86:=Bn.out;have hcz87_0 : w85.cell? ⟨Bq,0,none⟩ = some (.int .i64 Al):=blk_cell Af.out 0;have hcz87_1 : w85.cell? ⟨Bq,1,none⟩ = some (.slice Ao33 Ak.length co33):=blk_cell Af.out 1;have hfz87_0:=blk_frozen Af.out 0;have hfz87_1:=blk_frozen Af.out 1;obtain ⟨Ao88,co88,eo88⟩:=Kd.R_slice Ba.out;subst eo88)|(go_at_call 50;(with_reducible refine (Aau.calls k3 _ _ Ca Al _ _ Ak Cp true _ ?side1 ?side2 ?side3 ?side4 ?side5 A82.out).mono ?_);(case side1=>exact cl_ (Kd.R_reads' Ba.out).2.2);(case side2=>exact (Kd.R_reads' Ba.out).2.1);(case side3=>exact cl_ (Kd.R_reads' Ag.out).2.2);(case side4=>exact (Kd.R_reads' Ag.out).2.1);(case side5=>first|exact HT.out|exact HT.out.below bb_|(repeat (first|exact HT.out|apply TabOK.drewN|apply TabOK.drew|apply TabOK.alloc)));rintro e w89 ⟨rfl,hb⟩;replace HO_6:=rb_ HO_6 hb;replace HO_12:=rb_ HO_12 hb;replace HO_18:=rb_ HO_18 hb;replace Ar:=rb_ Ar hb;replace Ad:=rb_ Ad hb;replace Ag:=rb_ Ag hb;replace Ba:=rb_ Ba hb;replace Ae:=bz Ae hb;replace Af:=bz Af hb;replace HB:=A_ (below_step bb_ hb);(try clear hb);(try clear hb2);(try clear hk);(try clear hi))))
              go_ret
              exact ⟨by first|rfl|(simp [errW_none,errW_some] <;> rfl)|(simp [*,errW_none,errW_some] <;> rfl),bb_⟩
             ·replace c84:=Bool.eq_false_iff.mpr c84;subst c84;have H1 : (some false) = some r:=by rw [if_neg (show ¬ (false = true) by decide)] at H;exact H
              clear H;have H:=H1;clear H1;obtain rfl:=Option.some.inj H;go_wp2_with (first|(go_at_call 91;(with_reducible refine (Aan.calls k3 _ _ Ac Ca true _ ?side1 ?side2 A81.out).mono ?_);(case side1=>exact cl_ (Kd.R_reads' HO_6.out).2.2);(case side2=>exact (Kd.R_reads' HO_6.out).2.1);rintro e w90 ⟨C0,rfl,ho0,hb⟩;replace HO_18:=rb_ HO_18 hb;replace Ad:=rb_ Ad hb;replace Ag:=rb_ Ag hb;have Ba:=A_ (Kd.R_lower (Kd.R_new' (Kd.R_new' (Kd.R_new' ho0 (Kd.R_lt (rl_ HO_6))) (Kd.R_lt (rl_ HO_12))) (Kd.R_lt (rl_ Ar))) (below_size bb_));replace HO_6:=A_ (Kd.R_elder' (rl_ HO_6) (Kd.R_base ho0) hb);replace HO_12:=A_ (Kd.R_elder' (rl_ HO_12) (Kd.R_base ho0) hb);replace Ar:=A_ (Kd.R_elder' (rl_ Ar) (Kd.R_base ho0) hb);replace Ae:=bz Ae hb;replace Af:=bz Af hb;replace HB:=A_ (below_step bb_ hb);(try clear hb);(try clear hb2);(try clear hk);(try clear hi);(try clear ho0);have hnb91:=Bx.out;have hnc91:=Bn.out;have hcz92_0 : w90.cell? ⟨Bq,0,none⟩ = some (.int .i64 Al):=blk_cell Af.out 0;have hcz92_1 : w90.cell? ⟨Bq,1,none⟩ = some (.slice Ao33 Ak.length co33):=blk_cell Af.out 1;have hfz92_0:=blk_frozen Af.out 0;have hfz92_1:=blk_frozen Af.out 1;obtain ⟨Ao93,co93,eo93⟩:=Kd.R_slice Ba.out;subst eo93)|(go_at_call 50;(with_reducible refine (Aau.calls k3 _ _ Ca Al _ _ Ak Cp false _ ?side1 ?side2 ?side3 ?side4 ?side5 A82.out).mono ?_);(case side1=>exact cl_ (Kd.R_reads' Ba.out).2.2);(case side2=>exact (Kd.R_reads' Ba.out).2.1);(case side3=>exact cl_ (Kd.R_reads' Ag.out).2.2);(case side4=>exact (Kd.R_reads' Ag.out).2.1);(case side5=>first|exact HT.out|exact HT.out.below bb_|(repeat (first|exact HT.out|apply TabOK.drewN|apply TabOK.drew|apply TabOK.alloc)));rintro e w94 ⟨rfl,hb⟩;replace HO_6:=rb_ HO_6 hb;replace HO_12:=rb_ HO_12 hb;replace HO_18:=rb_ HO_18 hb;replace Ar:=rb_ Ar hb;replace Ad:=rb_ Ad hb;replace Ag:=rb_ Ag hb;replace Ba:=rb_ Ba hb;replace Ae:=bz Ae hb;replace Af:=bz Af hb;replace HB:=A_ (below_step bb_ hb);(try clear hb);(try clear hb2);(try clear hk);(try clear hi)))
              repeat (go_quiet (first|(go_at_call 91;(with_reducible refine (Aan.calls k3 _ _ Ac Ca true _ ?side1 ?side2 A81.out).mono ?_);(case side1=>exact cl_ (Kd.R_reads' HO_6.out).2.2);(case side2=>exact (Kd.R_reads' HO_6.out).2.1);rintro e w90 ⟨C0,rfl,ho0,hb⟩;replace HO_18:=rb_ HO_18 hb;replace Ad:=rb_ Ad hb;replace Ag:=rb_ Ag hb;have Ba:=A_ (Kd.R_lower (Kd.R_new' (Kd.R_new' (Kd.R_new' ho0 (Kd.R_lt (rl_ HO_6))) (Kd.R_lt (rl_ HO_12))) (Kd.R_lt (rl_ Ar))) (below_size bb_));replace HO_6:=A_ (Kd.R_elder' (rl_ HO_6) (Kd.R_base ho0) hb);replace HO_12:=A_ (Kd.R_elder' (rl_ HO_12) (Kd.R_base ho0) hb);replace Ar:=A_ (Kd.R_elder' (rl_ Ar) (Kd.R_base ho0) hb);replace Ae:=bz Ae hb;replace Af:=bz Af hb;replace HB:=A_ (below_step bb_ hb);(try clear hb);(try clear hb2);(try clear hk);(try clear hi);(try clear ho0);have hnb91:=Bx.out;have hnc91:=Bn.out;have hcz92_0 : w90.cell? ⟨Bq,0,none⟩ = some (.int .i64 Al):=blk_cell Af.out 0;have hcz92_1 : w90.cell? ⟨Bq,1,none⟩ = some (.slice Ao33 Ak.length co33):=blk_cell Af.out 1;have hfz92_0:=blk_frozen Af.out 0;have hfz92_1:=blk_frozen Af.out 1;obtain ⟨Ao93,co93,eo93⟩:=Kd.R_slice Ba.out;subst eo93)|(go_at_call 50;(with_reducible refine (Aau.calls k3 _ _ Ca Al _ _ Ak Cp false _ ?side1 ?side2 ?side3 ?side4 ?side5 A82.out).mono ?_);(case side1=>exact cl_ (Kd.R_reads' Ba.out).2.2);(case side2=>exact (Kd.R_reads' Ba.out).2.1);(case side3=>exact cl_ (Kd.R_reads' Ag.out).2.2);(case side4=>exact (Kd.R_reads' Ag.out).2.1);(case side5=>first|exact HT.out|exact HT.out.below bb_|(repeat (first|exact HT.out|apply TabOK.drewN|apply TabOK.drew|apply TabOK.alloc)));rintro e w94 ⟨rfl,hb⟩;replace HO_6:=rb_ HO_6 hb;replace HO_12:=rb_ HO_12 hb;replace HO_18:=rb_ HO_18 hb;replace Ar:=rb_ Ar hb;replace Ad:=rb_ Ad hb;replace Ag:=rb_ Ag hb;replace Ba:=rb_ Ba hb;replace Ae:=bz Ae hb;replace Af:=bz Af hb;replace HB:=A_ (below_step bb_ hb);(try clear hb);(try clear hb2);(try clear hk);(try clear hi)));try go_wp2_with (first|(go_at_call 91;(with_reducible refine (Aan.calls k3 _ _ Ac Ca true _ ?side1 ?side2 A81.out).mono ?_);(case side1=>exact cl_ (Kd.R_reads' HO_6.out).2.2);(case side2=>exact (Kd.R_reads' HO_6.out).2.1);rintro e w90 ⟨C0,rfl,ho0,hb⟩;replace HO_18:=rb_ HO_18 hb;replace Ad:=rb_ Ad hb;replace Ag:=rb_ Ag hb;have Ba:=A_ (Kd.R_lower (Kd.R_new' (Kd.R_new' (Kd.R_new' ho0 (Kd.R_lt (rl_ HO_6))) (Kd.R_lt (rl_ HO_12))) (Kd.R_lt (rl_ Ar))) (below_size bb_));replace HO_6:=A_ (Kd.R_elder' (rl_ HO_6) (Kd.R_base ho0) hb);replace HO_12:=A_ (Kd.R_elder' (rl_ HO_12) (Kd.R_base ho0) hb);replace Ar:=A_ (Kd.R_elder' (rl_ Ar) (Kd.R_base ho0) hb);replace Ae:=bz Ae hb;replace Af:=bz Af hb;replace HB:=A_ (below_step bb_ hb);(try clear hb);(try clear hb2);(try clear hk);(try clear hi);(try clear ho0);have hnb91:=Bx.out;have hnc91:=Bn.out;have hcz92_0 : w90.cell? ⟨Bq,0,none⟩ = some (.int .i64 Al):=blk_cell Af.out 0;have hcz92_1 : w90.cell? ⟨Bq,1,none⟩ = some (.slice Ao33 Ak.length co33):=blk_cell Af.out 1;have hfz92_0:=blk_frozen Af.out 0;have hfz92_1:=blk_frozen Af.out 1;obtain ⟨Ao93,co93,eo93⟩:=Kd.R_slice Ba.out;subst eo93)|(go_at_call 50;(with_reducible refine (Aau.calls k3 _ _ Ca Al _ _ Ak Cp false _ ?side1 ?side2 ?side3 ?side4 ?side5 A82.out).mono ?_);(case side1=>exact cl_ (Kd.R_reads' Ba.out).2.2);(case side2=>exact (Kd.R_reads' Ba.out).2.1);(case side3=>exact cl_ (Kd.R_reads' Ag.out).2.2);(case side4=>exact (Kd.R_reads' Ag.out).2.1);(case side5=>first|exact HT.out|exact HT.out.below bb_|(repeat (first|exact HT.out|apply TabOK.drewN|apply TabOK.drew|apply TabOK.alloc)));rintro e w94 ⟨rfl,hb⟩;replace HO_6:=rb_ HO_6 hb;replace HO_12:=rb_ HO_12 hb;replace HO_18:=rb_ HO_18 hb;replace Ar:=rb_ Ar hb;replace Ad:=rb_ Ad hb;replace Ag:=rb_ Ag hb;replace Ba:=rb_ Ba hb;replace Ae:=bz Ae hb;replace Af:=bz Af hb;replace HB:=A_ (below_step bb_ hb);(try clear hb);(try clear hb2);(try clear hk);(try clear hi))))
              go_ret
              exact ⟨by first|rfl|(simp [errW_none,errW_some] <;> rfl)|(simp [*,errW_none,errW_some] <;> rfl),bb_⟩
            ·replace c83:=Bool.eq_false_iff.mpr c83;subst c83;have H1 : (some false) = some r:=by rw [if_neg (show ¬ (false = true) by decide)] at H;exact H
             clear H;have H:=H1;clear H1;obtain rfl:=Option.some.inj H;go_wp2_with (first|(go_at_call 91;(with_reducible refine (Aan.calls k3 _ _ Ac Ca false _ ?side1 ?side2 A81.out).mono ?_);(case side1=>exact cl_ (Kd.R_reads' HO_6.out).2.2);(case side2=>exact (Kd.R_reads' HO_6.out).2.1);rintro e w95 ⟨C0,rfl,ho0,hb⟩;replace HO_18:=rb_ HO_18 hb;replace Ad:=rb_ Ad hb;replace Ag:=rb_ Ag hb;have Ba:=A_ (Kd.R_lower (Kd.R_new' (Kd.R_new' (Kd.R_new' ho0 (Kd.R_lt (rl_ HO_6))) (Kd.R_lt (rl_ HO_12))) (Kd.R_lt (rl_ Ar))) (below_size bb_));replace HO_6:=A_ (Kd.R_elder' (rl_ HO_6) (Kd.R_base ho0) hb);replace HO_12:=A_ (Kd.R_elder' (rl_ HO_12) (Kd.R_base ho0) hb);replace Ar:=A_ (Kd.R_elder' (rl_ Ar) (Kd.R_base ho0) hb);replace Ae:=bz Ae hb;replace Af:=bz Af hb;replace HB:=A_ (below_step bb_ hb);(try clear hb);(try clear hb2);(try clear hk);(try clear hi);(try clear ho0);have hnb96:=Bx.out;have hnc96:=Bn.out;have hcz97_0 : w95.cell? ⟨Bq,0,none⟩ = some (.int .i64 Al):=blk_cell Af.out 0;have hcz97_1 : w95.cell? ⟨Bq,1,none⟩ = some (.slice Ao33 Ak.length co33):=blk_cell Af.out 1;have hfz97_0:=blk_frozen Af.out 0;have hfz97_1:=blk_frozen Af.out 1;obtain ⟨Ao98,co98,eo98⟩:=Kd.R_slice Ba.out;subst eo98)|(go_at_call 50;(with_reducible refine (Aau.calls k3 _ _ Ca Al _ _ Ak Cp C5 _ ?side1 ?side2 ?side3 ?side4 ?side5 A82.out).mono ?_);(case side1=>exact cl_ (Kd.R_reads' Ba.out).2.2);(case side2=>exact (Kd.R_reads' Ba.out).2.1);(case side3=>exact cl_ (Kd.R_reads' Ag.out).2.2);(case side4=>exact (Kd.R_reads' Ag.out).2.1);(case side5=>first|exact HT.out|exact HT.out.below bb_|(repeat (first|exact HT.out|apply TabOK.drewN|apply TabOK.drew|apply TabOK.alloc)));rintro e w99 ⟨rfl,hb⟩;replace HO_6:=rb_ HO_6 hb;replace HO_12:=rb_ HO_12 hb;replace HO_18:=rb_ HO_18 hb;replace Ar:=rb_ Ar hb;replace Ad:=rb_ Ad hb;replace Ag:=rb_ Ag hb;replace Ba:=rb_ Ba hb;replace Ae:=bz Ae hb;replace Af:=bz Af hb;replace HB:=A_ (below_step bb_ hb);(try clear hb);(try clear hb2);(try clear hk);(try clear hi)))
             repeat (go_quiet (first|(go_at_call 91;(with_reducible refine (Aan.calls k3 _ _ Ac Ca false _ ?side1 ?side2 A81.out).mono ?_);(case side1=>exact cl_ (Kd.R_reads' HO_6.out).2.2);(case side2=>exact (Kd.R_reads' HO_6.out).2.1);rintro e w95 ⟨C0,rfl,ho0,hb⟩;replace HO_18:=rb_ HO_18 hb;replace Ad:=rb_ Ad hb;replace Ag:=rb_ Ag hb;have Ba:=A_ (Kd.R_lower (Kd.R_new' (Kd.R_new' (Kd.R_new' ho0 (Kd.R_lt (rl_ HO_6))) (Kd.R_lt (rl_ HO_12))) (Kd.R_lt (rl_ Ar))) (below_size bb_));replace HO_6:=A_ (Kd.R_elder' (rl_ HO_6) (Kd.R_base ho0) hb);replace HO_12:=A_ (Kd.R_elder' (rl_ HO_12) (Kd.R_base ho0) hb);replace Ar:=A_ (Kd.R_elder' (rl_ Ar) (Kd.R_base ho0) hb);replace Ae:=bz Ae hb;replace Af:=bz Af hb;replace HB:=A_ (below_step bb_ hb);(try clear hb);(try clear hb2);(try clear hk);(try clear hi);(try clear ho0);have hnb96:=Bx.out;have hnc96:=Bn.out;have hcz97_0 : w95.cell? ⟨Bq,0,none⟩ = some (.int .i64 Al):=blk_cell Af.out 0;have hcz97_1 : w95.cell? ⟨Bq,1,none⟩ = some (.slice Ao33 Ak.length co33):=blk_cell Af.out 1;have hfz97_0:=blk_frozen Af.out 0;have hfz97_1:=blk_frozen Af.out 1;obtain ⟨Ao98,co98,eo98⟩:=Kd.R_slice Ba.out;subst eo98)|(go_at_call 50;(with_reducible refine (Aau.calls k3 _ _ Ca Al _ _ Ak Cp C5 _ ?side1 ?side2 ?side3 ?side4 ?side5 A82.out).mono ?_);(case side1=>exact cl_ (Kd.R_reads' Ba.out).2.2);(case side2=>exact (Kd.R_reads' Ba.out).2.1);(case side3=>exact cl_ (Kd.R_reads' Ag.out).2.2);(case side4=>exact (Kd.R_reads' Ag.out).2.1);(case side5=>first|exact HT.out|exact HT.out.below bb_|(repeat (first|exact HT.out|apply TabOK.drewN|apply TabOK.drew|apply TabOK.alloc)));rintro e w99 ⟨rfl,hb⟩;replace HO_6:=rb_ HO_6 hb;replace HO_12:=rb_ HO_12 hb;replace HO_18:=rb_ HO_18 hb;replace Ar:=rb_ Ar hb;replace Ad:=rb_ Ad hb;replace Ag:=rb_ Ag hb;replace Ba:=rb_ Ba hb;replace Ae:=bz Ae hb;replace Af:=bz Af hb;replace HB:=A_ (below_step bb_ hb);(try clear hb);(try clear hb2);(try clear hk);(try clear hi)));try go_wp2_with (first|(go_at_call 91;(with_reducible refine (Aan.calls k3 _ _ Ac Ca false _ ?side1 ?side2 A81.out).mono ?_);(case side1=>exact cl_ (Kd.R_reads' HO_6.out).2.2);(case side2=>exact (Kd.R_reads' HO_6.out).2.1);rintro e w95 ⟨C0,rfl,ho0,hb⟩;replace HO_18:=rb_ HO_18 hb;replace Ad:=rb_ Ad hb;replace Ag:=rb_ Ag hb;have Ba:=A_ (Kd.R_lower (Kd.R_new' (Kd.R_new' (Kd.R_new' ho0 (Kd.R_lt (rl_ HO_6))) (Kd.R_lt (rl_ HO_12))) (Kd.R_lt (rl_ Ar))) (below_size bb_));replace HO_6:=A_ (Kd.R_elder' (rl_ HO_6) (Kd.R_base ho0) hb);replace HO_12:=A_ (Kd.R_elder' (rl_ HO_12) (Kd.R_base ho0) hb);replace Ar:=A_ (Kd.R_elder' (rl_ Ar) (Kd.R_base ho0) hb);replace Ae:=bz Ae hb;replace Af:=bz Af hb;replace HB:=A_ (below_step bb_ hb);(try clear hb);(try clear hb2);(try clear hk);(try clear hi);(try clear ho0);have hnb96:=Bx.out;have hnc96:=Bn.out;have hcz97_0 : w95.cell? ⟨Bq,0,none⟩ = some (.int .i64 Al):=blk_cell Af.out 0;have hcz97_1 : w95.cell? ⟨Bq,1,none⟩ = some (.slice Ao33 Ak.length co33):=blk_cell Af.out 1;have hfz97_0:=blk_frozen Af.out 0;have hfz97_1:=blk_frozen Af.out 1;obtain ⟨Ao98,co98,eo98⟩:=Kd.R_slice Ba.out;subst eo98)|(go_at_call 50;(with_reducible refine (Aau.calls k3 _ _ Ca Al _ _ Ak Cp C5 _ ?side1 ?side2 ?side3 ?side4 ?side5 A82.out).mono ?_);(case side1=>exact cl_ (Kd.R_reads' Ba.out).2.2);(case side2=>exact (Kd.R_reads' Ba.out).2.1);(case side3=>exact cl_ (Kd.R_reads' Ag.out).2.2);(case side4=>exact (Kd.R_reads' Ag.out).2.1);(case side5=>first|exact HT.out|exact HT.out.below bb_|(repeat (first|exact HT.out|apply TabOK.drewN|apply TabOK.drew|apply TabOK.alloc)));rintro e w99 ⟨rfl,hb⟩;replace HO_6:=rb_ HO_6 hb;replace HO_12:=rb_ HO_12 hb;replace HO_18:=rb_ HO_18 hb;replace Ar:=rb_ Ar hb;replace Ad:=rb_ Ad hb;replace Ag:=rb_ Ag hb;replace Ba:=rb_ Ba hb;replace Ae:=bz Ae hb;replace Af:=bz Af hb;replace HB:=A_ (below_step bb_ hb);(try clear hb);(try clear hb2);(try clear hk);(try clear hi))))
             go_ret
             exact ⟨by first|rfl|(simp [errW_none,errW_some] <;> rfl)|(simp [*,errW_none,errW_some] <;> rfl),bb_⟩
     ·replace c21:=Bool.eq_false_iff.mpr c21;subst c21;have H1 : (some true) = some r:=by rw [if_neg (show ¬ (false = true) by decide)] at H;exact H
      clear H;have H:=H1;clear H1;obtain rfl:=Option.some.inj H;go_wp2
      repeat (go_quiet (fail);try go_wp2)
      go_ret
      exact ⟨by first|rfl|(simp [errW_none,errW_some] <;> rfl)|(simp [*,errW_none,errW_some] <;> rfl),bb_⟩
def Aab.Pure : Prop := ∀ (l0 : List Int) (l1 : List Int), l0.length ≤ maxLen → l0.length * 1 ≤ 140737488351232 → (∀ x ∈ l0, (Lit.int .u8 x).wf = true) → l1.length ≤ maxLen → l1.length * 1 ≤ 140737488351232 → (∀ x ∈ l1, (Lit.int .u8 x).wf = true) → ∃ k, Aab.f k l0 l1 = some true
theorem Aab.walk (P : Aab.Pure) (a0 : Option Addr) (len0 cap0 : Nat) (z0 : List Int) (a1 : Option Addr) (len1 cap1 : Nat) (z1 : List Int) (w : World) (w0 : (a0 = none ∧ len0 = 0 ∧ cap0 = 0 ∧ z0 = []) ∨ ∃ x,a0 = some x ∧ len0 ≤ cap0 ∧ cap0 ≤ maxLen ∧ z0.length = cap0 ∧ (∀ i,i < z0.length → w.cell? (x.add i) = some (.int .u8 (z0.getD i 0))) ∧ ∀ n ∈ z0,(Lit.int .u8 n).wf = true) (y0 : len0 * 1 ≤ 140737488351232) (w1 : (a1 = none ∧ len1 = 0 ∧ cap1 = 0 ∧ z1 = []) ∨ ∃ x,a1 = some x ∧ len1 ≤ cap1 ∧ cap1 ≤ maxLen ∧ z1.length = cap1 ∧ (∀ i,i < z1.length → w.cell? (x.add i) = some (.int .u8 (z1.getD i 0))) ∧ ∀ n ∈ z1,(Lit.int .u8 n).wf = true) (y1 : len1 * 1 ≤ 140737488351232) (hT : TabOK w) :
 Calls Tryd.prog 11 #[.slice a0 len0 cap0,.slice a1 len1 cap1] w fun e w'=>e = .returned (.bool true) ∧ Below w.heap.size w w':=by
 obtain ⟨l0,rfl,hr0,hm0,hw0,hc0⟩:=ReadsInt.ofRowC w0;obtain ⟨l1,rfl,hr1,hm1,hw1,hc1⟩:=ReadsInt.ofRowC w1;obtain ⟨k,h⟩:=P l0 l1 hm0 y0 hw0 hm1 y1 hw1;refine (Aab.calls k _ _ l0 _ _ l1 true w (Kd.C_of_reads (d:=(0 : Int)) (h1:=fun _=>rfl) hr0) hc0 (Kd.C_of_reads (d:=(0 : Int)) (h1:=fun _=>rfl) hr1) hc1 hT h).mono ?_
 rintro e w' ⟨rfl,hd⟩
 exact ⟨rfl,hd⟩
end Go.Proofs.YtimjblnglhmakaaDoor.P
namespace Go.Proofs.YtimjblnglhmakaaDoor.P
open Go.RowKit Go.Proofs.YtimjblnglhmakaaDoorW.PrintWords Go.Proofs.YtimjblnglhmakaaDoorW.PrintLast Go.Proofs.YtimjblnglhmakaaDoorW.PrintMore
open Bool renaming true → T, false → F
open List renaming setIfInBounds_toArray → L_, set_cons_zero → M_, set_cons_succ → N_, map_toArray → P_, map_cons → Q_, map_nil → R_, length_drop → S_, length_take → U_
open Aside0 renaming mk → A_
attribute [local go_sem] max2_int min2_int max_two min_two max_three min_three max_four min_four
set_option linter.unusedVariables false
set_option linter.unusedSimpArgs false
attribute [local go_sem] fldOrder_0 fldOrder_1
attribute [local go_sem high] eqA62
def Ack.l0 : Nat → List (S62) → List (S62) → Int → Int → Option (Bool)
 | 0,_,_,_,_=>none
 | k + 1,x0,x1,x12,x13=>if x13 < x12 then (if 0 ≤ x13 then (if x13 < (x0.length : Int) then (if x13 < (x1.length : Int) then (if (!(((rd_T62 x0 x13).f0) == ((rd_T62 x1 x13).f0)) || (!(((rd_T62 x0 x13).f1) == ((rd_T62 x1 x13).f1)))) = true then (some false) else (Ack.l0 k x0 x1 x12 (wrap64 (x13 + 1)))) else (none)) else (none)) else (none)) else (some true)
end Go.Proofs.YtimjblnglhmakaaDoor.P
namespace Go.Proofs.YtimjblnglhmakaaDoor.P
open Go.RowKit Go.Proofs.YtimjblnglhmakaaDoorW.PrintWords Go.Proofs.YtimjblnglhmakaaDoorW.PrintLast Go.Proofs.YtimjblnglhmakaaDoorW.PrintMore
open Bool renaming true → T, false → F
open List renaming setIfInBounds_toArray → L_, set_cons_zero → M_, set_cons_succ → N_, map_toArray → P_, map_cons → Q_, map_nil → R_, length_drop → S_, length_take → U_
open Aside0 renaming mk → A_
attribute [local go_sem] max2_int min2_int max_two min_two max_three min_three max_four min_four
set_option linter.unusedVariables false
set_option linter.unusedSimpArgs false
attribute [local go_sem] fldOrder_0 fldOrder_1
def Acc.f (k : Nat) (a0_0 : Int) (l0_1 : List Int) (a1 : Int) : Option (Int) := if 0 ≤ a0_0 then (if 0 ≤ a1 then (if a1 < (l0_1.length : Int) then ((Aaz.f k a0_0 l0_1 a1).bind fun t126 => (some (Go.bits .andNot .i64 (wrap64 ((shl .i64 1 a0_0) - 1)) (Go.bits .or .i64 (Go.bits .or .i64 (rd l0_1 a1) t126) (shl .i64 1 a1))))) else (none)) else (none)) else (none)
mutual
def Abr.l0 : Nat → Int → Int → List Int → Option (List Int × Bool)
 | 0,_,_,_=>none
 | k + 1,x4,x128000,x128001=>if x4 < x128000 then (if 0 ≤ x4 then (if x4 < (x128001.length : Int) then ((Aa3.f k (rd x128001 x4)).bind fun t130=>(Abr.l1 k x4 t130 (t130.length : Int) 0 x128000 x128001)) else (none)) else (none)) else (some (([] : List Int),false))
def Abr.l1 : Nat → Int → List Int → Int → Int → Int → List Int → Option (List Int × Bool)
 | 0,_,_,_,_,_,_=>none
 | k + 1,x4,x25,x26,x27,x128000,x128001=>if x27 < x26 then (if 0 ≤ x27 then (if x27 < (x25.length : Int) then (if 0 ≤ (rd x25 x27) then (if (rd x25 x27) < (x128001.length : Int) then ((Aa3.f k (rd x128001 (rd x25 x27))).bind fun t135=>(Abr.l2 k x4 (rd x25 x27) x25 x26 x27 t135 (t135.length : Int) 0 x128000 x128001)) else (none)) else (none)) else (none)) else (none)) else (Abr.l0 k (wrap64 (x4 + 1)) x128000 x128001)
def Abr.l2 : Nat → Int → Int → List Int → Int → Int → List Int → Int → Int → Int → List Int → Option (List Int × Bool)
 | 0,_,_,_,_,_,_,_,_,_,_=>none
 | k + 1,x4,x6,x25,x26,x27,x36,x37,x38,x128000,x128001=>if x38 < x37 then (if 0 ≤ x38 then (if x38 < (x36.length : Int) then ((Acc.f k x128000 x128001 x4).bind fun t139=>((Acc.f k x128000 x128001 x6).bind fun t140=>((Acc.f k x128000 x128001 (rd x36 x38)).bind fun t141=>((Aa3.f k (Go.bits .and .i64 (Go.bits .and .i64 t139 t140) t141)).bind fun t142=>(Abr.l3 k x4 x6 (rd x36 x38) x25 x26 x27 x36 x37 x38 t142 (t142.length : Int) 0 x128000 x128001))))) else (none)) else (none)) else (Abr.l1 k x4 x25 x26 (wrap64 (x27 + 1)) x128000 x128001)
def Abr.l3 : Nat → Int → Int → Int → List Int → Int → Int → List Int → Int → Int → List Int → Int → Int → Int → List Int → Option (List Int × Bool)
 | 0,_,_,_,_,_,_,_,_,_,_,_,_,_,_=>none
 | k + 1,x4,x6,x8,x25,x26,x27,x36,x37,x38,x53,x54,x55,x128000,x128001=>if x55 < x54 then (if 0 ≤ x55 then (if x55 < (x53.length : Int) then (some ((([x4,x6,x8,rd x53 x55] : List Int)),true)) else (none)) else (none)) else (Abr.l2 k x4 x6 x25 x26 x27 x36 x37 (wrap64 (x38 + 1)) x128000 x128001)
end
def Acd.f (k : Nat) (a0_0 : Int) (l0_1 : List Int) (a1 : Int) (a2 : Int) : Option (Bool) := (Acc.f k a0_0 l0_1 a1).bind fun t150 => ((Aap.f t150 a2).bind fun t151 => (some t151))
mutual
def Abo.l0 : Nat → Int → Int → List Int → Option (Bool)
 | 0,_,_,_=>none
 | k + 1,x3,x153000,x153001=>if x3 < x153000 then (if 0 ≤ x3 then (if x3 < (x153001.length : Int) then ((Aa3.f k (rd x153001 x3)).bind fun t154=>(Abo.l1 k x3 t154 (t154.length : Int) 0 x153000 x153001)) else (none)) else (none)) else (some false)
def Abo.l1 : Nat → Int → List Int → Int → Int → Int → List Int → Option (Bool)
 | 0,_,_,_,_,_,_=>none
 | k + 1,x3,x20,x21,x22,x153000,x153001=>if x22 < x21 then (if 0 ≤ x22 then (if x22 < (x20.length : Int) then (Abo.l2 k x3 (rd x20 x22) 0 x20 x21 x22 x153000 x153001) else (none)) else (none)) else (Abo.l0 k (wrap64 (x3 + 1)) x153000 x153001)
def Abo.l2 : Nat → Int → Int → Int → List Int → Int → Int → Int → List Int → Option (Bool)
 | 0,_,_,_,_,_,_,_,_=>none
 | k + 1,x3,x5,x6,x20,x21,x22,x153000,x153001=>if x6 < x153000 then (if 0 ≤ x6 then (if x6 < (x153001.length : Int) then ((Aa3.f k (rd x153001 x6)).bind fun t159=>(Abo.l3 k x3 x5 x6 x20 x21 x22 t159 (t159.length : Int) 0 x153000 x153001)) else (none)) else (none)) else (Abo.l1 k x3 x20 x21 (wrap64 (x22 + 1)) x153000 x153001)
def Abo.l3 : Nat → Int → Int → Int → List Int → Int → Int → List Int → Int → Int → Int → List Int → Option (Bool)
 | 0,_,_,_,_,_,_,_,_,_,_,_=>none
 | k + 1,x3,x5,x6,x20,x21,x22,x37,x38,x39,x153000,x153001=>if x39 < x38 then (if 0 ≤ x39 then (if x39 < (x37.length : Int) then ((Acd.f k x153000 x153001 x3 (rd x37 x39)).bind fun t163=>(if t163 = true then ((Acd.f k x153000 x153001 x6 x5).bind fun t164=>(if t164 = true then (some true) else (Abo.l3 k x3 x5 x6 x20 x21 x22 x37 x38 (wrap64 (x39 + 1)) x153000 x153001))) else (Abo.l3 k x3 x5 x6 x20 x21 x22 x37 x38 (wrap64 (x39 + 1)) x153000 x153001))) else (none)) else (none)) else (Abo.l2 k x3 x5 (wrap64 (x6 + 1)) x20 x21 x22 x153000 x153001)
end
def Aci.f (a0_0 : Int) (l0_1 : List Int) : Option (Int) := if 0 ≤ a0_0 then (some (wrap64 ((shl .i64 1 a0_0) - 1))) else (none)
def Acg.l0 : Nat → List Int → Int → Int → Int → List Int → Int → List Int → Option (List Int)
 | 0,_,_,_,_,_,_,_=>none
 | k + 1,x3,x10,x11,x300000,x300001,x308000,x308001=>if x11 < x10 then ((Aci.f x300000 x300001).bind fun t308=>(if 0 ≤ x11 then (if x11 < (x300001.length : Int) then (if x11 < (x308001.length : Int) then (if x3.length < 17592186044416 then (Acg.l0 k (x3 ++ [Go.bits .andNot .i64 (Go.bits .andNot .i64 (Go.bits .andNot .i64 t308 (rd x300001 x11)) (rd x308001 x11)) (shl .i64 1 x11)]) x10 (wrap64 (x11 + 1)) x300000 x300001 x308000 x308001) else (none)) else (none)) else (none)) else (none))) else (some x3)
mutual
def Abq.l0 : Nat → List Int → Int → Int → Int → List Int → Option (List Int)
 | 0,_,_,_,_,_=>none
 | k + 1,x3,x13,x14,x315000,x315001=>if x14 < x13 then (if 0 ≤ x14 then (if x14 < (x315001.length : Int) then ((Aa7.f k (rd x315001 x14)).bind fun t319=>(Abq.l1 k x3 x14 x13 x14 t319 (t319.length : Int) 0 x315000 x315001)) else (none)) else (none)) else (some ([] : List Int))
def Abq.l1 : Nat → List Int → Int → Int → Int → List Int → Int → Int → Int → List Int → Option (List Int)
 | 0,_,_,_,_,_,_,_,_,_=>none
 | k + 1,x3,x4,x13,x14,x22,x23,x24,x315000,x315001=>if x24 < x23 then (if 0 ≤ x24 then (if x24 < (x22.length : Int) then (if 0 ≤ (rd x22 x24) then (if (rd x22 x24) < (x315001.length : Int) then ((Aa7.f k (rd x315001 (rd x22 x24))).bind fun t324=>(Abq.l2 k x3 x4 (rd x22 x24) x13 x14 x22 x23 x24 t324 (t324.length : Int) 0 x315000 x315001)) else (none)) else (none)) else (none)) else (none)) else (Abq.l0 k x3 x13 (wrap64 (x14 + 1)) x315000 x315001)
def Abq.l2 : Nat → List Int → Int → Int → Int → Int → List Int → Int → Int → List Int → Int → Int → Int → List Int → Option (List Int)
 | 0,_,_,_,_,_,_,_,_,_,_,_,_,_=>none
 | k + 1,x3,x4,x6,x13,x14,x22,x23,x24,x33,x34,x35,x315000,x315001=>if x35 < x34 then (if 0 ≤ x35 then (if x35 < (x33.length : Int) then (if 0 ≤ x4 then (if x4 < (x3.length : Int) then (if 0 ≤ x6 then (if x6 < (x3.length : Int) then (if 0 ≤ (rd x33 x35) then (if (rd x33 x35) < (x3.length : Int) then (if (Go.bits .and .i64 (Go.bits .and .i64 (rd x3 x4) (rd x3 x6)) (rd x3 (rd x33 x35))) = 0 then (Abq.l2 k x3 x4 x6 x13 x14 x22 x23 x24 x33 x34 (wrap64 (x35 + 1)) x315000 x315001) else ((Aa7.f k (Go.bits .and .i64 (Go.bits .and .i64 (rd x3 x4) (rd x3 x6)) (rd x3 (rd x33 x35)))).bind fun t331=>(if 0 < (t331.length : Int) then (some (([x4,x6,rd x33 x35,rd t331 0] : List Int))) else (none)))) else (none)) else (none)) else (none)) else (none)) else (none)) else (none)) else (none)) else (none)) else (Abq.l1 k x3 x4 x13 x14 x22 x23 (wrap64 (x24 + 1)) x315000 x315001)
end
theorem Abx.nilAt {P : Program} (w : World) (d : Nat) (t e : TypeId) (a : Option Addr) (l c : Nat) (h : P.underlying t = some (.slice e)) : (Op.equalIn (d + 1) t (.slice a l c) (.slice none 0 0)).run P w = .ok a.isNone w:=by
 cases a <;> simp [Op.equalIn,run_underlying h]
theorem Abx.nilOf {P : Program} (w : World) (t e : TypeId) (a : Option Addr) (l c : Nat) (h : P.underlying t = some (.slice e)) : (binOp .eql t (.slice a l c) (.slice none 0 0)).run P w = .ok (.bool a.isNone) w:=by
 have h1 : (Op.equal t (.slice a l c) (.slice none 0 0)).run P w = .ok a.isNone w:=Abx.nilAt w 9999 t e a l c h;simp [binOp,h1]
theorem Abx.nilNo {P : Program} (w : World) (t e : TypeId) (a : Option Addr) (l c : Nat) (h : P.underlying t = some (.slice e)) : (binOp .neq t (.slice a l c) (.slice none 0 0)).run P w = .ok (.bool (!a.isNone)) w:=by
 have h1 : (Op.equal t (.slice a l c) (.slice none 0 0)).run P w = .ok a.isNone w:=Abx.nilAt w 9999 t e a l c h;simp [binOp,h1]
theorem Abx.nilE (w : World) (a : Option Addr) (l c : Nat) : (binOp .eql 22 (.slice a l c) (.slice none 0 0)).run Tryd.prog w = .ok (.bool a.isNone) w:=Abx.nilOf w _ _ a l c Tryd.underlying22
theorem Abx.nilN (w : World) (a : Option Addr) (l c : Nat) : (binOp .neq 22 (.slice a l c) (.slice none 0 0)).run Tryd.prog w = .ok (.bool (!a.isNone)) w:=Abx.nilNo w _ _ a l c Tryd.underlying22
attribute [local go_sem] Abx.nilE Abx.nilN
def Acm.l0 : Nat → List Int → List Int → Int → Int → Option (Bool)
 | 0,_,_,_,_=>none
 | k + 1,x0,x1,x12,x13=>if x13 < x12 then (if 0 ≤ x13 then (if x13 < (x0.length : Int) then (if x13 < (x1.length : Int) then (if (rd x0 x13) = (rd x1 x13) then (Acm.l0 k x0 x1 x12 (wrap64 (x13 + 1))) else (some false)) else (none)) else (none)) else (none)) else (some true)

end Go.Proofs.YtimjblnglhmakaaDoor.P
namespace Go.Proofs.YtimjblnglhmakaaDoor.P
open Go.RowKit Go.Proofs.YtimjblnglhmakaaDoorW.PrintWords Go.Proofs.YtimjblnglhmakaaDoorW.PrintLast Go.Proofs.YtimjblnglhmakaaDoorW.PrintMore
open Bool renaming true → T, false → F
open List renaming setIfInBounds_toArray → L_, set_cons_zero → M_, set_cons_succ → N_, map_toArray → P_, map_cons → Q_, map_nil → R_, length_drop → S_, length_take → U_
open Aside0 renaming mk → A_
attribute [local go_sem] max2_int min2_int max_two min_two max_three min_three max_four min_four
set_option linter.unusedVariables false
set_option linter.unusedSimpArgs false
attribute [local go_sem] fldOrder_0 fldOrder_1
def Acl.l0 : Nat → Int → Int → Int → List Int → Int → List Int → Option (Int × List Int)
 | 0,_,_,_,_,_,_=>none
 | k + 1,x10,x11,x868000,x868001,x870000,x870001=>if x11 < x10 then ((Aaz.f k x868000 x868001 x11).bind fun t870=>(if x870001.length < 17592186044416 then (Acl.l0 k x10 (wrap64 (x11 + 1)) x868000 x868001 x870000 (x870001 ++ [t870])) else (none))) else (some (x870000,x870001))
end Go.Proofs.YtimjblnglhmakaaDoor.P
namespace Go.Proofs.YtimjblnglhmakaaDoor.M
open Go.RowKit Go.Proofs.YtimjblnglhmakaaDoorW.PrintMore Go.Proofs.YtimjblnglhmakaaDoorW.PrintLast Go.Proofs.YtimjblnglhmakaaDoorW.PrintWords
theorem i64_small (n : Nat) (h : n < 9223372036854775808) : IntKind.i64.wrap (n : Int) = (n : Int) := by
  simp [IntKind.wrap, IntKind.signed, IntKind.bits]
  omega
theorem wrap64_id (x : Int) (h0 : -9223372036854775808 ≤ x) (h1 : x ≤ 9223372036854775807) : wrap64 x = x := by
  unfold wrap64
  omega
theorem ofInt64 (a : Nat) (ha : a < 18446744073709551616) : (BitVec.ofInt 64 (a : Int)).toNat = a := by
  rw [BitVec.ofInt_natCast, BitVec.toNat_ofNat]; exact Nat.mod_eq_of_lt (by omega)
theorem and_i64 (a b : Nat) (ha : a < 9223372036854775808) (hb : b < 9223372036854775808) : Go.bits .and .i64 (a : Int) (b : Int) = ((a &&& b : Nat) : Int) := by
  have hx : a &&& b < 2 ^ 63 := Nat.and_lt_two_pow _ (by omega)
  show IntKind.i64.wrap ((BitVec.ofInt 64 (a : Int) &&& BitVec.ofInt 64 (b : Int)).toNat : Int) = _
  rw [BitVec.toNat_and, ofInt64 a (by omega), ofInt64 b (by omega), i64_small _ (by omega)]
theorem or_i64 (a b : Nat) (ha : a < 9223372036854775808) (hb : b < 9223372036854775808) : Go.bits .or .i64 (a : Int) (b : Int) = ((a ||| b : Nat) : Int) := by
  have hx : a ||| b < 2 ^ 63 := Nat.or_lt_two_pow (by omega) (by omega)
  show IntKind.i64.wrap ((BitVec.ofInt 64 (a : Int) ||| BitVec.ofInt 64 (b : Int)).toNat : Int) = _
  rw [BitVec.toNat_or, ofInt64 a (by omega), ofInt64 b (by omega), i64_small _ (by omega)]
def diff (a b : Nat) : Nat := a &&& (a ^^^ b)
theorem testBit_diff (a b i : Nat) : (diff a b).testBit i = (a.testBit i && !b.testBit i) := by
  unfold diff
  rw [Nat.testBit_and, Nat.testBit_xor]
  cases a.testBit i <;> cases b.testBit i <;> rfl
theorem andNot_i64 (a b : Nat) (ha : a < 9223372036854775808) (hb : b < 9223372036854775808) : Go.bits .andNot .i64 (a : Int) (b : Int) = ((diff a b : Nat) : Int) := by
  have hx : diff a b < 2 ^ 63 := Nat.lt_of_le_of_lt Nat.and_le_left (by omega)
  show IntKind.i64.wrap ((BitVec.ofInt 64 (a : Int) &&& ~~~ BitVec.ofInt 64 (b : Int)).toNat : Int) = _
  have e : (BitVec.ofInt 64 (a : Int) &&& ~~~ BitVec.ofInt 64 (b : Int)).toNat = diff a b := by
    apply Nat.eq_of_testBit_eq
    intro i
    rw [BitVec.toNat_and, Nat.testBit_and, testBit_diff, ofInt64 a (by omega)]
    by_cases hi : i < 64
    · rw [show (~~~ BitVec.ofInt 64 (b : Int)).toNat.testBit i = !(BitVec.ofInt 64 (b : Int)).toNat.testBit i from by
        rw [BitVec.testBit_toNat, BitVec.testBit_toNat, BitVec.getLsbD_not]; simp [hi], ofInt64 b (by omega)]
    · rw [Nat.testBit_lt_two_pow (x := a) (i := i) (Nat.lt_of_lt_of_le (by omega : a < 2 ^ 64) (Nat.pow_le_pow_right (by decide) (by omega)))]
      rfl
  rw [e, i64_small _ (by omega)]
theorem shl1 (j : Nat) (h : j ≤ 62) : shl .i64 1 (j : Int) = ((2 ^ j : Nat) : Int) := by
  unfold shl
  have h2 : (2 : Nat) ^ j < 9223372036854775808 := Nat.lt_of_le_of_lt (Nat.pow_le_pow_right (by decide) h) (by decide)
  rw [Int.toNat_natCast, Nat.min_eq_left (by show j ≤ 64; omega), Int.one_mul]
  have := i64_small (2 ^ j) h2
  rwa [Int.natCast_pow] at this ⊢
theorem shr_nat (a j : Nat) (h : j ≤ 64) : shr .i64 (a : Int) (j : Int) = ((a / 2 ^ j : Nat) : Int) := by
  unfold shr
  rw [Int.toNat_natCast, Nat.min_eq_left (by exact h)]
  simp
def bit (s : Int) (j : Nat) : Bool := s.toNat.testBit j
theorem bit_cast (a j : Nat) : bit (a : Int) j = a.testBit j := by simp [bit]
theorem and_one (a : Nat) (j : Nat) : ((a / 2 ^ j) &&& 1 : Nat) = if a.testBit j then 1 else 0 := by
  rw [Nat.and_one_is_mod, Nat.testBit_eq_decide_div_mod_eq]
  rcases Nat.mod_two_eq_zero_or_one (a / 2 ^ j) with h | h <;> simp [h]
theorem has_and (s : Int) (j : Nat) (h0 : 0 ≤ s) (h1 : s < 9223372036854775808) (hj : j ≤ 64) : (Go.bits .and .i64 (shr .i64 s (j : Int)) 1 == 1) = bit s j := by
  obtain ⟨a, rfl⟩ := Int.eq_ofNat_of_zero_le h0
  have hl : a / 2 ^ j < 9223372036854775808 := Nat.lt_of_le_of_lt (Nat.div_le_self _ _) (by omega)
  rw [shr_nat a j hj, show (1 : Int) = ((1 : Nat) : Int) from rfl, and_i64 _ 1 hl (by decide), and_one, bit_cast]
  cases a.testBit j <;> rfl
theorem has_mod (s : Int) (j : Nat) (h0 : 0 ≤ s) (hj : j ≤ 64) : (Int.tmod (shr .i64 s (j : Int)) 2 == 1) = bit s j := by
  obtain ⟨a, rfl⟩ := Int.eq_ofNat_of_zero_le h0
  rw [shr_nat a j hj, bit_cast, Nat.testBit_eq_decide_div_mod_eq, Int.tmod_eq_emod_of_nonneg (Int.natCast_nonneg _)]
  rcases Nat.mod_two_eq_zero_or_one (a / 2 ^ j) with h | h
  · rw [show ((a / 2 ^ j : Nat) : Int) % 2 = 0 from by omega]; simp [h]
  · rw [show ((a / 2 ^ j : Nat) : Int) % 2 = 1 from by omega]; simp [h]
def setOf : Nat → (Nat → Bool) → Nat
  | 0, _ => 0
  | n + 1, q => setOf n q ||| (if q n then 2 ^ n else 0)
theorem testBit_setOf (n : Nat) (q : Nat → Bool) (j : Nat) : (setOf n q).testBit j = (decide (j < n) && q j) := by
  induction n with
  | zero => simp [setOf]
  | succ n ih =>
    unfold setOf
    rw [Nat.testBit_or, ih]
    by_cases hq : q n
    · rw [if_pos hq, Nat.testBit_two_pow]
      by_cases h : n = j
      · subst h; simp [hq]
      · have : (j < n + 1) ↔ j < n := by omega
        simp [h, this]
    · rw [if_neg hq]
      by_cases h : n = j
      · subst h; simp [hq]
      · have : (j < n + 1) ↔ j < n := by omega
        simp [this]
theorem setOf_lt (n : Nat) (q : Nat → Bool) : setOf n q < 2 ^ n := by
  induction n with
  | zero => simp [setOf]
  | succ n ih =>
    unfold setOf
    have h1 : setOf n q < 2 ^ (n + 1) := Nat.lt_of_lt_of_le ih (Nat.pow_le_pow_right (by decide) (by omega))
    refine Nat.or_lt_two_pow h1 ?_
    split
    · exact Nat.pow_lt_pow_right (by decide) (by omega)
    · exact Nat.two_pow_pos _
theorem lt62 {n s : Nat} (h : s < 2 ^ n) (hn : n ≤ 62) : s < 9223372036854775808 := Nat.lt_of_lt_of_le h (Nat.le_trans (Nat.pow_le_pow_right (by decide) hn) (by decide))
theorem setOf_62 (n : Nat) (q : Nat → Bool) (hn : n ≤ 62) : setOf n q < 9223372036854775808 := lt62 (setOf_lt n q) hn
end Go.Proofs.YtimjblnglhmakaaDoor.M
namespace Go.Proofs.YtimjblnglhmakaaDoor.M
open Go.RowKit Go.Proofs.YtimjblnglhmakaaDoorW.PrintMore Go.Proofs.YtimjblnglhmakaaDoorW.PrintLast Go.Proofs.YtimjblnglhmakaaDoorW.PrintWords
theorem Ev.up {α : Type} {r : α} (G : Nat → Nat → Option α) (n : Nat) (step : ∀ i, i < n → Ev (G (i + 1)) r → Ev (G i) r) (stop : Ev (G n) r) : Ev (G 0) r := by
  have key : ∀ m, m ≤ n → Ev (G (n - m)) r := by
    intro m
    induction m with
    | zero => intro _; exact stop
    | succ m ih =>
      intro hm
      have h := step (n - (m + 1)) (by omega)
      rw [show n - (m + 1) + 1 = n - m from by omega] at h
      exact h (ih (by omega))
  have := key n (Nat.le_refl _)
  rwa [Nat.sub_self] at this
theorem Ev.from {α : Type} {r : α} (G : Nat → Nat → Option α) (n i : Nat) (hi : i ≤ n) (step : ∀ i, i < n → Ev (G (i + 1)) r → Ev (G i) r) (stop : Ev (G n) r) : Ev (G i) r := by
  have h := Ev.up (fun j => G (i + j)) (n - i) (fun j hj h => step (i + j) (by omega) h) (by rw [show i + (n - i) = n from by omega]; exact stop)
  exact h
def allB (n : Nat) (p : Nat → Bool) : Bool := (List.range n).all p
theorem allB_iff {n : Nat} {p : Nat → Bool} : allB n p = true ↔ ∀ j, j < n → p j = true := by simp [allB]
theorem allB_false {n : Nat} {p : Nat → Bool} : allB n p = false ↔ ∃ j, j < n ∧ p j = false := by simp [allB]
theorem least_false {n : Nat} {p : Nat → Bool} (h : ∃ j, j < n ∧ p j = false) : ∃ j, j < n ∧ p j = false ∧ ∀ i, i < j → p i = true := by
  obtain ⟨j, hj, hp⟩ := h
  induction j using Nat.strongRecOn with
  | _ j ih =>
    by_cases hl : ∃ i, i < j ∧ p i = false
    · obtain ⟨i, hi, hpi⟩ := hl
      exact ih i hi (by omega) hpi
    · refine ⟨j, hj, hp, fun i hi => ?_⟩
      cases hc : p i with
      | true => rfl
      | false => exact absurd ⟨i, hi, hc⟩ hl
theorem Ev.all (G : Nat → Nat → Option Bool) (n : Nat) (p : Nat → Bool) (yes : ∀ i r, i < n → p i = true → Ev (G (i + 1)) r → Ev (G i) r) (no : ∀ i, i < n → p i = false → Ev (G i) false) (stop : Ev (G n) true) :
    Ev (G 0) (allB n p) := by
  cases h : allB n p with
  | true =>
    have h := allB_iff.1 h
    exact Ev.up G n (fun i hi => yes i true hi (h i hi)) stop
  | false =>
    obtain ⟨j, hj, hp, hl⟩ := least_false (allB_false.1 h)
    exact Ev.up G j (fun i hi => yes i false (by omega) (hl i hi)) (no j hj hp)
theorem Ev.const {α : Type} {x : Option α} {r : α} (h : x = some r) : Ev (fun _ => x) r := ⟨0, fun _ _ => h⟩
theorem Ev.to {α : Type} {g : Nat → Option α} {r r' : α} (h : Ev g r) (e : r = r') : Ev g r' := e ▸ h
theorem rd_nat (l : List Int) (i : Nat) : rd l (i : Int) = l.getD i 0 := by simp [rd]
theorem rd_get (l : List Int) (i : Nat) (h : i < l.length) : rd l (i : Int) = l[i] := by simp [rd, h]
theorem next64 (i n : Nat) (h : i < n) (hn : n ≤ 140737488355328) : wrap64 ((i : Int) + 1) = ((i + 1 : Nat) : Int) := by unfold wrap64; omega
theorem list_ext_getD {l l' : List Int} (hl : l.length = l'.length) (h : ∀ i, i < l.length → l.getD i 0 = l'.getD i 0) : l = l' := by
  apply List.ext_getElem hl
  intro i h1 h2
  have := h i h1
  simpa [h1, h2] using this
def EvP {α : Type} (g : Nat → Option α) (φ : α → Prop) (S : Prop) : Prop := ∃ r, Ev g r ∧ (φ r ↔ S)
theorem EvP.now {α : Type} {φ : α → Prop} {S : Prop} {r : α} (h : φ r ↔ S) : EvP (fun _ => some r) φ S := ⟨r, Ev.now r, h⟩
theorem EvP.step {α : Type} {g f : Nat → Option α} {φ : α → Prop} {S : Prop} (h : ∀ k, g (k + 1) = f k) (k : EvP f φ S) : EvP g φ S := by
  obtain ⟨r, hr, e⟩ := k
  exact ⟨r, Ev.step h hr, e⟩
theorem EvP.iff {α : Type} {g : Nat → Option α} {φ : α → Prop} {S S' : Prop} (h : EvP g φ S) (e : S ↔ S') : EvP g φ S' := by
  obtain ⟨r, hr, h⟩ := h
  exact ⟨r, hr, h.trans e⟩
theorem EvP.loop {α : Type} {φ : α → Prop} (G : Nat → Nat → Option α) (n : Nat) (S : Nat → Prop) (Rest : Prop) (step : ∀ i T, i < n → EvP (G (i + 1)) φ T → EvP (G i) φ (S i ∧ T)) (stop : EvP (G n) φ Rest) : EvP (G 0) φ ((∀ i, i < n → S i) ∧ Rest) := by
  have key : ∀ m, m ≤ n → EvP (G (n - m)) φ ((∀ i, n - m ≤ i → i < n → S i) ∧ Rest) := by
    intro m
    induction m with
    | zero => intro _; exact EvP.iff stop ⟨fun h => ⟨fun i h1 h2 => by omega, h⟩, fun h => h.2⟩
    | succ m ih =>
      intro hm
      have h := ih (by omega)
      rw [show n - m = n - (m + 1) + 1 by omega] at h
      refine EvP.iff (step (n - (m + 1)) _ (by omega) h) ?_
      constructor
      · rintro ⟨h1, h2, h3⟩
        refine ⟨fun i hi hn => ?_, h3⟩
        by_cases e : i = n - (m + 1)
        · rw [e]; exact h1
        · exact h2 i (by omega) hn
      · rintro ⟨h1, h2⟩
        exact ⟨h1 _ (Nat.le_refl _) (by omega), fun i hi hn => h1 i (by omega) hn, h2⟩
  have := key n (Nat.le_refl _)
  rw [Nat.sub_self] at this
  exact EvP.iff this ⟨fun ⟨h, r⟩ => ⟨fun i hi => h i (Nat.zero_le _) hi, r⟩, fun ⟨h, r⟩ => ⟨fun i _ hi => h i hi, r⟩⟩
end Go.Proofs.YtimjblnglhmakaaDoor.M
namespace Go.Proofs.YtimjblnglhmakaaDoor.M
open Go.RowKit Go.Proofs.YtimjblnglhmakaaDoorW.PrintMore Go.Proofs.YtimjblnglhmakaaDoorW.PrintLast Go.Proofs.YtimjblnglhmakaaDoorW.PrintWords Go.Proofs.YtimjblnglhmakaaDoor.P
def elems (n s : Nat) : List Nat := (List.range n).filter fun j => s.testBit j
theorem mem_elems {n s j : Nat} : j ∈ elems n s ↔ j < n ∧ s.testBit j = true := by simp [elems]
theorem elems_zero (n : Nat) : elems n 0 = [] := by simp [elems]
def ints (l : List Nat) : List Int := l.map fun (j : Nat) => (j : Int)
theorem ints_length (l : List Nat) : (ints l).length = l.length := by simp [ints]
theorem elems_length_le (n s : Nat) : (elems n s).length ≤ n := by
  unfold elems
  exact Nat.le_trans (List.length_filter_le _ _) (by simp)
theorem filter_range_split (n c : Nat) (h : c < n) (p : Nat → Bool) : (List.range n).filter p = (List.range c).filter p ++ ((if p c then [c] else []) ++ (List.range' (c + 1) (n - (c + 1))).filter p) := by
  have e : List.range n = List.range c ++ ([c] ++ List.range' (c + 1) (n - (c + 1))) := by
    rw [List.range_eq_range', List.range_eq_range']
    have h1 : n = c + (1 + (n - (c + 1))) := by omega
    have e1 : List.range' 0 n = List.range' 0 c ++ List.range' c (1 + (n - (c + 1))) := by
      have := List.range'_append_1 (s := 0) (m := c) (n := 1 + (n - (c + 1)))
      rw [Nat.zero_add] at this
      rw [this, ← h1]
    rw [e1, Nat.add_comm 1, List.range'_succ]
    rfl
  rw [e, List.filter_append, List.filter_append]
  congr 1
  cases hp : p c <;> simp [hp]
theorem elems_least (n s c m : Nat) (hs : s = 2 ^ c * (2 * m + 1)) (hn : s < 2 ^ n) : elems n s = c :: elems n (s &&& (s - 1)) := by
  have hp : 0 < 2 ^ c := Nat.two_pow_pos c
  have e1 : s - 1 = 2 ^ (c + 1) * m + (2 ^ c - 1) := by
    have a1 : 2 ^ c * (2 * m + 1) = 2 ^ (c + 1) * m + 2 ^ c := by rw [Nat.pow_succ, Nat.mul_add, Nat.mul_assoc]; simp
    omega
  have hb : ∀ j, s.testBit j = if j < c then false else if j = c then true else m.testBit (j - (c + 1)) := by
    intro j
    rw [hs, Nat.mul_comm, Nat.testBit_mul_two_pow]
    by_cases h1 : j < c
    · rw [if_pos h1]; simp; omega
    · rw [if_neg h1]
      by_cases h2 : j = c
      · subst h2; simp
      · rw [if_neg h2]
        obtain ⟨d, rfl⟩ : ∃ d, j = c + (d + 1) := ⟨j - c - 1, by omega⟩
        rw [show c + (d + 1) - c = d + 1 from by omega, show c + (d + 1) - (c + 1) = d from by omega, Nat.testBit_succ, show (2 * m + 1) / 2 = m from by omega]
        simp
  have hb1 : ∀ j, (s - 1).testBit j = if j < c then true else if j = c then false else m.testBit (j - (c + 1)) := by
    intro j
    rw [e1, Nat.testBit_two_pow_mul_add m (by have : 2 ^ c < 2 ^ (c + 1) := Nat.pow_lt_pow_right (by decide) (by omega); omega)]
    by_cases h1 : j < c
    · rw [if_pos (by omega), if_pos h1, Nat.testBit_two_pow_sub_one]; simp [h1]
    · rw [if_neg h1]
      by_cases h2 : j = c
      · subst h2; rw [if_pos (by omega), if_pos rfl, Nat.testBit_two_pow_sub_one]; simp
      · rw [if_neg (by omega), if_neg h2]
  have hb2 : ∀ j, (s &&& (s - 1)).testBit j = if j ≤ c then false else s.testBit j := by
    intro j
    rw [Nat.testBit_and, hb, hb1]
    by_cases h1 : j < c
    · simp [h1, Nat.le_of_lt h1]
    · by_cases h2 : j = c
      · simp [h2]
      · rw [if_neg h1, if_neg h1, if_neg h2, if_neg h2, if_neg (by omega)]; simp
  have hc : c < n := by
    apply Nat.lt_of_not_le
    intro hle
    have h1 : 2 ^ n ≤ 2 ^ c := Nat.pow_le_pow_right (by decide) hle
    have h2 : 2 ^ c ≤ s := by rw [hs]; exact Nat.le_mul_of_pos_right _ (by omega)
    omega
  unfold elems
  rw [filter_range_split n c hc, filter_range_split n c hc (fun j => (s &&& (s - 1)).testBit j)]
  have z1 : (List.range c).filter (fun j => s.testBit j) = [] := by
    rw [List.filter_eq_nil_iff]; intro j hj; simp at hj; rw [hb, if_pos hj]; simp
  have z2 : (List.range c).filter (fun j => (s &&& (s - 1)).testBit j) = [] := by
    rw [List.filter_eq_nil_iff]; intro j hj; simp at hj; rw [hb2, if_pos (by omega)]; simp
  have z3 : (List.range' (c + 1) (n - (c + 1))).filter (fun j => s.testBit j) = (List.range' (c + 1) (n - (c + 1))).filter (fun j => (s &&& (s - 1)).testBit j) := by
    apply List.filter_congr
    intro j hj
    rw [List.mem_range'] at hj
    obtain ⟨i, hi, rfl⟩ := hj
    rw [hb2, if_neg (by omega)]
  have y1 : s.testBit c = true := by rw [hb, if_neg (by omega), if_pos rfl]
  have y2 : (s &&& (s - 1)).testBit c = false := by rw [hb2, if_pos (Nat.le_refl _)]
  rw [z1, z2, z3, if_pos y1, y2]
  rfl
theorem and_pred_lt (s : Nat) (h : s ≠ 0) : s &&& (s - 1) < s := Nat.lt_of_le_of_lt Nat.and_le_right (by omega)
theorem u64_small (n : Nat) (h : n < 18446744073709551616) : IntKind.u64.wrap (n : Int) = (n : Int) := by
  simp [IntKind.wrap, IntKind.signed, IntKind.bits]
  omega
theorem members_ev (n : Nat) (hn : n ≤ 62) (s : Nat) (hs : s < 2 ^ n) : Ev (fun k => Aa7.f k (s : Int)) (ints (elems n s)) := by
  have key : ∀ d s, s ≤ d → s < 2 ^ n → ∀ acc : List Int, acc.length + (elems n s).length ≤ 64 → Ev (fun k => Aa7.l0 k (s : Int) acc) (acc ++ ints (elems n s)) := by
    intro d
    induction d with
    | zero =>
      intro s h0 _ acc _
      obtain rfl : s = 0 := by omega
      refine Ev.step (fun _ => rfl) ?_
      simp only [Aa7.l0, Int.natCast_zero, if_true]
      rw [elems_zero]
      simpa [ints] using Ev.now acc
    | succ d ih =>
      intro s h0 hs acc ha
      by_cases hz : s = 0
      · exact ih s (by omega) hs acc ha
      · have hs2 := lt62 hs hn
        obtain ⟨m, hm, hk⟩ := Lib.ctzFrom_spec 64 s (by omega) (by omega)
        have he := elems_least n s _ m hm hs
        have hl : (elems n s).length = (elems n (s &&& (s - 1))).length + 1 := by rw [he]; rfl
        refine Ev.step (fun _ => rfl) ?_
        have hc : Lib.ctz 64 s = Lib.ctzFrom 64 s := by unfold Lib.ctz; rw [if_neg hz]
        have e1 : Abv.f (IntKind.u64.wrap (s : Int)) = some ((Lib.ctzFrom 64 s : Nat) : Int) := by
          rw [u64_small s (by omega)]
          unfold Abv.f Abn.f
          rw [if_pos ⟨by omega, by omega⟩, Int.toNat_natCast, hc]
          rfl
        have e2 : Go.bits .and .i64 (s : Int) (wrap64 ((s : Int) - 1)) = ((s &&& (s - 1) : Nat) : Int) := by
          rw [show wrap64 ((s : Int) - 1) = ((s - 1 : Nat) : Int) from by unfold wrap64; omega]
          exact and_i64 _ _ (by omega) (by omega)
        simp only [Aa7.l0, if_neg (show ¬ (s : Int) = 0 by omega), e1, Option.bind_some, if_pos (show acc.length < 17592186044416 by omega), e2]
        have := ih (s &&& (s - 1)) (by have := and_pred_lt s hz; omega) (Nat.lt_of_le_of_lt Nat.and_le_left hs) (acc ++ [((Lib.ctzFrom 64 s : Nat) : Int)]) (by simp; omega)
        refine Ev.to this ?_
        rw [he]
        simp [ints]
  have h := key s s (Nat.le_refl _) hs [] (by have := elems_length_le n s; simp; omega)
  exact h
theorem orHas_eq (s : Nat) (j : Nat) (hj : j ≤ 64) : Aap.f (s : Int) (j : Int) = some (s.testBit j) := by
  unfold Aap.f
  rw [if_pos (by omega), has_mod _ _ (by omega) hj, bit_cast]
theorem orList_ev (n : Nat) (hn : n ≤ 62) (s : Nat) (hs : s < 2 ^ n) : Ev (fun k => Aa3.f k (s : Int)) (ints (elems n s)) := by
  -- up to the place behind the last element
  obtain ⟨t, ht, hlt, hgt⟩ : ∃ t, t ≤ n ∧ s / 2 ^ t = 0 ∧ ∀ i, i < t → 0 < s / 2 ^ i := by
    refine ⟨(if s = 0 then 0 else Nat.log2 s + 1), ?_, ?_, ?_⟩
    · split
      · omega
      · rename_i h
        have := (Nat.log2_lt h (k := n)).2 hs
        omega
    · split
      · rename_i h; simp [h]
      · exact Nat.div_eq_of_lt (Nat.lt_log2_self)
    · intro i hi
      split at hi
      · omega
      · rename_i h
        apply Nat.div_pos _ (Nat.two_pow_pos _)
        exact Nat.le_trans (Nat.pow_le_pow_right (by decide) (by omega : i ≤ Nat.log2 s)) (Nat.log2_self_le h)
  have hs2 := lt62 hs hn
  have hsplit : elems n s = elems t s := by
    unfold elems
    have e : List.range n = List.range t ++ List.range' t (n - t) := by
      rw [List.range_eq_range', List.range_eq_range']
      have := List.range'_append_1 (s := 0) (m := t) (n := n - t)
      rw [Nat.zero_add] at this
      rw [this]
      congr 1
      omega
    rw [e, List.filter_append]
    have z : (List.range' t (n - t)).filter (fun j => s.testBit j) = [] := by
      rw [List.filter_eq_nil_iff]
      intro j hj
      rw [List.mem_range'] at hj
      obtain ⟨i, hi, rfl⟩ := hj
      have h1 : s < 2 ^ t := by
        rcases Nat.div_eq_zero_iff.1 hlt with h | h
        · exact absurd h (Nat.ne_of_gt (Nat.two_pow_pos _))
        · exact h
      rw [Nat.testBit_lt_two_pow (Nat.lt_of_lt_of_le h1 (Nat.pow_le_pow_right (by decide) (by omega)))]
      simp
    rw [z, List.append_nil]
  rw [hsplit]
  unfold Aa3.f
  refine Ev.up (fun i k => Aa3.l0 k (s : Int) (ints (elems i s)) (i : Int)) t ?_ ?_
  · intro i hi h
    refine Ev.step (fun _ => rfl) ?_
    have e1 : shr .i64 (s : Int) (i : Int) > 0 := by rw [shr_nat s i (by omega)]; have := hgt i hi; omega
    have hlen := elems_length_le i s
    have e2 : elems (i + 1) s = elems i s ++ (if s.testBit i then [i] else []) := by
      unfold elems
      rw [List.range_succ, List.filter_append]
      congr 1
      cases hb2 : s.testBit i <;> simp [hb2]
    simp only [Aa3.l0, if_pos (show (0 : Int) ≤ (i : Int) by omega), if_pos e1, orHas_eq s i (by omega), Option.bind_some, next64 i t hi (by omega)]
    rw [e2] at h
    cases hb : s.testBit i with
    | true =>
      simp only [if_true, ints_length, if_pos (show (elems i s).length < 17592186044416 by omega)]
      rw [hb] at h
      simpa [ints] using h
    | false =>
      rw [hb] at h
      simpa [ints] using h
  · refine Ev.step (fun _ => rfl) ?_
    have e1 : ¬ shr .i64 (s : Int) (t : Int) > 0 := by rw [shr_nat s t (by omega)]; omega
    simp only [Aa3.l0, if_pos (show (0 : Int) ≤ (t : Int) by omega), if_neg e1]
    exact Ev.now _
end Go.Proofs.YtimjblnglhmakaaDoor.M
namespace Go.Proofs.YtimjblnglhmakaaDoor.M
open Go.RowKit Go.Proofs.YtimjblnglhmakaaDoorW.PrintMore Go.Proofs.YtimjblnglhmakaaDoorW.PrintLast Go.Proofs.YtimjblnglhmakaaDoorW.PrintWords Go.Proofs.YtimjblnglhmakaaDoor.P
def isRel (n : Int) (l : List Int) : Bool := decide (0 ≤ n ∧ n ≤ 10 ∧ (l.length : Int) = n ∧ ∀ x ∈ l, 0 ≤ x ∧ x ≤ ((2 ^ n.toNat : Nat) : Int) - 1)
def row (l : List Int) (i : Nat) : Nat := (l.getD i 0).toNat
def B (l : List Int) (i j : Nat) : Bool := (row l i).testBit j
structure Rel (n : Nat) (l : List Int) : Prop where
  le : n ≤ 10
  len : l.length = n
  mem : ∀ x ∈ l, 0 ≤ x ∧ x ≤ ((2 ^ n : Nat) : Int) - 1
theorem isRel_iff {n : Int} {l : List Int} : isRel n l = true ↔ ∃ m : Nat, n = m ∧ Rel m l := by
  unfold isRel
  rw [decide_eq_true_iff]
  constructor
  · rintro ⟨h0, h1, h2, h3⟩
    obtain ⟨m, rfl⟩ := Int.eq_ofNat_of_zero_le h0
    exact ⟨m, rfl, by omega, by omega, by simpa using h3⟩
  · rintro ⟨m, rfl, h⟩
    refine ⟨by omega, by have := h.le; omega, by have := h.len; omega, by simpa using h.mem⟩
section
variable {n : Nat} {l : List Int}
theorem Rel.getD (h : Rel n l) (i : Nat) : l.getD i 0 = ((row l i : Nat) : Int) := by
  unfold row
  by_cases hi : i < l.length
  · have := (h.mem l[i] (List.getElem_mem hi)).1
    rw [show l.getD i 0 = l[i] by simp [hi]]
    omega
  · rw [show l.getD i 0 = 0 by simp [Nat.not_lt.1 hi]]
    rfl
theorem Rel.row_lt (h : Rel n l) (i : Nat) : row l i < 2 ^ n := by
  have hp : 0 < 2 ^ n := Nat.two_pow_pos n
  by_cases hi : i < l.length
  · have h1 := h.mem l[i] (List.getElem_mem hi)
    have h2 := h.getD i
    rw [show l.getD i 0 = l[i] by simp [hi]] at h2
    omega
  · unfold row
    rw [show l.getD i 0 = 0 by simp [Nat.not_lt.1 hi]]
    simpa using hp
theorem Rel.row_62 (h : Rel n l) (i : Nat) : row l i < 9223372036854775808 := lt62 (h.row_lt i) (by have := h.le; omega)
theorem Rel.B_lt (h : Rel n l) {i j : Nat} (hb : B l i j = true) : j < n := by
  apply Nat.lt_of_not_le
  intro hle
  unfold B at hb
  rw [Nat.testBit_lt_two_pow (Nat.lt_of_lt_of_le (h.row_lt i) (Nat.pow_le_pow_right (by decide) hle))] at hb
  cases hb
theorem Rel.B_lt' (h : Rel n l) {i j : Nat} (hb : B l i j = true) : i < n := by
  apply Nat.lt_of_not_le
  intro hle
  unfold B row at hb
  rw [show l.getD i 0 = 0 by simp [h.len, hle]] at hb
  simp at hb
theorem Rel.rd (h : Rel n l) (i : Nat) : rd l (i : Int) = ((row l i : Nat) : Int) := by rw [rd_nat, h.getD]
theorem Rel.bit (h : Rel n l) (i j : Nat) : M.bit (Go.Proofs.YtimjblnglhmakaaDoorW.PrintWords.rd l (i : Int)) j = B l i j := by rw [h.rd, bit_cast]; rfl
theorem Rel.ext {l' : List Int} (h : Rel n l) (h' : Rel n l') (hb : ∀ i j, i < n → j < n → B l i j = B l' i j) : l = l' := by
  apply list_ext_getD (by rw [h.len, h'.len])
  intro i hi
  rw [h.getD, h'.getD]
  congr 1
  apply Nat.eq_of_testBit_eq
  intro j
  by_cases hj : j < n
  · exact hb i j (by rw [← h.len]; exact hi) hj
  · have e1 : B l i j = false := by
      cases hc : B l i j with
      | false => rfl
      | true => exact absurd (h.B_lt hc) hj
    have e2 : B l' i j = false := by
      cases hc : B l' i j with
      | false => rfl
      | true => exact absurd (h'.B_lt hc) hj
    exact e1.trans e2.symm
end
def relL (n : Nat) (p : Nat → Nat → Bool) : List Int := (List.range n).map fun i => ((setOf n (p i) : Nat) : Int)
theorem relL_length (n : Nat) (p : Nat → Nat → Bool) : (relL n p).length = n := by simp [relL]
theorem relL_row (n : Nat) (p : Nat → Nat → Bool) (i : Nat) (h : i < n) : row (relL n p) i = setOf n (p i) := by
  simp [row, relL, h]
theorem relL_B (n : Nat) (p : Nat → Nat → Bool) (i j : Nat) : B (relL n p) i j = (decide (i < n) && (decide (j < n) && p i j)) := by
  unfold B
  by_cases h : i < n
  · rw [relL_row n p i h, testBit_setOf]; simp [h]
  · have : row (relL n p) i = 0 := by simp [row, relL, h]
    rw [this]; simp [h]
theorem relL_rel (n : Nat) (hn : n ≤ 10) (p : Nat → Nat → Bool) : Rel n (relL n p) where
  le := hn
  len := relL_length n p
  mem := by
    intro x hx
    simp only [relL, List.mem_map, List.mem_range] at hx
    obtain ⟨i, _, rfl⟩ := hx
    have := setOf_lt n (p i)
    omega
theorem within_eq (a b c : Int) : Aa6.f a b c = some (decide (b ≤ a ∧ a ≤ c)) := by
  unfold Aa6.f
  by_cases h : a ≥ b
  · rw [if_pos h]; simp [h]
  · rw [if_neg h]; simp; omega
theorem l1In_eq (a b c : Int) : Abg.f a b c = some (decide (b ≤ a ∧ a ≤ c)) := by
  unfold Abg.f
  by_cases h : a ≥ b
  · rw [if_pos h]; simp [h]
  · rw [if_neg h]; simp; omega
def allIn (l : List Int) (a b : Int) : Bool := decide (∀ x ∈ l, a ≤ x ∧ x ≤ b)
theorem allIn_eq (l : List Int) (a b : Int) : allIn l a b = allB l.length fun i => decide (a ≤ l.getD i 0 ∧ l.getD i 0 ≤ b) := by
  rw [Bool.eq_iff_iff, allB_iff]
  simp only [allIn, decide_eq_true_iff]
  constructor
  · intro h i hi
    have := h l[i] (List.getElem_mem hi)
    simpa [hi] using this
  · intro h x hx
    obtain ⟨i, hi, rfl⟩ := List.getElem_of_mem hx
    have := h i hi
    simpa [hi] using this
theorem allWithin_ev (l : List Int) (a b : Int) (hl : l.length ≤ 140737488355328) : Ev (fun k => Aa1.f k l a b) (allIn l a b) := by
  rw [allIn_eq]
  unfold Aa1.f
  refine Ev.all (fun i k => Aa1.l0 k a b l (l.length : Int) (i : Int)) l.length _ ?_ ?_ ?_
  · intro i r hi hp h
    refine Ev.step (fun _ => rfl) ?_
    rw [decide_eq_true_iff] at hp
    simp only [Aa1.l0, if_pos (show (i : Int) < (l.length : Int) by omega), if_pos (show (0 : Int) ≤ (i : Int) by omega), within_eq, rd_nat, Option.bind_some, decide_eq_true hp, if_true, next64 i l.length hi hl]
    exact h
  · intro i hi hp
    refine Ev.step (fun _ => rfl) ?_
    rw [decide_eq_false_iff_not] at hp
    simp only [Aa1.l0, if_pos (show (i : Int) < (l.length : Int) by omega), if_pos (show (0 : Int) ≤ (i : Int) by omega), within_eq, rd_nat, Option.bind_some, decide_eq_false hp, Bool.false_eq_true, if_false]
    exact Ev.now _
  · refine Ev.step (fun _ => rfl) ?_
    simp only [Aa1.l0, if_neg (show ¬ (l.length : Int) < (l.length : Int) by omega)]
    exact Ev.now _
theorem l1All_ev (l : List Int) (a b : Int) (hl : l.length ≤ 140737488355328) : Ev (fun k => Aba.f k l a b) (allIn l a b) := by
  rw [allIn_eq]
  unfold Aba.f
  refine Ev.all (fun i k => Aba.l0 k a b l (l.length : Int) (i : Int)) l.length _ ?_ ?_ ?_
  · intro i r hi hp h
    refine Ev.step (fun _ => rfl) ?_
    rw [decide_eq_true_iff] at hp
    simp only [Aba.l0, if_pos (show (i : Int) < (l.length : Int) by omega), if_pos (show (0 : Int) ≤ (i : Int) by omega), l1In_eq, rd_nat, Option.bind_some, decide_eq_true hp, if_true, next64 i l.length hi hl]
    exact h
  · intro i hi hp
    refine Ev.step (fun _ => rfl) ?_
    rw [decide_eq_false_iff_not] at hp
    simp only [Aba.l0, if_pos (show (i : Int) < (l.length : Int) by omega), if_pos (show (0 : Int) ≤ (i : Int) by omega), l1In_eq, rd_nat, Option.bind_some, decide_eq_false hp, Bool.false_eq_true, if_false]
    exact Ev.now _
  · refine Ev.step (fun _ => rfl) ?_
    simp only [Aba.l0, if_neg (show ¬ (l.length : Int) < (l.length : Int) by omega)]
    exact Ev.now _
theorem pow_of (n : Int) (h0 : 0 ≤ n) (h1 : n ≤ 10) : wrap64 (shl .i64 1 n - 1) = ((2 ^ n.toNat : Nat) : Int) - 1 := by
  obtain ⟨m, rfl⟩ := Int.eq_ofNat_of_zero_le h0
  rw [shl1 m (by omega), Int.toNat_natCast]
  have h2 : (2 : Nat) ^ m ≤ 2 ^ 10 := Nat.pow_le_pow_right (by decide) (by omega)
  have h3 : 0 < (2 : Nat) ^ m := Nat.two_pow_pos m
  exact wrap64_id _ (by omega) (by omega)
theorem isRel_parts (n : Int) (l : List Int) : isRel n l = (decide (0 ≤ n ∧ n ≤ 10) && (decide ((l.length : Int) = n) && allIn l 0 (((2 ^ n.toNat : Nat) : Int) - 1))) := by
  rw [Bool.eq_iff_iff]
  simp only [isRel, allIn, Bool.and_eq_true, decide_eq_true_iff]
  exact ⟨fun ⟨a, b, c, d⟩ => ⟨⟨a, b⟩, c, d⟩, fun ⟨⟨a, b⟩, c, d⟩ => ⟨a, b, c, d⟩⟩
theorem IsRelation_ev (n : Int) (l : List Int) (hl : l.length ≤ 140737488355328) : Ev (fun k => Abh.f k n l) (isRel n l) := by
  unfold Abh.f
  simp only [within_eq, Option.bind_some]
  rw [isRel_parts]
  by_cases h1 : 0 ≤ n ∧ n ≤ 10
  · by_cases h2 : (l.length : Int) = n
    · simp only [decide_eq_true h1, if_true, if_pos h2, if_pos h1.1, pow_of n h1.1 h1.2, decide_eq_true h2, Bool.true_and]
      exact Ev.bind (allWithin_ev l _ _ hl) (Ev.now _)
    · simp only [decide_eq_true h1, if_true, if_neg h2, decide_eq_false h2, Bool.false_and, Bool.and_false]
      exact Ev.now _
  · simp only [decide_eq_false h1, Bool.false_eq_true, if_false, Bool.false_and]
    exact Ev.now _
theorem orRelation_ev (n : Int) (l : List Int) (hl : l.length ≤ 140737488355328) : Ev (fun k => Abi.f k n l) (isRel n l) := by
  unfold Abi.f
  simp only [l1In_eq, Option.bind_some]
  rw [isRel_parts]
  by_cases h1 : 0 ≤ n ∧ n ≤ 10
  · by_cases h2 : (l.length : Int) = n
    · simp only [decide_eq_true h1, if_true, if_pos h2, if_pos h1.1, pow_of n h1.1 h1.2, decide_eq_true h2, Bool.true_and]
      exact Ev.bind (l1All_ev l _ _ hl) (Ev.now _)
    · simp only [decide_eq_true h1, if_true, if_neg h2, decide_eq_false h2, Bool.false_and, Bool.and_false]
      exact Ev.now _
  · simp only [decide_eq_false h1, Bool.false_eq_true, if_false, Bool.false_and]
    exact Ev.now _
def closedAt (n : Nat) (l : List Int) (i : Nat) : Bool := allB (elems n (row l i)).length fun q => diff (row l ((elems n (row l i)).getD q 0)) (row l i) == 0
def isOrd (n : Int) (l : List Int) : Bool := isRel n l && allB l.length fun i => !B l i i && closedAt l.length l i
theorem better_eq {n : Nat} {l : List Int} (h : Rel n l) (m : Int) (i j : Nat) (hi : i < n) (hj : j ≤ 62) : Aah.f m l (i : Int) (j : Int) = some (B l i j) := by
  unfold Aah.f
  rw [if_pos (by omega), if_pos (by rw [h.len]; omega), if_pos (by omega), has_and _ _ (by rw [h.rd]; omega) (by rw [h.rd]; have := h.row_62 i; omega) (by omega), h.bit]
theorem diff_zero (a b : Nat) : (diff a b = 0) ↔ ∀ j, a.testBit j = true → b.testBit j = true := by
  constructor
  · intro h j hj
    have := testBit_diff a b j
    rw [h, hj] at this
    simpa using this.symm
  · intro h
    apply Nat.eq_of_testBit_eq
    intro j
    rw [testBit_diff]
    cases hj : a.testBit j with
    | false => simp
    | true => simp [h j hj]
theorem ints_getD (l : List Nat) (q : Nat) (h : q < l.length) : (ints l).getD q 0 = ((l.getD q 0 : Nat) : Int) := by simp [ints, h]
theorem closed_iff {n : Nat} {l : List Int} (h : Rel n l) (i : Nat) : closedAt n l i = true ↔ ∀ j k, B l i j = true → B l j k = true → B l i k = true := by
  unfold closedAt
  rw [allB_iff]
  constructor
  · intro H j k hij hjk
    have hm : j ∈ elems n (row l i) := mem_elems.2 ⟨h.B_lt hij, hij⟩
    obtain ⟨q, hq, e⟩ := List.getElem_of_mem hm
    have := H q hq
    rw [show (elems n (row l i)).getD q 0 = j by simp [hq, e], beq_iff_eq, diff_zero] at this
    exact this k hjk
  · intro H q hq
    rw [beq_iff_eq, diff_zero]
    intro k hk
    have hm : (elems n (row l i)).getD q 0 ∈ elems n (row l i) := by simp [hq]
    exact H _ k (mem_elems.1 hm).2 hk
structure Ord (n : Nat) (l : List Int) : Prop extends Rel n l where
  irr : ∀ i, B l i i = false
  trans : ∀ i j k, B l i j = true → B l j k = true → B l i k = true
theorem isOrd_iff {n : Int} {l : List Int} : isOrd n l = true ↔ ∃ m : Nat, n = m ∧ Ord m l := by
  unfold isOrd
  rw [Bool.and_eq_true, isRel_iff, allB_iff]
  constructor
  · rintro ⟨⟨m, rfl, h⟩, H⟩
    rw [h.len] at H
    refine ⟨m, rfl, h, fun i => ?_, fun i j k hij hjk => ?_⟩
    · cases hc : B l i i with
      | false => rfl
      | true =>
        have := H i (h.B_lt hc)
        rw [hc] at this
        simp at this
    · have := H i (h.B_lt' hij)
      rw [Bool.and_eq_true] at this
      exact (closed_iff h i).1 this.2 j k hij hjk
  · rintro ⟨m, rfl, h⟩
    refine ⟨⟨m, rfl, h.toRel⟩, fun i _ => ?_⟩
    rw [h.irr i, h.len, (closed_iff h.toRel i).2 (h.trans i)]
    rfl
theorem IsOrder_ev (n : Int) (l : List Int) (hl : l.length ≤ 140737488355328) : Ev (fun k => Aaq.f k n l) (isOrd n l) := by
  unfold Aaq.f isOrd
  refine Ev.bind (IsRelation_ev n l hl) ?_
  cases hr : isRel n l with
  | false => simp only [Bool.false_eq_true, if_false, Bool.false_and]; exact Ev.now _
  | true =>
    obtain ⟨m, rfl, h⟩ := isRel_iff.1 hr
    have hlen := h.len
    have h10 := h.le
    simp only [if_true, Bool.true_and]
    refine Ev.all (fun i k => Aaq.l0 k l (l.length : Int) (i : Int) (m : Int) l) l.length _ ?_ ?_ ?_
    · intro i r hi hp hrest
      rw [Bool.and_eq_true] at hp
      have hB : B l i i = false := by simpa using hp.1
      refine Ev.step (fun _ => rfl) ?_
      simp only [Aaq.l0, if_pos (show (i : Int) < (l.length : Int) by omega), if_pos (show (0 : Int) ≤ (i : Int) by omega), better_eq h _ i i (by omega) (by omega), Option.bind_some, hB, Bool.false_eq_true, if_false, h.rd]
      refine Ev.bind (members_ev m (by omega) (row l i) (h.row_lt i)) ?_
      have hE := elems_length_le m (row l i)
      rw [ints_length]
      refine Ev.up (fun q k => Aaq.l1 k ((row l i : Nat) : Int) l (l.length : Int) (i : Int) (ints (elems m (row l i))) ((elems m (row l i)).length : Int) (q : Int) (m : Int) l) (elems m (row l i)).length ?_ ?_
      · intro q hq hn
        refine Ev.step (fun _ => rfl) ?_
        have hmem : (elems m (row l i)).getD q 0 ∈ elems m (row l i) := by simp [hq]
        have hlt := (mem_elems.1 hmem).1
        have e0 : rd (ints (elems m (row l i))) (q : Int) = (((elems m (row l i)).getD q 0 : Nat) : Int) := by rw [rd_nat, ints_getD _ _ hq]
        have hd : diff (row l ((elems m (row l i)).getD q 0)) (row l i) = 0 := by
          have hc := hp.2
          unfold closedAt at hc
          rw [allB_iff, hlen] at hc
          exact beq_iff_eq.1 (hc q hq)
        simp only [Aaq.l1, if_pos (show (q : Int) < ((elems m (row l i)).length : Int) by omega), if_pos (show (0 : Int) ≤ (q : Int) by omega), ints_length, e0, if_pos (show (0 : Int) ≤ (((elems m (row l i)).getD q 0 : Nat) : Int) by omega), if_pos (show (((elems m (row l i)).getD q 0 : Nat) : Int) < (l.length : Int) by omega), h.rd, andNot_i64 _ _ (h.row_62 _) (h.row_62 _), hd, Int.natCast_zero, if_true, next64 q _ hq (by omega)]
        exact hn
      · refine Ev.step (fun _ => rfl) ?_
        simp only [Aaq.l1, if_neg (show ¬ ((elems m (row l i)).length : Int) < ((elems m (row l i)).length : Int) by omega), next64 i l.length hi (by omega)]
        exact hrest
    · intro i hi hp
      refine Ev.step (fun _ => rfl) ?_
      simp only [Aaq.l0, if_pos (show (i : Int) < (l.length : Int) by omega), if_pos (show (0 : Int) ≤ (i : Int) by omega), better_eq h _ i i (by omega) (by omega), Option.bind_some]
      cases hB : B l i i with
      | true => simp only [if_true]; exact Ev.now _
      | false =>
        rw [hB] at hp
        have hc : closedAt l.length l i = false := by simpa using hp
        unfold closedAt at hc
        rw [hlen] at hc
        obtain ⟨j, hj, hbad, hless⟩ := least_false (allB_false.1 hc)
        simp only [Bool.false_eq_true, if_false, h.rd]
        refine Ev.bind (members_ev m (by omega) (row l i) (h.row_lt i)) ?_
        have hE := elems_length_le m (row l i)
        rw [ints_length]
        refine Ev.up (fun q k => Aaq.l1 k ((row l i : Nat) : Int) l (l.length : Int) (i : Int) (ints (elems m (row l i))) ((elems m (row l i)).length : Int) (q : Int) (m : Int) l) j ?_ ?_
        · intro q hq hn
          refine Ev.step (fun _ => rfl) ?_
          have hmem : (elems m (row l i)).getD q 0 ∈ elems m (row l i) := by simp [show q < (elems m (row l i)).length by omega]
          have hlt := (mem_elems.1 hmem).1
          have e0 : rd (ints (elems m (row l i))) (q : Int) = (((elems m (row l i)).getD q 0 : Nat) : Int) := by rw [rd_nat, ints_getD _ _ (by omega)]
          have hd : diff (row l ((elems m (row l i)).getD q 0)) (row l i) = 0 := beq_iff_eq.1 (hless q hq)
          simp only [Aaq.l1, if_pos (show (q : Int) < ((elems m (row l i)).length : Int) by omega), if_pos (show (0 : Int) ≤ (q : Int) by omega), ints_length, e0, if_pos (show (0 : Int) ≤ (((elems m (row l i)).getD q 0 : Nat) : Int) by omega), if_pos (show (((elems m (row l i)).getD q 0 : Nat) : Int) < (l.length : Int) by omega), h.rd, andNot_i64 _ _ (h.row_62 _) (h.row_62 _), hd, Int.natCast_zero, if_true, next64 q _ (show q < (elems m (row l i)).length by omega) (by omega)]
          exact hn
        · refine Ev.step (fun _ => rfl) ?_
          have hmem : (elems m (row l i)).getD j 0 ∈ elems m (row l i) := by simp [hj]
          have hlt := (mem_elems.1 hmem).1
          have e0 : rd (ints (elems m (row l i))) (j : Int) = (((elems m (row l i)).getD j 0 : Nat) : Int) := by rw [rd_nat, ints_getD _ _ (by omega)]
          have hd : ¬ ((diff (row l ((elems m (row l i)).getD j 0)) (row l i) : Nat) : Int) = 0 := by
            have := beq_eq_false_iff_ne.1 hbad
            omega
          simp only [Aaq.l1, if_pos (show (j : Int) < ((elems m (row l i)).length : Int) by omega), if_pos (show (0 : Int) ≤ (j : Int) by omega), ints_length, e0, if_pos (show (0 : Int) ≤ (((elems m (row l i)).getD j 0 : Nat) : Int) by omega), if_pos (show (((elems m (row l i)).getD j 0 : Nat) : Int) < (l.length : Int) by omega), h.rd, andNot_i64 _ _ (h.row_62 _) (h.row_62 _), if_neg hd]
          exact Ev.now _
    · refine Ev.step (fun _ => rfl) ?_
      simp only [Aaq.l0, if_neg (show ¬ (l.length : Int) < (l.length : Int) by omega)]
      exact Ev.now _
end Go.Proofs.YtimjblnglhmakaaDoor.M
namespace Go.Proofs.YtimjblnglhmakaaDoor.M
open Go.RowKit Go.Proofs.YtimjblnglhmakaaDoorW.PrintMore Go.Proofs.YtimjblnglhmakaaDoorW.PrintLast Go.Proofs.YtimjblnglhmakaaDoorW.PrintWords Go.Proofs.YtimjblnglhmakaaDoor.P
theorem orGood_ev (n : Int) (l : List Int) (hl : l.length ≤ 140737488355328) : Ev (fun k => Aaw.f k n l) (isOrd n l) := by
  unfold Aaw.f isOrd
  refine Ev.bind (orRelation_ev n l hl) ?_
  cases hr : isRel n l with
  | false => simp only [Bool.false_eq_true, if_false, Bool.false_and]; exact Ev.now _
  | true =>
    obtain ⟨m, rfl, h⟩ := isRel_iff.1 hr
    have hlen := h.len
    have h10 := h.le
    simp only [if_true, Bool.true_and]
    refine Ev.all (fun i k => Aaw.l0 k l (l.length : Int) (i : Int) (m : Int) l) l.length _ ?_ ?_ ?_
    · intro i r hi hp hrest
      rw [Bool.and_eq_true] at hp
      have hB : B l i i = false := by simpa using hp.1
      refine Ev.step (fun _ => rfl) ?_
      simp only [Aaw.l0, if_pos (show (i : Int) < (l.length : Int) by omega), if_pos (show (0 : Int) ≤ (i : Int) by omega), h.rd, orHas_eq (row l i) i (by omega), show (row l i).testBit i = B l i i from rfl, Option.bind_some, hB, Bool.false_eq_true, if_false]
      refine Ev.bind (orList_ev m (by omega) (row l i) (h.row_lt i)) ?_
      have hE := elems_length_le m (row l i)
      rw [ints_length]
      refine Ev.up (fun q k => Aaw.l1 k ((row l i : Nat) : Int) l (l.length : Int) (i : Int) (ints (elems m (row l i))) ((elems m (row l i)).length : Int) (q : Int) (m : Int) l) (elems m (row l i)).length ?_ ?_
      · intro q hq hn
        refine Ev.step (fun _ => rfl) ?_
        have hmem : (elems m (row l i)).getD q 0 ∈ elems m (row l i) := by simp [hq]
        have hlt := (mem_elems.1 hmem).1
        have e0 : rd (ints (elems m (row l i))) (q : Int) = (((elems m (row l i)).getD q 0 : Nat) : Int) := by rw [rd_nat, ints_getD _ _ hq]
        have hd : diff (row l ((elems m (row l i)).getD q 0)) (row l i) = 0 := by
          have hc := hp.2
          unfold closedAt at hc
          rw [allB_iff, hlen] at hc
          exact beq_iff_eq.1 (hc q hq)
        simp only [Aaw.l1, if_pos (show (q : Int) < ((elems m (row l i)).length : Int) by omega), if_pos (show (0 : Int) ≤ (q : Int) by omega), ints_length, e0, if_pos (show (0 : Int) ≤ (((elems m (row l i)).getD q 0 : Nat) : Int) by omega), if_pos (show (((elems m (row l i)).getD q 0 : Nat) : Int) < (l.length : Int) by omega), h.rd, andNot_i64 _ _ (h.row_62 _) (h.row_62 _), hd, Int.natCast_zero, if_true, next64 q _ hq (by omega)]
        exact hn
      · refine Ev.step (fun _ => rfl) ?_
        simp only [Aaw.l1, if_neg (show ¬ ((elems m (row l i)).length : Int) < ((elems m (row l i)).length : Int) by omega), next64 i l.length hi (by omega)]
        exact hrest
    · intro i hi hp
      refine Ev.step (fun _ => rfl) ?_
      simp only [Aaw.l0, if_pos (show (i : Int) < (l.length : Int) by omega), if_pos (show (0 : Int) ≤ (i : Int) by omega), h.rd, orHas_eq (row l i) i (by omega), show (row l i).testBit i = B l i i from rfl, Option.bind_some]
      cases hB : B l i i with
      | true => simp only [if_true]; exact Ev.now _
      | false =>
        rw [hB] at hp
        have hc : closedAt l.length l i = false := by simpa using hp
        unfold closedAt at hc
        rw [hlen] at hc
        obtain ⟨j, hj, hbad, hless⟩ := least_false (allB_false.1 hc)
        simp only [Bool.false_eq_true, if_false]
        refine Ev.bind (orList_ev m (by omega) (row l i) (h.row_lt i)) ?_
        have hE := elems_length_le m (row l i)
        rw [ints_length]
        refine Ev.up (fun q k => Aaw.l1 k ((row l i : Nat) : Int) l (l.length : Int) (i : Int) (ints (elems m (row l i))) ((elems m (row l i)).length : Int) (q : Int) (m : Int) l) j ?_ ?_
        · intro q hq hn
          refine Ev.step (fun _ => rfl) ?_
          have hmem : (elems m (row l i)).getD q 0 ∈ elems m (row l i) := by simp [show q < (elems m (row l i)).length by omega]
          have hlt := (mem_elems.1 hmem).1
          have e0 : rd (ints (elems m (row l i))) (q : Int) = (((elems m (row l i)).getD q 0 : Nat) : Int) := by rw [rd_nat, ints_getD _ _ (by omega)]
          have hd : diff (row l ((elems m (row l i)).getD q 0)) (row l i) = 0 := beq_iff_eq.1 (hless q hq)
          simp only [Aaw.l1, if_pos (show (q : Int) < ((elems m (row l i)).length : Int) by omega), if_pos (show (0 : Int) ≤ (q : Int) by omega), ints_length, e0, if_pos (show (0 : Int) ≤ (((elems m (row l i)).getD q 0 : Nat) : Int) by omega), if_pos (show (((elems m (row l i)).getD q 0 : Nat) : Int) < (l.length : Int) by omega), h.rd, andNot_i64 _ _ (h.row_62 _) (h.row_62 _), hd, Int.natCast_zero, if_true, next64 q _ (show q < (elems m (row l i)).length by omega) (by omega)]
          exact hn
        · refine Ev.step (fun _ => rfl) ?_
          have hmem : (elems m (row l i)).getD j 0 ∈ elems m (row l i) := by simp [hj]
          have hlt := (mem_elems.1 hmem).1
          have e0 : rd (ints (elems m (row l i))) (j : Int) = (((elems m (row l i)).getD j 0 : Nat) : Int) := by rw [rd_nat, ints_getD _ _ (by omega)]
          have hd : ¬ ((diff (row l ((elems m (row l i)).getD j 0)) (row l i) : Nat) : Int) = 0 := by
            have := beq_eq_false_iff_ne.1 hbad
            omega
          simp only [Aaw.l1, if_pos (show (j : Int) < ((elems m (row l i)).length : Int) by omega), if_pos (show (0 : Int) ≤ (j : Int) by omega), ints_length, e0, if_pos (show (0 : Int) ≤ (((elems m (row l i)).getD j 0 : Nat) : Int) by omega), if_pos (show (((elems m (row l i)).getD j 0 : Nat) : Int) < (l.length : Int) by omega), h.rd, andNot_i64 _ _ (h.row_62 _) (h.row_62 _), if_neg hd]
          exact Ev.now _
    · refine Ev.step (fun _ => rfl) ?_
      simp only [Aaw.l0, if_neg (show ¬ (l.length : Int) < (l.length : Int) by omega)]
      exact Ev.now _
theorem setOf_bit_or (q : Nat → Bool) (j : Nat) : setOf (j + 1) q = if q j then setOf j q ||| 2 ^ j else setOf j q := by
  show setOf j q ||| (if q j then 2 ^ j else 0) = _
  cases q j <;> simp
def part (n : Nat) (p : Nat → Nat → Bool) (i j : Nat) : List Int := (List.range n).map fun a => ((setOf (if a < i then n else if a = i then j else 0) (p a) : Nat) : Int)
theorem part_length (n : Nat) (p : Nat → Nat → Bool) (i j : Nat) : (part n p i j).length = n := by simp [part]
theorem part_getD (n : Nat) (p : Nat → Nat → Bool) (i j a : Nat) (h : a < n) : (part n p i j).getD a 0 = ((setOf (if a < i then n else if a = i then j else 0) (p a) : Nat) : Int) := by simp [part, h]
theorem part_next (n : Nat) (p : Nat → Nat → Bool) (i : Nat) : part n p i n = part n p (i + 1) 0 := by
  unfold part
  apply List.map_congr_left
  intro a _
  by_cases h1 : a < i
  · rw [if_pos h1, if_pos (by omega)]
  · rw [if_neg h1]
    by_cases h2 : a = i
    · rw [if_pos h2, if_pos (by omega)]
    · rw [if_neg h2, if_neg (by omega)]
      by_cases h3 : a = i + 1
      · rw [if_pos h3]
      · rw [if_neg h3]
theorem part_no (n : Nat) (p : Nat → Nat → Bool) (i j : Nat) (hi : i < n) (h : p i j = false) : part n p i j = part n p i (j + 1) := by
  unfold part
  apply List.map_congr_left
  intro a _
  by_cases h2 : a = i
  · subst h2
    rw [if_neg (Nat.lt_irrefl _), if_pos rfl, if_neg (Nat.lt_irrefl _), if_pos rfl, setOf_bit_or, h]
    rfl
  · rw [if_neg h2, if_neg h2]
theorem part_yes (n : Nat) (p : Nat → Nat → Bool) (i j : Nat) (hi : i < n) (h : p i j = true) : (part n p i j).set i ((setOf j (p i) ||| 2 ^ j : Nat) : Int) = part n p i (j + 1) := by
  apply list_ext_getD (by simp [part_length])
  intro a ha
  have ha : a < n := by simpa [part_length] using ha
  rw [part_getD n p i (j + 1) a ha]
  by_cases h2 : a = i
  · subst h2
    rw [if_neg (Nat.lt_irrefl _), if_pos rfl, setOf_bit_or, h]
    rw [List.getD_eq_getElem?_getD, List.getElem?_set_self (by rw [part_length]; exact hi)]
    rfl
  · have e : ((part n p i j).set i ((setOf j (p i) ||| 2 ^ j : Nat) : Int)).getD a 0 = (part n p i j).getD a 0 := by
      simp [List.getD, Ne.symm h2]
    rw [e, part_getD n p i j a ha, if_neg h2, if_neg h2]
theorem part_zero (n : Nat) (p : Nat → Nat → Bool) : part n p 0 0 = List.replicate n 0 := by
  apply list_ext_getD (by simp [part_length])
  intro a ha
  have ha : a < n := by simpa [part_length] using ha
  rw [part_getD n p 0 0 a ha, if_neg (Nat.not_lt_zero _)]
  have : (if a = 0 then 0 else 0) = 0 := by split <;> rfl
  rw [this]
  simp [setOf, ha]
theorem part_all (n : Nat) (p : Nat → Nat → Bool) : part n p n 0 = relL n p := by
  unfold part relL
  apply List.map_congr_left
  intro a ha
  rw [List.mem_range] at ha
  rw [if_pos ha]
theorem relation_ev (n : Nat) (hn : n ≤ 62) (g : Nat → Int → Int → Option Bool) (p : Nat → Nat → Bool) (hg : ∀ i j, i < n → j < n → Ev (fun k => g k (i : Int) (j : Int)) (p i j)) :
    Ev (fun k => Aag.f k (n : Int) (g k)) ((n : Int), relL n p) := by
  -- the tests all come to their answers from one number of rounds on
  obtain ⟨K, hK⟩ : ∃ K, ∀ k, K ≤ k → ∀ i j, i < n → j < n → g k (i : Int) (j : Int) = some (p i j) := by
    have one : ∀ m, ∃ K, ∀ k, K ≤ k → ∀ i j, i < n → j < n → i * n + j < m → g k (i : Int) (j : Int) = some (p i j) := by
      intro m
      induction m with
      | zero => exact ⟨0, fun k _ i j _ _ h => absurd h (Nat.not_lt_zero _)⟩
      | succ m ih =>
        obtain ⟨K, hK⟩ := ih
        by_cases hx : ∃ i j, i < n ∧ j < n ∧ i * n + j = m
        · obtain ⟨i, j, hi, hj, hm⟩ := hx
          obtain ⟨K', hK'⟩ := hg i j hi hj
          refine ⟨max K K', fun k hk i' j' hi' hj' h => ?_⟩
          by_cases he : i' * n + j' = m
          · have e1 : i' = i := by
              have a1 : (i' * n + j') / n = i' := by rw [Nat.mul_comm, Nat.mul_add_div (by omega), Nat.div_eq_of_lt hj', Nat.add_zero]
              have a2 : (i * n + j) / n = i := by rw [Nat.mul_comm, Nat.mul_add_div (by omega), Nat.div_eq_of_lt hj, Nat.add_zero]
              rw [← a1, ← a2, he, hm]
            subst e1
            have e2 : j' = j := by omega
            subst e2
            exact hK' k (by omega)
          · exact hK k (by omega) i' j' hi' hj' (by omega)
        · exact ⟨K, fun k hk i j hi hj h => hK k hk i j hi hj (by
            rcases Nat.lt_or_ge (i * n + j) m with h1 | h1
            · exact h1
            · exact absurd ⟨i, j, hi, hj, by omega⟩ hx)⟩
    obtain ⟨K, h⟩ := one (n * n + n)
    refine ⟨K, fun k hk i j hi hj => h k hk i j hi hj ?_⟩
    have : i * n ≤ n * n := Nat.mul_le_mul_right n (by omega)
    omega
  -- with the tests as' at one number
  have main : ∀ is : Int → Int → Option Bool, (∀ i j, i < n → j < n → is (i : Int) (j : Int) = some (p i j)) → Ev (fun k => Aag.f k (n : Int) is) ((n : Int), relL n p) := by
    intro is his
    unfold Aag.f
    simp only [if_pos (show (0 : Int) ≤ (n : Int) by omega), Int.toNat_natCast, if_pos (show n ≤ 35184372088832 by omega)]
    rw [← part_zero n p]
    refine Ev.up (fun i k => Aag.l0 is k (n : Int) (n : Int) (i : Int) (n : Int) (part n p i 0)) n ?_ ?_
    · intro i hi h
      refine Ev.step (fun _ => rfl) ?_
      simp only [Aag.l0, if_pos (show (i : Int) < (n : Int) by omega)]
      refine Ev.up (fun j k => Aag.l1 is k (n : Int) (i : Int) (n : Int) (i : Int) (n : Int) (j : Int) (n : Int) (part n p i j)) n ?_ ?_
      · intro j hj h
        refine Ev.step (fun _ => rfl) ?_
        simp only [Aag.l1, if_pos (show (j : Int) < (n : Int) by omega), his i j hi hj, Option.bind_some, next64 j n hj (by omega)]
        cases hp : p i j with
        | false =>
          simp only [Bool.false_eq_true, if_false]
          rw [part_no n p i j hi hp]
          exact h
        | true =>
          have hs : setOf j (p i) < 9223372036854775808 := setOf_62 _ _ (by omega)
          have h2 : (2 : Nat) ^ j < 9223372036854775808 := Nat.lt_of_le_of_lt (Nat.pow_le_pow_right (by decide) (by omega : j ≤ 62)) (by decide)
          have e1 : rd (part n p i j) (i : Int) = ((setOf j (p i) : Nat) : Int) := by
            rw [rd_nat, part_getD n p i j i hi, if_neg (Nat.lt_irrefl _), if_pos rfl]
          simp only [if_true, if_pos (show (0 : Int) ≤ (i : Int) by omega), part_length, if_pos (show (i : Int) < (n : Int) by omega), if_pos (show (0 : Int) ≤ (j : Int) by omega), e1, shl1 j (by omega), or_i64 _ _ hs h2, Int.toNat_natCast]
          rw [part_yes n p i j hi hp]
          exact h
      · refine Ev.step (fun _ => rfl) ?_
        simp only [Aag.l1, if_neg (show ¬ (n : Int) < (n : Int) by omega), next64 i n hi (by omega)]
        rw [part_next]
        exact h
    · refine Ev.step (fun _ => rfl) ?_
      simp only [Aag.l0, if_neg (show ¬ (n : Int) < (n : Int) by omega)]
      rw [part_all]
      exact Ev.now _
  -- the least test that answers so
  have h0 := main (fun x y => if 0 ≤ x ∧ x < n ∧ 0 ≤ y ∧ y < n then some (p x.toNat y.toNat) else none) (fun i j hi hj => by
    show (if _ then _ else _) = _
    rw [if_pos ⟨by omega, by omega, by omega, by omega⟩, Int.toNat_natCast, Int.toNat_natCast])
  obtain ⟨K', hK'⟩ := h0
  refine ⟨max K K' + 1, fun k hk => ?_⟩
  obtain ⟨d, rfl⟩ : ∃ d, k = d + 1 := ⟨k - 1, by omega⟩
  refine Aag.mono2 (is := fun x y => if 0 ≤ x ∧ x < n ∧ 0 ≤ y ∧ y < n then some (p x.toNat y.toNat) else none) (is' := g (d + 1)) (fun x y r hr => ?_) (n : Int) d _ (hK' d (by omega))
  by_cases hxy : 0 ≤ x ∧ x < n ∧ 0 ≤ y ∧ y < n
  · rw [if_pos hxy] at hr
    obtain ⟨i, rfl⟩ := Int.eq_ofNat_of_zero_le hxy.1
    obtain ⟨j, rfl⟩ := Int.eq_ofNat_of_zero_le hxy.2.2.1
    rw [Int.toNat_natCast, Int.toNat_natCast] at hr
    rw [hK (d + 1) (by omega) i j (by omega) (by omega)]
    exact hr
  · rw [if_neg hxy] at hr
    cases hr
end Go.Proofs.YtimjblnglhmakaaDoor.M
