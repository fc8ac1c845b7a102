/- A part of the proof that the law FnSetsAlong holds at every input. Written by wip/pack.py: the kit's printed words that are used, the functions' walks as wip/gen.py prints them, and hand proofs. -/
import Derived.Test.YtimjblnglhmakaaDoorKFnSetsAlong4
import Derived.Lib.SlicesCompact
namespace Go.Proofs.YtimjblnglhmakaaDoor.P
open Go.RowKit Go.Proofs.YtimjblnglhmakaaDoorW.PrintWords Go.Proofs.YtimjblnglhmakaaDoorW.PrintLast Go.Proofs.YtimjblnglhmakaaDoorW.PrintMore
open Bool renaming true → T, false → F
open List renaming setIfInBounds_toArray → L_, set_cons_zero → M_, set_cons_succ → N_, map_toArray → P_, map_cons → Q_, map_nil → R_, length_drop → S_, length_take → U_
open Aside0 renaming mk → A_
attribute [local go_sem] max2_int min2_int max_two min_two max_three min_three max_four min_four
set_option linter.unusedVariables false
set_option linter.unusedSimpArgs false
attribute [local go_sem] fldOrder_0 fldOrder_1
mutual
def Aab.j0 : Nat → List Int → Bool → Bool → Int → List Int → Option (Bool)
 | 0,_,_,_,_,_=>none
 | k + 1,x6,x9,x47,x1540000,x1540001=>if x47 = true then (some false) else (if x9 = true then ((Ab1.f k x1540000 x1540001).bind fun bt1549=>((Abo.f k x1540000 x1540001).bind fun bt1553=>((Aa9.f k x1540000 x1540001).bind fun bt1555=>(if bt1549.2 = true then (if bt1553.2 = true then (if bt1555.2 = true then (Aab.j1 k x6 bt1549.1 bt1555.1 ((x6.length : Int) != bt1553.1) x1540000 x1540001) else (Aab.j1 k x6 bt1549.1 bt1555.1 true x1540000 x1540001)) else (Aab.j1 k x6 bt1549.1 bt1555.1 true x1540000 x1540001)) else (Aab.j1 k x6 bt1549.1 bt1555.1 true x1540000 x1540001))))) else (some true))
def Aab.j1 : Nat → List Int → List (S62) → List Int → Bool → Int → List Int → Option (Bool)
 | 0,_,_,_,_,_,_=>none
 | k + 1,x6,x10,x14,x80,x1540000,x1540001=>if x80 = true then (some false) else (Aab.l0 k x10 x14 0 x6 (x6.length : Int) 0 x1540000 x1540001)
def Aab.l0 : Nat → List (S62) → List Int → Int → List Int → Int → Int → Int → List Int → Option (Bool)
 | 0,_,_,_,_,_,_,_,_=>none
 | k + 1,x10,x14,x16,x81,x82,x83,x1540000,x1540001=>if x83 < x82 then (if 0 ≤ x83 then (if x83 < (x81.length : Int) then ((Abe.f k (rd x81 x83)).bind fun t1560=>(if t1560 > x16 then ((Abe.f k (rd x81 x83)).bind fun t1561=>(Aab.j3 k x10 x14 t1561 x83 (rd x81 x83) x81 x82 x83 x1540000 x1540001)) else (Aab.j3 k x10 x14 x16 x83 (rd x81 x83) x81 x82 x83 x1540000 x1540001))) else (none)) else (none)) else (some (x16 == (x14.length : Int)))
def Aab.j3 : Nat → List (S62) → List Int → Int → Int → Int → List Int → Int → Int → Int → List Int → Option (Bool)
 | 0,_,_,_,_,_,_,_,_,_,_=>none
 | k + 1,x10,x14,x16,x17,x18,x81,x82,x83,x1540000,x1540001=>Aab.l1 k x10 x14 x16 x17 x18 x81 x82 x83 x10 (x10.length : Int) 0 x1540000 x1540001
def Aab.l1 : Nat → List (S62) → List Int → Int → Int → Int → List Int → Int → Int → List (S62) → Int → Int → Int → List Int → Option (Bool)
 | 0,_,_,_,_,_,_,_,_,_,_,_,_,_=>none
 | k + 1,x10,x14,x16,x17,x18,x81,x82,x83,x94,x95,x96,x1540000,x1540001=>if x96 < x95 then (if 0 ≤ x96 then (if x96 < (x94.length : Int) then ((Abt.f k x1540000 x1540001 x96).bind fun bt1564=>(if bt1564.2 = true then ((Abp.f x18 x96).bind fun t1566=>(if ((rd_T62 x94 x96).f0) ≤ x17 then (Aab.j5 k x10 x14 x16 x17 x18 x96 bt1564.1 x81 x82 x83 x94 x95 x96 (t1566 != (decide (x17 ≤ ((rd_T62 x94 x96).f1)))) x1540000 x1540001) else (Aab.j5 k x10 x14 x16 x17 x18 x96 bt1564.1 x81 x82 x83 x94 x95 x96 (t1566 != false) x1540000 x1540001))) else (Aab.j5 k x10 x14 x16 x17 x18 x96 bt1564.1 x81 x82 x83 x94 x95 x96 true x1540000 x1540001))) else (none)) else (none)) else (Aab.l0 k x10 x14 x16 x81 x82 (wrap64 (x83 + 1)) x1540000 x1540001)
def Aab.j5 : Nat → List (S62) → List Int → Int → Int → Int → Int → Int → List Int → Int → Int → List (S62) → Int → Int → Bool → Int → List Int → Option (Bool)
 | 0,_,_,_,_,_,_,_,_,_,_,_,_,_,_,_,_=>none
 | k + 1,x10,x14,x16,x17,x18,x19,x21,x81,x82,x83,x94,x95,x96,x124,x1540000,x1540001=>if x124 = true then (some false) else (if 0 ≤ x19 then ((Abp.f x18 x19).bind fun t1567=>(if (((Go.bits .andNot .i64 (Go.bits .andNot .i64 x18 x21) (shl .i64 1 x19)) == 0) != t1567) = true then (some false) else (Aab.l1 k x10 x14 x16 x17 x18 x81 x82 x83 x94 x95 (wrap64 (x96 + 1)) x1540000 x1540001))) else (none))
end
def Aab.f (k : Nat) (l0 : List Int) (l1 : List Int) : Option (Bool) := (Ab7.f l0 l1).bind fun t1534 => (if t1534 = true then (some true) else ((Abk.f k l0).bind fun bt1535 => ((Abq.f k bt1535.1 bt1535.2).bind fun bt1540 => ((Aao.f k bt1535.1 bt1535.2).bind fun bt1544 => (if (bt1540.2 != bt1544.2) = true then (Aab.j0 k bt1540.1 bt1544.2 true bt1535.1 bt1535.2) else ((Abc.f k bt1540.1 bt1544.1).bind fun t1548 => (Aab.j0 k bt1540.1 bt1544.2 (!t1548) bt1535.1 bt1535.2)))))))
set_option maxHeartbeats 8000000 in
set_option maxRecDepth 100000 in
theorem Aab.calls (k : Nat) (A0 : Option Addr) (c0 : Nat) (l0 : List Int) (A1 : Option Addr) (c1 : Nat) (l1 : List Int) (r : Bool) (w : World) (hr0 : Kd.C (Kd.int .u8) w A0 l0.length l0) (hc0 : l0.length ≤ c0) (hr1 : Kd.C (Kd.int .u8) w A1 l1.length l1) (hc1 : l1.length ≤ c1) (hT : TabOK w) (h : Aab.f k l0 l1 = some r) :
 Calls Tryd.prog 13 #[.slice A0 l0.length c0,.slice A1 l1.length c1] w fun e w'=>e = .returned (.bool r) ∧ Below w.heap.size w w':=by
 have hu28:=Tryd.underlying28;have hu62:=Tryd.underlying62;have HT:=A_ hT;clear hT;have HR0:=A_ hr0;have HC0:=A_ hc0;clear hr0 hc0;have HR1:=A_ hr1;have HC1:=A_ hc1;clear hr1 hc1;have HB:=A_ (Below.refl w.heap.size w);have H : ((Ab7.f l0 l1).bind fun Bu=>(if Bu = true then (some true) else ((Abk.f k l0).bind fun Am=>((Abq.f k Am.1 Am.2).bind fun Ar=>((Aao.f k Am.1 Am.2).bind fun An=>(if (Ar.2 != An.2) = true then (Aab.j0 k Ar.1 An.2 true Am.1 Am.2) else ((Abc.f k Ar.1 An.1).bind fun Ax=>(Aab.j0 k Ar.1 An.2 (!Ax) Am.1 Am.2)))))))) = some r:=h;clear h;replace H:=Option.bind_eq_some_iff.mp H;obtain ⟨Bu,A30,H⟩:=H;replace H : (if Bu = true then (some true) else ((Abk.f k l0).bind fun Am=>((Abq.f k Am.1 Am.2).bind fun Ar=>((Aao.f k Am.1 Am.2).bind fun An=>(if (Ar.2 != An.2) = true then (Aab.j0 k Ar.1 An.2 true Am.1 Am.2) else ((Abc.f k Ar.1 An.1).bind fun Ax=>(Aab.j0 k Ar.1 An.2 (!Ax) Am.1 Am.2))))))) = some r:=H;have A3:=A_ A30;clear A30;by_cases c4 : Bu = true
 ·subst c4;have H1 : (some true) = some r:=by rw [if_pos rfl] at H;exact H
  clear H;have H:=H1;clear H1;obtain rfl:=Option.some.inj H;go_enter Tryd.func13,Tryd.ntmps13
  go_wp2_with (first|(go_at_call 25;(with_reducible refine (Ab7.calls _ _ l0 _ _ l1 true _ ?side1 ?side2 ?side3 ?side4 A3.out).mono ?_);(case side1=>repeat (first|exact HR0.out|(with_reducible refine Kd.C_alloc ?_ _)|(with_reducible refine Kd.C_drewN ?_ _)|(with_reducible refine Kd.C_drew ?_)));(case side2=>exact HC0.out);(case side3=>repeat (first|exact HR1.out|(with_reducible refine Kd.C_alloc ?_ _)|(with_reducible refine Kd.C_drewN ?_ _)|(with_reducible refine Kd.C_drew ?_)));(case side4=>exact HC1.out);rintro e w' ⟨rfl,⟨nd,rfl⟩⟩;(try first|exact ⟨rfl,_,World.drewN_drewN _ _ _⟩|exact ⟨rfl,_,Eq.trans (World.drewN_drewN _ _ _) (congrArg (World.drewN _) (Nat.add_assoc _ _ _))⟩)))
  repeat (go_quiet (first|(go_at_call 25;(with_reducible refine (Ab7.calls _ _ l0 _ _ l1 true _ ?side1 ?side2 ?side3 ?side4 A3.out).mono ?_);(case side1=>repeat (first|exact HR0.out|(with_reducible refine Kd.C_alloc ?_ _)|(with_reducible refine Kd.C_drewN ?_ _)|(with_reducible refine Kd.C_drew ?_)));(case side2=>exact HC0.out);(case side3=>repeat (first|exact HR1.out|(with_reducible refine Kd.C_alloc ?_ _)|(with_reducible refine Kd.C_drewN ?_ _)|(with_reducible refine Kd.C_drew ?_)));(case side4=>exact HC1.out);rintro e w' ⟨rfl,⟨nd,rfl⟩⟩;(try first|exact ⟨rfl,_,World.drewN_drewN _ _ _⟩|exact ⟨rfl,_,Eq.trans (World.drewN_drewN _ _ _) (congrArg (World.drewN _) (Nat.add_assoc _ _ _))⟩)));try go_wp2_with (first|(go_at_call 25;(with_reducible refine (Ab7.calls _ _ l0 _ _ l1 true _ ?side1 ?side2 ?side3 ?side4 A3.out).mono ?_);(case side1=>repeat (first|exact HR0.out|(with_reducible refine Kd.C_alloc ?_ _)|(with_reducible refine Kd.C_drewN ?_ _)|(with_reducible refine Kd.C_drew ?_)));(case side2=>exact HC0.out);(case side3=>repeat (first|exact HR1.out|(with_reducible refine Kd.C_alloc ?_ _)|(with_reducible refine Kd.C_drewN ?_ _)|(with_reducible refine Kd.C_drew ?_)));(case side4=>exact HC1.out);rintro e w' ⟨rfl,⟨nd,rfl⟩⟩;(try first|exact ⟨rfl,_,World.drewN_drewN _ _ _⟩|exact ⟨rfl,_,Eq.trans (World.drewN_drewN _ _ _) (congrArg (World.drewN _) (Nat.add_assoc _ _ _))⟩))))
  go_ret
  exact ⟨by first|rfl|(simp [errW_none,errW_some] <;> rfl)|(simp [*,errW_none,errW_some] <;> rfl),bb_⟩
 ·replace c4:=Bool.eq_false_iff.mpr c4;subst c4;have H1 : ((Abk.f k l0).bind fun Am=>((Abq.f k Am.1 Am.2).bind fun Ar=>((Aao.f k Am.1 Am.2).bind fun An=>(if (Ar.2 != An.2) = true then (Aab.j0 k Ar.1 An.2 true Am.1 Am.2) else ((Abc.f k Ar.1 An.1).bind fun Ax=>(Aab.j0 k Ar.1 An.2 (!Ax) Am.1 Am.2)))))) = some r:=by rw [if_neg (show ¬ (false = true) by decide)] at H;exact H
  clear H;have H:=H1;clear H1;replace H:=Option.bind_eq_some_iff.mp H;obtain ⟨⟨Af,Ad⟩,A50,H⟩:=H;replace H : ((Abq.f k Af Ad).bind fun Ar=>((Aao.f k Af Ad).bind fun An=>(if (Ar.2 != An.2) = true then (Aab.j0 k Ar.1 An.2 true Af Ad) else ((Abc.f k Ar.1 An.1).bind fun Ax=>(Aab.j0 k Ar.1 An.2 (!Ax) Af Ad))))) = some r:=H;have A5:=A_ A50;clear A50;replace H:=Option.bind_eq_some_iff.mp H;obtain ⟨⟨Ab,Bb⟩,A60,H⟩:=H;replace H : ((Aao.f k Af Ad).bind fun An=>(if (Bb != An.2) = true then (Aab.j0 k Ab An.2 true Af Ad) else ((Abc.f k Ab An.1).bind fun Ax=>(Aab.j0 k Ab An.2 (!Ax) Af Ad)))) = some r:=H;have A6:=A_ A60;clear A60;replace H:=Option.bind_eq_some_iff.mp H;obtain ⟨⟨Bg,Aw⟩,A70,H⟩:=H;replace H : (if (Bb != Aw) = true then (Aab.j0 k Ab Aw true Af Ad) else ((Abc.f k Ab Bg).bind fun Ax=>(Aab.j0 k Ab Aw (!Ax) Af Ad))) = some r:=H;have A7:=A_ A70;clear A70;have HC8:=A_ H;clear H;go_enter Tryd.func13,Tryd.ntmps13
  go_upto_region 6 with (first|(go_at_call 25;(with_reducible refine (Ab7.calls _ _ l0 _ _ l1 false _ ?side1 ?side2 ?side3 ?side4 A3.out).mono ?_);(case side1=>repeat (first|exact HR0.out|(with_reducible refine Kd.C_alloc ?_ _)|(with_reducible refine Kd.C_drewN ?_ _)|(with_reducible refine Kd.C_drew ?_)));(case side2=>exact HC0.out);(case side3=>repeat (first|exact HR1.out|(with_reducible refine Kd.C_alloc ?_ _)|(with_reducible refine Kd.C_drewN ?_ _)|(with_reducible refine Kd.C_drew ?_)));(case side4=>exact HC1.out);rintro e w' ⟨rfl,⟨nd,rfl⟩⟩;(try first|exact ⟨rfl,_,World.drewN_drewN _ _ _⟩|exact ⟨rfl,_,Eq.trans (World.drewN_drewN _ _ _) (congrArg (World.drewN _) (Nat.add_assoc _ _ _))⟩))|(go_at_call 99;(with_reducible refine (Abk.calls k _ _ l0 Af Ad _ ?side1 ?side2 A5.out).mono ?_);(case side1=>repeat (first|exact HR0.out|(with_reducible refine Kd.C_alloc ?_ _)|(with_reducible refine Kd.C_drewN ?_ _)|(with_reducible refine Kd.C_drew ?_)));(case side2=>exact HC0.out);rintro e w9 ⟨B8,rfl,ho0,hb⟩;have Aj:=A_ (Kd.R_lower ho0 (below_size bb_));replace HB:=A_ (below_step bb_ hb);(try clear hb);(try clear hb2);(try clear hk);(try clear hi);(try clear ho0))|((with_reducible refine gate_dst (N:=5) rfl ?_);(try (refine gate_guard (by rfl) ?_;dsimp only));refine box_event ?hg (N:=5) ?hd (cs:=#[.int .i64 0,.slice none 0 0]) (t:=28) ?hr ?_;(case hd=>rfl);(case hg=>rfl);(case hr=>go_simp;try rfl);intro Ai hg w10 hbox hb;replace Aj:=rb_ Aj hb;have Aa:=A_ (hbox);have Bz:=A_ (gw_ (w:=w) hg bb_);have B0:=A_ (gw_ (w:=w) hg bb_);replace HB:=A_ (below_step bb_ hb);clear hb hbox hg;have hcz11_0 : w10.cell? ⟨Ai,0,none⟩ = some (.int .i64 0):=blk_cell Aa.out 0;have hcz11_1 : w10.cell? ⟨Ai,1,none⟩ = some (.slice none 0 0):=blk_cell Aa.out 1;have hfz11_0:=blk_frozen Aa.out 0;have hfz11_1:=blk_frozen Aa.out 1;obtain ⟨Ao12,co12,eo12⟩:=Kd.R_slice Aj.out;subst eo12)|(go_at_call 60;(with_reducible refine (Abq.calls k Af _ _ Ad Ab Bb _ ?side1 ?side2 ?side3 A6.out).mono ?_);(case side1=>refine (Kd.R_reads' (e:=3) (base:=w.heap.size) (ok:=fun k_=>True) (n:=Ad.length) (c:=co12) ?_).2.2;exact (rq_ (rf_ Aj Aa (.int .i64 Af) (.slice Ao12 Ad.length co12))));(case side2=>exact (Kd.R_reads' Aj.out).2.1);(case side3=>first|exact HT.out|exact HT.out.below bb_|(repeat (first|exact HT.out|apply TabOK.drewN|apply TabOK.drew|apply TabOK.alloc)));rintro e w13 ⟨Bh,rfl,ho0,hb⟩;have Aq:=A_ (Kd.R_lower (Kd.R_new' ho0 (Kd.R_lt (rq_ (rf_ Aj Aa (.int .i64 Af) (.slice Ao12 Ad.length co12))))) (below_size bb_));replace Aj:=A_ (Kd.R_elder' (rq_ (rf_ Aj Aa (.int .i64 Af) (.slice Ao12 Ad.length co12))) (Kd.R_base ho0) hb);replace Aa:=A_ (blk_below (g:=Ai) (o:=.cells #[.int .i64 Af,.slice Ao12 Ad.length co12] 28 (0,0)) (by (with_reducible repeat (first|refine blk_drewN ?_ _|refine blk_drew ?_|refine blk_alloc ?_ _));refine blk_put (cs:=#[.int .i64 Af,.slice none 0 0]) ?_ 1 _ rfl;(with_reducible repeat (first|refine blk_drewN ?_ _|refine blk_drew ?_|refine blk_alloc ?_ _));refine blk_put (cs:=#[.int .i64 0,.slice none 0 0]) ?_ 0 _ rfl;(with_reducible repeat (first|refine blk_drewN ?_ _|refine blk_drew ?_|refine blk_alloc ?_ _));exact Aa.out) hb);replace HB:=A_ (below_step bb_ hb);(try clear hb);(try clear hb2);(try clear hk);(try clear hi);(try clear ho0);have hcz14_0 : w13.cell? ⟨Ai,0,none⟩ = some (.int .i64 Af):=blk_cell Aa.out 0;have hcz14_1 : w13.cell? ⟨Ai,1,none⟩ = some (.slice Ao12 Ad.length co12):=blk_cell Aa.out 1;have hfz14_0:=blk_frozen Aa.out 0;have hfz14_1:=blk_frozen Aa.out 1)|(go_at_call 100;(with_reducible refine (Aao.calls k Af _ _ Ad Bg Aw _ ?side1 ?side2 A7.out).mono ?_);(case side1=>exact cl_ (Kd.R_reads' Aj.out).2.2);(case side2=>exact (Kd.R_reads' Aj.out).2.1);rintro e w15 ⟨Ca,rfl,ho0,hb⟩;have Bc:=A_ (Kd.R_lower (Kd.R_new' (Kd.R_new' ho0 (Kd.R_lt (rl_ Aj))) (Kd.R_lt (rl_ Aq))) (below_size bb_));replace Aj:=A_ (Kd.R_elder' (rl_ Aj) (Kd.R_base ho0) hb);replace Aq:=A_ (Kd.R_elder' (rl_ Aq) (Kd.R_base ho0) hb);replace Aa:=bz Aa hb;replace HB:=A_ (below_step bb_ hb);(try clear hb);(try clear hb2);(try clear hk);(try clear hi);(try clear ho0)))
  repeat (go_quiet (first|(go_at_call 25;(with_reducible refine (Ab7.calls _ _ l0 _ _ l1 false _ ?side1 ?side2 ?side3 ?side4 A3.out).mono ?_);(case side1=>repeat (first|exact HR0.out|(with_reducible refine Kd.C_alloc ?_ _)|(with_reducible refine Kd.C_drewN ?_ _)|(with_reducible refine Kd.C_drew ?_)));(case side2=>exact HC0.out);(case side3=>repeat (first|exact HR1.out|(with_reducible refine Kd.C_alloc ?_ _)|(with_reducible refine Kd.C_drewN ?_ _)|(with_reducible refine Kd.C_drew ?_)));(case side4=>exact HC1.out);rintro e w' ⟨rfl,⟨nd,rfl⟩⟩;(try first|exact ⟨rfl,_,World.drewN_drewN _ _ _⟩|exact ⟨rfl,_,Eq.trans (World.drewN_drewN _ _ _) (congrArg (World.drewN _) (Nat.add_assoc _ _ _))⟩))|(go_at_call 99;(with_reducible refine (Abk.calls k _ _ l0 Af Ad _ ?side1 ?side2 A5.out).mono ?_);(case side1=>repeat (first|exact HR0.out|(with_reducible refine Kd.C_alloc ?_ _)|(with_reducible refine Kd.C_drewN ?_ _)|(with_reducible refine Kd.C_drew ?_)));(case side2=>exact HC0.out);rintro e w9 ⟨B8,rfl,ho0,hb⟩;have Aj:=A_ (Kd.R_lower ho0 (below_size bb_));replace HB:=A_ (below_step bb_ hb);(try clear hb);(try clear hb2);(try clear hk);(try clear hi);(try clear ho0))|((with_reducible refine gate_dst (N:=5) rfl ?_);(try (refine gate_guard (by rfl) ?_;dsimp only));refine box_event ?hg (N:=5) ?hd (cs:=#[.int .i64 0,.slice none 0 0]) (t:=28) ?hr ?_;(case hd=>rfl);(case hg=>rfl);(case hr=>go_simp;try rfl);intro Ai hg w10 hbox hb;replace Aj:=rb_ Aj hb;have Aa:=A_ (hbox);have Bz:=A_ (gw_ (w:=w) hg bb_);have B0:=A_ (gw_ (w:=w) hg bb_);replace HB:=A_ (below_step bb_ hb);clear hb hbox hg;have hcz11_0 : w10.cell? ⟨Ai,0,none⟩ = some (.int .i64 0):=blk_cell Aa.out 0;have hcz11_1 : w10.cell? ⟨Ai,1,none⟩ = some (.slice none 0 0):=blk_cell Aa.out 1;have hfz11_0:=blk_frozen Aa.out 0;have hfz11_1:=blk_frozen Aa.out 1;obtain ⟨Ao12,co12,eo12⟩:=Kd.R_slice Aj.out;subst eo12)|(go_at_call 60;(with_reducible refine (Abq.calls k Af _ _ Ad Ab Bb _ ?side1 ?side2 ?side3 A6.out).mono ?_);(case side1=>refine (Kd.R_reads' (e:=3) (base:=w.heap.size) (ok:=fun k_=>True) (n:=Ad.length) (c:=co12) ?_).2.2;exact (rq_ (rf_ Aj Aa (.int .i64 Af) (.slice Ao12 Ad.length co12))));(case side2=>exact (Kd.R_reads' Aj.out).2.1);(case side3=>first|exact HT.out|exact HT.out.below bb_|(repeat (first|exact HT.out|apply TabOK.drewN|apply TabOK.drew|apply TabOK.alloc)));rintro e w13 ⟨Bh,rfl,ho0,hb⟩;have Aq:=A_ (Kd.R_lower (Kd.R_new' ho0 (Kd.R_lt (rq_ (rf_ Aj Aa (.int .i64 Af) (.slice Ao12 Ad.length co12))))) (below_size bb_));replace Aj:=A_ (Kd.R_elder' (rq_ (rf_ Aj Aa (.int .i64 Af) (.slice Ao12 Ad.length co12))) (Kd.R_base ho0) hb);replace Aa:=A_ (blk_below (g:=Ai) (o:=.cells #[.int .i64 Af,.slice Ao12 Ad.length co12] 28 (0,0)) (by (with_reducible repeat (first|refine blk_drewN ?_ _|refine blk_drew ?_|refine blk_alloc ?_ _));refine blk_put (cs:=#[.int .i64 Af,.slice none 0 0]) ?_ 1 _ rfl;(with_reducible repeat (first|refine blk_drewN ?_ _|refine blk_drew ?_|refine blk_alloc ?_ _));refine blk_put (cs:=#[.int .i64 0,.slice none 0 0]) ?_ 0 _ rfl;(with_reducible repeat (first|refine blk_drewN ?_ _|refine blk_drew ?_|refine blk_alloc ?_ _));exact Aa.out) hb);replace HB:=A_ (below_step bb_ hb);(try clear hb);(try clear hb2);(try clear hk);(try clear hi);(try clear ho0);have hcz14_0 : w13.cell? ⟨Ai,0,none⟩ = some (.int .i64 Af):=blk_cell Aa.out 0;have hcz14_1 : w13.cell? ⟨Ai,1,none⟩ = some (.slice Ao12 Ad.length co12):=blk_cell Aa.out 1;have hfz14_0:=blk_frozen Aa.out 0;have hfz14_1:=blk_frozen Aa.out 1)|(go_at_call 100;(with_reducible refine (Aao.calls k Af _ _ Ad Bg Aw _ ?side1 ?side2 A7.out).mono ?_);(case side1=>exact cl_ (Kd.R_reads' Aj.out).2.2);(case side2=>exact (Kd.R_reads' Aj.out).2.1);rintro e w15 ⟨Ca,rfl,ho0,hb⟩;have Bc:=A_ (Kd.R_lower (Kd.R_new' (Kd.R_new' ho0 (Kd.R_lt (rl_ Aj))) (Kd.R_lt (rl_ Aq))) (below_size bb_));replace Aj:=A_ (Kd.R_elder' (rl_ Aj) (Kd.R_base ho0) hb);replace Aq:=A_ (Kd.R_elder' (rl_ Aq) (Kd.R_base ho0) hb);replace Aa:=bz Aa hb;replace HB:=A_ (below_step bb_ hb);(try clear hb);(try clear hb2);(try clear hk);(try clear hi);(try clear ho0)));go_upto_region 6 with (first|(go_at_call 25;(with_reducible refine (Ab7.calls _ _ l0 _ _ l1 false _ ?side1 ?side2 ?side3 ?side4 A3.out).mono ?_);(case side1=>repeat (first|exact HR0.out|(with_reducible refine Kd.C_alloc ?_ _)|(with_reducible refine Kd.C_drewN ?_ _)|(with_reducible refine Kd.C_drew ?_)));(case side2=>exact HC0.out);(case side3=>repeat (first|exact HR1.out|(with_reducible refine Kd.C_alloc ?_ _)|(with_reducible refine Kd.C_drewN ?_ _)|(with_reducible refine Kd.C_drew ?_)));(case side4=>exact HC1.out);rintro e w' ⟨rfl,⟨nd,rfl⟩⟩;(try first|exact ⟨rfl,_,World.drewN_drewN _ _ _⟩|exact ⟨rfl,_,Eq.trans (World.drewN_drewN _ _ _) (congrArg (World.drewN _) (Nat.add_assoc _ _ _))⟩))|(go_at_call 99;(with_reducible refine (Abk.calls k _ _ l0 Af Ad _ ?side1 ?side2 A5.out).mono ?_);(case side1=>repeat (first|exact HR0.out|(with_reducible refine Kd.C_alloc ?_ _)|(with_reducible refine Kd.C_drewN ?_ _)|(with_reducible refine Kd.C_drew ?_)));(case side2=>exact HC0.out);rintro e w9 ⟨B8,rfl,ho0,hb⟩;have Aj:=A_ (Kd.R_lower ho0 (below_size bb_));replace HB:=A_ (below_step bb_ hb);(try clear hb);(try clear hb2);(try clear hk);(try clear hi);(try clear ho0))|((with_reducible refine gate_dst (N:=5) rfl ?_);(try (refine gate_guard (by rfl) ?_;dsimp only));refine box_event ?hg (N:=5) ?hd (cs:=#[.int .i64 0,.slice none 0 0]) (t:=28) ?hr ?_;(case hd=>rfl);(case hg=>rfl);(case hr=>go_simp;try rfl);intro Ai hg w10 hbox hb;replace Aj:=rb_ Aj hb;have Aa:=A_ (hbox);have Bz:=A_ (gw_ (w:=w) hg bb_);have B0:=A_ (gw_ (w:=w) hg bb_);replace HB:=A_ (below_step bb_ hb);clear hb hbox hg;have hcz11_0 : w10.cell? ⟨Ai,0,none⟩ = some (.int .i64 0):=blk_cell Aa.out 0;have hcz11_1 : w10.cell? ⟨Ai,1,none⟩ = some (.slice none 0 0):=blk_cell Aa.out 1;have hfz11_0:=blk_frozen Aa.out 0;have hfz11_1:=blk_frozen Aa.out 1;obtain ⟨Ao12,co12,eo12⟩:=Kd.R_slice Aj.out;subst eo12)|(go_at_call 60;(with_reducible refine (Abq.calls k Af _ _ Ad Ab Bb _ ?side1 ?side2 ?side3 A6.out).mono ?_);(case side1=>refine (Kd.R_reads' (e:=3) (base:=w.heap.size) (ok:=fun k_=>True) (n:=Ad.length) (c:=co12) ?_).2.2;exact (rq_ (rf_ Aj Aa (.int .i64 Af) (.slice Ao12 Ad.length co12))));(case side2=>exact (Kd.R_reads' Aj.out).2.1);(case side3=>first|exact HT.out|exact HT.out.below bb_|(repeat (first|exact HT.out|apply TabOK.drewN|apply TabOK.drew|apply TabOK.alloc)));rintro e w13 ⟨Bh,rfl,ho0,hb⟩;have Aq:=A_ (Kd.R_lower (Kd.R_new' ho0 (Kd.R_lt (rq_ (rf_ Aj Aa (.int .i64 Af) (.slice Ao12 Ad.length co12))))) (below_size bb_));replace Aj:=A_ (Kd.R_elder' (rq_ (rf_ Aj Aa (.int .i64 Af) (.slice Ao12 Ad.length co12))) (Kd.R_base ho0) hb);replace Aa:=A_ (blk_below (g:=Ai) (o:=.cells #[.int .i64 Af,.slice Ao12 Ad.length co12] 28 (0,0)) (by (with_reducible repeat (first|refine blk_drewN ?_ _|refine blk_drew ?_|refine blk_alloc ?_ _));refine blk_put (cs:=#[.int .i64 Af,.slice none 0 0]) ?_ 1 _ rfl;(with_reducible repeat (first|refine blk_drewN ?_ _|refine blk_drew ?_|refine blk_alloc ?_ _));refine blk_put (cs:=#[.int .i64 0,.slice none 0 0]) ?_ 0 _ rfl;(with_reducible repeat (first|refine blk_drewN ?_ _|refine blk_drew ?_|refine blk_alloc ?_ _));exact Aa.out) hb);replace HB:=A_ (below_step bb_ hb);(try clear hb);(try clear hb2);(try clear hk);(try clear hi);(try clear ho0);have hcz14_0 : w13.cell? ⟨Ai,0,none⟩ = some (.int .i64 Af):=blk_cell Aa.out 0;have hcz14_1 : w13.cell? ⟨Ai,1,none⟩ = some (.slice Ao12 Ad.length co12):=blk_cell Aa.out 1;have hfz14_0:=blk_frozen Aa.out 0;have hfz14_1:=blk_frozen Aa.out 1)|(go_at_call 100;(with_reducible refine (Aao.calls k Af _ _ Ad Bg Aw _ ?side1 ?side2 A7.out).mono ?_);(case side1=>exact cl_ (Kd.R_reads' Aj.out).2.2);(case side2=>exact (Kd.R_reads' Aj.out).2.1);rintro e w15 ⟨Ca,rfl,ho0,hb⟩;have Bc:=A_ (Kd.R_lower (Kd.R_new' (Kd.R_new' ho0 (Kd.R_lt (rl_ Aj))) (Kd.R_lt (rl_ Aq))) (below_size bb_));replace Aj:=A_ (Kd.R_elder' (rl_ Aj) (Kd.R_base ho0) hb);replace Aq:=A_ (Kd.R_elder' (rl_ Aq) (Kd.R_base ho0) hb);replace Aa:=bz Aa hb;replace HB:=A_ (below_step bb_ hb);(try clear hb);(try clear hb2);(try clear hk);(try clear hi);(try clear ho0))))
  (try simp only [Act.put,L_,M_,N_]);go_cut [47] (fun v47 wc=>∃ (kq : Nat) (x47_7 : Bool),v47 = .bool x47_7 ∧ Aside0 (Aab.j0 kq Ab Aw x47_7 Af Ad = some r) ∧ Aside0 (kq ≤ k) ∧ Aside0 (Kd.R (Kd.int .i64) 3 wc w.heap.size (fun k_=>some k_ ≠ ((.slice Ao12 Ad.length co12) : Value).ownBlock) Bh Ab) ∧ Aside0 (Kd.R (Kd.int .i64) 3 wc w.heap.size (fun k_=>some k_ ≠ (Bh : Value).ownBlock) (.slice Ao12 Ad.length co12) Ad) ∧ Aside0 (wc.heap[Ai]? = some (.cells #[.int .i64 Af,(.slice Ao12 Ad.length co12)] 28 (0,0))) ∧ Aside0 (Below w.heap.size w wc))
  case first =>
   have H:=HC8.out;clear HC8;by_cases c16 : (Bb != Aw) = true
   ·rw [if_pos c16] at H;have c16b0 : (Bb != Aw) = true:=c16;(try (have c16b1 : decide (Bb = Aw) = false:=by simpa using c16));(try (have c16b2 : (Bb == Aw) = false:=by simpa using c16));(try (have c16b3 : ¬ (Bb = Aw):=by simpa using c16));clear c16;(first|rw [c16b0]|(simp only [i64_w,i32_w];rw [c16b0])|skip)
    have H':=A_ H;clear H;go_wp2
    repeat (go_quiet (fail);try go_wp2)
    go_meet
    case rel=>exact ⟨_,(true),(by first|rfl|(simp;done)|(simp [*];done)),H',⟨by first|omega|exact Nat.le_refl _⟩,⟨rq_ (Kd.R_mono Aq.out (fun _ hk=>hk.1.2))⟩,⟨rq_ (Kd.R_mono Aj.out (fun _ hk=>hk.1.2))⟩,⟨bl_ Aa⟩,⟨bb_⟩⟩
   ·rw [if_neg c16] at H;have c16b0 : (Bb != Aw) = false:=by simpa using c16
    (try (have c16b1 : decide (Bb = Aw) = true:=by simpa using c16));(try (have c16b2 : (Bb == Aw) = true:=by simpa using c16));clear c16;(first|rw [c16b0]|(simp only [i64_w,i32_w];rw [c16b0])|skip)
    replace H:=Option.bind_eq_some_iff.mp H;obtain ⟨Ax,Cb,H⟩:=H;replace H : (Aab.j0 k Ab Aw (!Ax) Af Ad) = some r:=H;have A17:=A_ Cb;clear Cb;have H':=A_ H;clear H;obtain ⟨Ao18,co18,eo18⟩:=Kd.R_slice Aq.out;subst eo18;obtain ⟨Ao19,co19,eo19⟩:=Kd.R_slice Bc.out;subst eo19;go_wp2_with (first|(go_at_call 56;(with_reducible refine (Abc.calls k _ _ Ab _ _ Bg Ax _ ?side1 ?side2 ?side3 ?side4 A17.out).mono ?_);(case side1=>exact cl_ (Kd.R_reads' Aq.out).2.2);(case side2=>exact (Kd.R_reads' Aq.out).2.1);(case side3=>exact cl_ (Kd.R_reads' Bc.out).2.2);(case side4=>exact (Kd.R_reads' Bc.out).2.1);rintro e w' ⟨rfl,⟨nd,rfl⟩⟩;(try first|exact ⟨rfl,_,World.drewN_drewN _ _ _⟩|exact ⟨rfl,_,Eq.trans (World.drewN_drewN _ _ _) (congrArg (World.drewN _) (Nat.add_assoc _ _ _))⟩)))
    repeat (go_quiet (first|(go_at_call 56;(with_reducible refine (Abc.calls k _ _ Ab _ _ Bg Ax _ ?side1 ?side2 ?side3 ?side4 A17.out).mono ?_);(case side1=>exact cl_ (Kd.R_reads' Aq.out).2.2);(case side2=>exact (Kd.R_reads' Aq.out).2.1);(case side3=>exact cl_ (Kd.R_reads' Bc.out).2.2);(case side4=>exact (Kd.R_reads' Bc.out).2.1);rintro e w' ⟨rfl,⟨nd,rfl⟩⟩;(try first|exact ⟨rfl,_,World.drewN_drewN _ _ _⟩|exact ⟨rfl,_,Eq.trans (World.drewN_drewN _ _ _) (congrArg (World.drewN _) (Nat.add_assoc _ _ _))⟩)));try go_wp2_with (first|(go_at_call 56;(with_reducible refine (Abc.calls k _ _ Ab _ _ Bg Ax _ ?side1 ?side2 ?side3 ?side4 A17.out).mono ?_);(case side1=>exact cl_ (Kd.R_reads' Aq.out).2.2);(case side2=>exact (Kd.R_reads' Aq.out).2.1);(case side3=>exact cl_ (Kd.R_reads' Bc.out).2.2);(case side4=>exact (Kd.R_reads' Bc.out).2.1);rintro e w' ⟨rfl,⟨nd,rfl⟩⟩;(try first|exact ⟨rfl,_,World.drewN_drewN _ _ _⟩|exact ⟨rfl,_,Eq.trans (World.drewN_drewN _ _ _) (congrArg (World.drewN _) (Nat.add_assoc _ _ _))⟩))))
    go_meet
    case rel=>exact ⟨_,(!Ax),(by first|rfl|(simp;done)|(simp [*];done)),H',⟨by first|omega|exact Nat.le_refl _⟩,⟨rq_ (Kd.R_mono Aq.out (fun _ hk=>hk.1.2))⟩,⟨rq_ (Kd.R_mono Aj.out (fun _ hk=>hk.1.2))⟩,⟨bl_ Aa⟩,⟨bb_⟩⟩
  case rest =>
   clear HC8;try clear c1
   try clear p2
   try clear c4
   try clear c13
   try clear c16
   try clear c16b0
   try clear c16b1
   try clear c16b2
   try clear hcz11_0
   try clear hcz11_1
   try clear hcz14_0
   try clear hcz14_1
   try clear hfz11_0
   try clear hfz11_1
   try clear hfz14_0
   try clear hfz14_1
   obtain ⟨kq,x47_7,rfl,HA,HJ7,HO_6,Ae,Aa,HB⟩:=hcut;cases kq with
   | zero=>exact absurd HA.out (by simp [Aab.j0])
   | succ kj7 =>
    have H:=HA.out;clear HA;simp only [Aab.j0] at H
    by_cases c20 : x47_7 = true
    ·subst c20;have H1 : (some false) = some r:=by rw [if_pos rfl] at H;exact H
     clear H;have H:=H1;clear H1;obtain rfl:=Option.some.inj H;go_wp2
     repeat (go_quiet (fail);try go_wp2)
     go_ret
     exact ⟨by first|rfl|(simp [errW_none,errW_some] <;> rfl)|(simp [*,errW_none,errW_some] <;> rfl),bb_⟩
    ·replace c20:=Bool.eq_false_iff.mpr c20;subst c20;have H1 : (if Aw = true then ((Ab1.f kj7 Af Ad).bind fun Ba=>((Abo.f kj7 Af Ad).bind fun Bd=>((Aa9.f kj7 Af Ad).bind fun Ao=>(if Ba.2 = true then (if Bd.2 = true then (if Ao.2 = true then (Aab.j1 kj7 Ab Ba.1 Ao.1 ((Ab.length : Int) != Bd.1) Af Ad) else (Aab.j1 kj7 Ab Ba.1 Ao.1 true Af Ad)) else (Aab.j1 kj7 Ab Ba.1 Ao.1 true Af Ad)) else (Aab.j1 kj7 Ab Ba.1 Ao.1 true Af Ad))))) else (some true)) = some r:=by rw [if_neg (show ¬ (false = true) by decide)] at H;exact H
     clear H;have H:=H1;clear H1;by_cases c21 : Aw = true
     ·subst c21;have H1 : ((Ab1.f kj7 Af Ad).bind fun Ba=>((Abo.f kj7 Af Ad).bind fun Bd=>((Aa9.f kj7 Af Ad).bind fun Ao=>(if Ba.2 = true then (if Bd.2 = true then (if Ao.2 = true then (Aab.j1 kj7 Ab Ba.1 Ao.1 ((Ab.length : Int) != Bd.1) Af Ad) else (Aab.j1 kj7 Ab Ba.1 Ao.1 true Af Ad)) else (Aab.j1 kj7 Ab Ba.1 Ao.1 true Af Ad)) else (Aab.j1 kj7 Ab Ba.1 Ao.1 true Af Ad))))) = some r:=by rw [if_pos rfl] at H;exact H
      clear H;have H:=H1;clear H1;replace H:=Option.bind_eq_some_iff.mp H;obtain ⟨⟨Ac,Bi⟩,Cc,H⟩:=H;replace H : ((Abo.f kj7 Af Ad).bind fun Bd=>((Aa9.f kj7 Af Ad).bind fun Ao=>(if Bi = true then (if Bd.2 = true then (if Ao.2 = true then (Aab.j1 kj7 Ab Ac Ao.1 ((Ab.length : Int) != Bd.1) Af Ad) else (Aab.j1 kj7 Ab Ac Ao.1 true Af Ad)) else (Aab.j1 kj7 Ab Ac Ao.1 true Af Ad)) else (Aab.j1 kj7 Ab Ac Ao.1 true Af Ad)))) = some r:=H;have A22:=A_ Cc;clear Cc;replace H:=Option.bind_eq_some_iff.mp H;obtain ⟨⟨Be,Bj⟩,Cd,H⟩:=H;replace H : ((Aa9.f kj7 Af Ad).bind fun Ao=>(if Bi = true then (if Bj = true then (if Ao.2 = true then (Aab.j1 kj7 Ab Ac Ao.1 ((Ab.length : Int) != Be) Af Ad) else (Aab.j1 kj7 Ab Ac Ao.1 true Af Ad)) else (Aab.j1 kj7 Ab Ac Ao.1 true Af Ad)) else (Aab.j1 kj7 Ab Ac Ao.1 true Af Ad))) = some r:=H;have A23:=A_ Cd;clear Cd;replace H:=Option.bind_eq_some_iff.mp H;obtain ⟨⟨Ak,Bk⟩,Ce,H⟩:=H;replace H : (if Bi = true then (if Bj = true then (if Bk = true then (Aab.j1 kj7 Ab Ac Ak ((Ab.length : Int) != Be) Af Ad) else (Aab.j1 kj7 Ab Ac Ak true Af Ad)) else (Aab.j1 kj7 Ab Ac Ak true Af Ad)) else (Aab.j1 kj7 Ab Ac Ak true Af Ad)) = some r:=H;have A24:=A_ Ce;clear Ce;have HC25:=A_ H;clear H;have hcz26_0 : wc.cell? ⟨Ai,0,none⟩ = some (.int .i64 Af):=blk_cell Aa.out 0;have hcz26_1 : wc.cell? ⟨Ai,1,none⟩ = some (.slice Ao12 Ad.length co12):=blk_cell Aa.out 1;have hfz26_0:=blk_frozen Aa.out 0;have hfz26_1:=blk_frozen Aa.out 1;go_upto_region 13 with (first|(go_at_call 48;(with_reducible refine (Ab1.calls kj7 Af _ _ Ad Ac Bi _ ?side1 ?side2 ?side3 A22.out).mono ?_);(case side1=>exact cl_ (Kd.R_reads' Ae.out).2.2);(case side2=>exact (Kd.R_reads' Ae.out).2.1);(case side3=>first|exact HT.out|exact HT.out.below bb_|(repeat (first|exact HT.out|apply TabOK.drewN|apply TabOK.drew|apply TabOK.alloc)));rintro e w27 ⟨Br,rfl,ho0,hb⟩;replace HO_6:=rb_ HO_6 hb;replace Ae:=rb_ Ae hb;have At:=A_ (Kd.R_lower ho0 (below_size bb_));replace Aa:=bz Aa hb;replace HB:=A_ (below_step bb_ hb);(try clear hb);(try clear hb2);(try clear hk);(try clear hi);(try clear ho0);have hcz28_0 : w27.cell? ⟨Ai,0,none⟩ = some (.int .i64 Af):=blk_cell Aa.out 0;have hcz28_1 : w27.cell? ⟨Ai,1,none⟩ = some (.slice Ao12 Ad.length co12):=blk_cell Aa.out 1;have hfz28_0:=blk_frozen Aa.out 0;have hfz28_1:=blk_frozen Aa.out 1)|(go_at_call 59;(with_reducible refine (Abo.calls kj7 Af _ _ Ad Be Bj _ ?side1 ?side2 ?side3 A23.out).mono ?_);(case side1=>exact cl_ (Kd.R_reads' Ae.out).2.2);(case side2=>exact (Kd.R_reads' Ae.out).2.1);(case side3=>first|exact HT.out|exact HT.out.below bb_|(repeat (first|exact HT.out|apply TabOK.drewN|apply TabOK.drew|apply TabOK.alloc)));rintro e w29 ⟨rfl,hb⟩;replace HO_6:=rb_ HO_6 hb;replace Ae:=rb_ Ae hb;replace At:=rb_ At hb;replace Aa:=bz Aa hb;replace HB:=A_ (below_step bb_ hb);(try clear hb);(try clear hb2);(try clear hk);(try clear hi);have hcz30_0 : w29.cell? ⟨Ai,0,none⟩ = some (.int .i64 Af):=blk_cell Aa.out 0;have hcz30_1 : w29.cell? ⟨Ai,1,none⟩ = some (.slice Ao12 Ad.length co12):=blk_cell Aa.out 1;have hfz30_0:=blk_frozen Aa.out 0;have hfz30_1:=blk_frozen Aa.out 1)|(go_at_call 101;(with_reducible refine (Aa9.calls kj7 Af _ _ Ad Ak Bk _ ?side1 ?side2 ?side3 A24.out).mono ?_);(case side1=>exact cl_ (Kd.R_reads' Ae.out).2.2);(case side2=>exact (Kd.R_reads' Ae.out).2.1);(case side3=>first|exact HT.out|exact HT.out.below bb_|(repeat (first|exact HT.out|apply TabOK.drewN|apply TabOK.drew|apply TabOK.alloc)));rintro e w31 ⟨Au,rfl,ho0,hb⟩;replace At:=rb_ At hb;have Bf:=A_ (Kd.R_lower (Kd.R_new' (Kd.R_new' ho0 (Kd.R_lt (rl_ HO_6))) (Kd.R_lt (rl_ Ae))) (below_size bb_));replace HO_6:=A_ (Kd.R_elder' (rl_ HO_6) (Kd.R_base ho0) hb);replace Ae:=A_ (Kd.R_elder' (rl_ Ae) (Kd.R_base ho0) hb);replace Aa:=bz Aa hb;replace HB:=A_ (below_step bb_ hb);(try clear hb);(try clear hb2);(try clear hk);(try clear hi);(try clear ho0)))
      repeat (go_quiet (first|(go_at_call 48;(with_reducible refine (Ab1.calls kj7 Af _ _ Ad Ac Bi _ ?side1 ?side2 ?side3 A22.out).mono ?_);(case side1=>exact cl_ (Kd.R_reads' Ae.out).2.2);(case side2=>exact (Kd.R_reads' Ae.out).2.1);(case side3=>first|exact HT.out|exact HT.out.below bb_|(repeat (first|exact HT.out|apply TabOK.drewN|apply TabOK.drew|apply TabOK.alloc)));rintro e w27 ⟨Br,rfl,ho0,hb⟩;replace HO_6:=rb_ HO_6 hb;replace Ae:=rb_ Ae hb;have At:=A_ (Kd.R_lower ho0 (below_size bb_));replace Aa:=bz Aa hb;replace HB:=A_ (below_step bb_ hb);(try clear hb);(try clear hb2);(try clear hk);(try clear hi);(try clear ho0);have hcz28_0 : w27.cell? ⟨Ai,0,none⟩ = some (.int .i64 Af):=blk_cell Aa.out 0;have hcz28_1 : w27.cell? ⟨Ai,1,none⟩ = some (.slice Ao12 Ad.length co12):=blk_cell Aa.out 1;have hfz28_0:=blk_frozen Aa.out 0;have hfz28_1:=blk_frozen Aa.out 1)|(go_at_call 59;(with_reducible refine (Abo.calls kj7 Af _ _ Ad Be Bj _ ?side1 ?side2 ?side3 A23.out).mono ?_);(case side1=>exact cl_ (Kd.R_reads' Ae.out).2.2);(case side2=>exact (Kd.R_reads' Ae.out).2.1);(case side3=>first|exact HT.out|exact HT.out.below bb_|(repeat (first|exact HT.out|apply TabOK.drewN|apply TabOK.drew|apply TabOK.alloc)));rintro e w29 ⟨rfl,hb⟩;replace HO_6:=rb_ HO_6 hb;replace Ae:=rb_ Ae hb;replace At:=rb_ At hb;replace Aa:=bz Aa hb;replace HB:=A_ (below_step bb_ hb);(try clear hb);(try clear hb2);(try clear hk);(try clear hi);have hcz30_0 : w29.cell? ⟨Ai,0,none⟩ = some (.int .i64 Af):=blk_cell Aa.out 0;have hcz30_1 : w29.cell? ⟨Ai,1,none⟩ = some (.slice Ao12 Ad.length co12):=blk_cell Aa.out 1;have hfz30_0:=blk_frozen Aa.out 0;have hfz30_1:=blk_frozen Aa.out 1)|(go_at_call 101;(with_reducible refine (Aa9.calls kj7 Af _ _ Ad Ak Bk _ ?side1 ?side2 ?side3 A24.out).mono ?_);(case side1=>exact cl_ (Kd.R_reads' Ae.out).2.2);(case side2=>exact (Kd.R_reads' Ae.out).2.1);(case side3=>first|exact HT.out|exact HT.out.below bb_|(repeat (first|exact HT.out|apply TabOK.drewN|apply TabOK.drew|apply TabOK.alloc)));rintro e w31 ⟨Au,rfl,ho0,hb⟩;replace At:=rb_ At hb;have Bf:=A_ (Kd.R_lower (Kd.R_new' (Kd.R_new' ho0 (Kd.R_lt (rl_ HO_6))) (Kd.R_lt (rl_ Ae))) (below_size bb_));replace HO_6:=A_ (Kd.R_elder' (rl_ HO_6) (Kd.R_base ho0) hb);replace Ae:=A_ (Kd.R_elder' (rl_ Ae) (Kd.R_base ho0) hb);replace Aa:=bz Aa hb;replace HB:=A_ (below_step bb_ hb);(try clear hb);(try clear hb2);(try clear hk);(try clear hi);(try clear ho0)));go_upto_region 13 with (first|(go_at_call 48;(with_reducible refine (Ab1.calls kj7 Af _ _ Ad Ac Bi _ ?side1 ?side2 ?side3 A22.out).mono ?_);(case side1=>exact cl_ (Kd.R_reads' Ae.out).2.2);(case side2=>exact (Kd.R_reads' Ae.out).2.1);(case side3=>first|exact HT.out|exact HT.out.below bb_|(repeat (first|exact HT.out|apply TabOK.drewN|apply TabOK.drew|apply TabOK.alloc)));rintro e w27 ⟨Br,rfl,ho0,hb⟩;replace HO_6:=rb_ HO_6 hb;replace Ae:=rb_ Ae hb;have At:=A_ (Kd.R_lower ho0 (below_size bb_));replace Aa:=bz Aa hb;replace HB:=A_ (below_step bb_ hb);(try clear hb);(try clear hb2);(try clear hk);(try clear hi);(try clear ho0);have hcz28_0 : w27.cell? ⟨Ai,0,none⟩ = some (.int .i64 Af):=blk_cell Aa.out 0;have hcz28_1 : w27.cell? ⟨Ai,1,none⟩ = some (.slice Ao12 Ad.length co12):=blk_cell Aa.out 1;have hfz28_0:=blk_frozen Aa.out 0;have hfz28_1:=blk_frozen Aa.out 1)|(go_at_call 59;(with_reducible refine (Abo.calls kj7 Af _ _ Ad Be Bj _ ?side1 ?side2 ?side3 A23.out).mono ?_);(case side1=>exact cl_ (Kd.R_reads' Ae.out).2.2);(case side2=>exact (Kd.R_reads' Ae.out).2.1);(case side3=>first|exact HT.out|exact HT.out.below bb_|(repeat (first|exact HT.out|apply TabOK.drewN|apply TabOK.drew|apply TabOK.alloc)));rintro e w29 ⟨rfl,hb⟩;replace HO_6:=rb_ HO_6 hb;replace Ae:=rb_ Ae hb;replace At:=rb_ At hb;replace Aa:=bz Aa hb;replace HB:=A_ (below_step bb_ hb);(try clear hb);(try clear hb2);(try clear hk);(try clear hi);have hcz30_0 : w29.cell? ⟨Ai,0,none⟩ = some (.int .i64 Af):=blk_cell Aa.out 0;have hcz30_1 : w29.cell? ⟨Ai,1,none⟩ = some (.slice Ao12 Ad.length co12):=blk_cell Aa.out 1;have hfz30_0:=blk_frozen Aa.out 0;have hfz30_1:=blk_frozen Aa.out 1)|(go_at_call 101;(with_reducible refine (Aa9.calls kj7 Af _ _ Ad Ak Bk _ ?side1 ?side2 ?side3 A24.out).mono ?_);(case side1=>exact cl_ (Kd.R_reads' Ae.out).2.2);(case side2=>exact (Kd.R_reads' Ae.out).2.1);(case side3=>first|exact HT.out|exact HT.out.below bb_|(repeat (first|exact HT.out|apply TabOK.drewN|apply TabOK.drew|apply TabOK.alloc)));rintro e w31 ⟨Au,rfl,ho0,hb⟩;replace At:=rb_ At hb;have Bf:=A_ (Kd.R_lower (Kd.R_new' (Kd.R_new' ho0 (Kd.R_lt (rl_ HO_6))) (Kd.R_lt (rl_ Ae))) (below_size bb_));replace HO_6:=A_ (Kd.R_elder' (rl_ HO_6) (Kd.R_base ho0) hb);replace Ae:=A_ (Kd.R_elder' (rl_ Ae) (Kd.R_base ho0) hb);replace Aa:=bz Aa hb;replace HB:=A_ (below_step bb_ hb);(try clear hb);(try clear hb2);(try clear hk);(try clear hi);(try clear ho0))))
      (try simp only [Act.put,L_,M_,N_]);go_cut [80] (fun v80 wc=>∃ (kq : Nat) (x80_24 : Bool),v80 = .bool x80_24 ∧ Aside0 (Aab.j1 kq Ab Ac Ak x80_24 Af Ad = some r) ∧ Aside0 (kq ≤ kj7) ∧ Aside0 (Kd.R (Kd.int .i64) 3 wc w.heap.size (fun k_=>some k_ ≠ (Au : Value).ownBlock ∧ some k_ ≠ ((.slice Ao12 Ad.length co12) : Value).ownBlock) Bh Ab) ∧ Aside0 (Kd.R k62 62 wc w.heap.size (fun _=>True) Br Ac) ∧ Aside0 (Kd.R (Kd.int .i64) 3 wc w.heap.size (fun k_=>some k_ ≠ (Bh : Value).ownBlock ∧ some k_ ≠ ((.slice Ao12 Ad.length co12) : Value).ownBlock) Au Ak) ∧ Aside0 (Kd.R (Kd.int .i64) 3 wc w.heap.size (fun k_=>some k_ ≠ (Bh : Value).ownBlock ∧ some k_ ≠ (Au : Value).ownBlock) (.slice Ao12 Ad.length co12) Ad) ∧ Aside0 (wc.heap[Ai]? = some (.cells #[.int .i64 Af,(.slice Ao12 Ad.length co12)] 28 (0,0))) ∧ Aside0 (Below w.heap.size w wc))
      case first =>
       have H:=HC25.out;clear HC25;by_cases c32 : Bi = true
       ·subst c32;have H1 : (if Bj = true then (if Bk = true then (Aab.j1 kj7 Ab Ac Ak ((Ab.length : Int) != Be) Af Ad) else (Aab.j1 kj7 Ab Ac Ak true Af Ad)) else (Aab.j1 kj7 Ab Ac Ak true Af Ad)) = some r:=by rw [if_pos rfl] at H;exact H
        clear H;have H:=H1;clear H1;by_cases c33 : Bj = true
        ·subst c33;have H1 : (if Bk = true then (Aab.j1 kj7 Ab Ac Ak ((Ab.length : Int) != Be) Af Ad) else (Aab.j1 kj7 Ab Ac Ak true Af Ad)) = some r:=by rw [if_pos rfl] at H;exact H
         clear H;have H:=H1;clear H1;by_cases c34 : Bk = true
         ·subst c34;have H1 : (Aab.j1 kj7 Ab Ac Ak ((Ab.length : Int) != Be) Af Ad) = some r:=by rw [if_pos rfl] at H;exact H
          clear H;have H:=H1;clear H1;have H':=A_ H;clear H;obtain ⟨Ao35,co35,eo35⟩:=Kd.R_slice HO_6.out;subst eo35;go_wp2
          repeat (go_quiet (fail);try go_wp2)
          go_meet
          case rel=>exact ⟨_,(((Ab.length : Int) != Be)),(by first|rfl|(simp;done)|(simp [*];done)),H',⟨by have:=HJ7.out;first|omega|exact Nat.le_refl _⟩,⟨rq_ (Kd.R_mono HO_6.out (fun _ hk=>⟨hk.2,hk.1⟩))⟩,⟨rl_ At⟩,⟨rq_ (Kd.R_mono Bf.out (fun _ hk=>⟨hk.1.2,hk.2⟩))⟩,⟨rl_ Ae⟩,⟨bl_ Aa⟩,⟨bb_⟩⟩
         ·replace c34:=Bool.eq_false_iff.mpr c34;subst c34;have H1 : (Aab.j1 kj7 Ab Ac Ak true Af Ad) = some r:=by rw [if_neg (show ¬ (false = true) by decide)] at H;exact H
          clear H;have H:=H1;clear H1;have H':=A_ H;clear H;go_wp2
          repeat (go_quiet (fail);try go_wp2)
          go_meet
          case rel=>exact ⟨_,(true),(by first|rfl|(simp;done)|(simp [*];done)),H',⟨by have:=HJ7.out;first|omega|exact Nat.le_refl _⟩,⟨rq_ (Kd.R_mono HO_6.out (fun _ hk=>⟨hk.2,hk.1⟩))⟩,⟨rl_ At⟩,⟨rq_ (Kd.R_mono Bf.out (fun _ hk=>⟨hk.1.2,hk.2⟩))⟩,⟨rl_ Ae⟩,⟨bl_ Aa⟩,⟨bb_⟩⟩
        ·replace c33:=Bool.eq_false_iff.mpr c33;subst c33;have H1 : (Aab.j1 kj7 Ab Ac Ak true Af Ad) = some r:=by rw [if_neg (show ¬ (false = true) by decide)] at H;exact H
         clear H;have H:=H1;clear H1;have H':=A_ H;clear H;go_wp2
         repeat (go_quiet (fail);try go_wp2)
         go_meet
         case rel=>exact ⟨_,(true),(by first|rfl|(simp;done)|(simp [*];done)),H',⟨by have:=HJ7.out;first|omega|exact Nat.le_refl _⟩,⟨rq_ (Kd.R_mono HO_6.out (fun _ hk=>⟨hk.2,hk.1⟩))⟩,⟨rl_ At⟩,⟨rq_ (Kd.R_mono Bf.out (fun _ hk=>⟨hk.1.2,hk.2⟩))⟩,⟨rl_ Ae⟩,⟨bl_ Aa⟩,⟨bb_⟩⟩
       ·replace c32:=Bool.eq_false_iff.mpr c32;subst c32;have H1 : (Aab.j1 kj7 Ab Ac Ak true Af Ad) = some r:=by rw [if_neg (show ¬ (false = true) by decide)] at H;exact H
        clear H;have H:=H1;clear H1;have H':=A_ H;clear H;go_wp2
        repeat (go_quiet (fail);try go_wp2)
        go_meet
        case rel=>exact ⟨_,(true),(by first|rfl|(simp;done)|(simp [*];done)),H',⟨by have:=HJ7.out;first|omega|exact Nat.le_refl _⟩,⟨rq_ (Kd.R_mono HO_6.out (fun _ hk=>⟨hk.2,hk.1⟩))⟩,⟨rl_ At⟩,⟨rq_ (Kd.R_mono Bf.out (fun _ hk=>⟨hk.1.2,hk.2⟩))⟩,⟨rl_ Ae⟩,⟨bl_ Aa⟩,⟨bb_⟩⟩
      case rest =>
       clear HC25;try clear c1
       try clear c2
       try clear p2
       try clear c3
       try clear c4
       try clear c13
       try clear c16
       try clear c16b0
       try clear c16b1
       try clear c16b2
       try clear c20
       try clear c21
       try clear c32
       try clear c33
       try clear c34
       try clear hcz11_0
       try clear hcz11_1
       try clear hcz14_0
       try clear hcz14_1
       try clear hcz26_0
       try clear hcz26_1
       try clear hcz28_0
       try clear hcz28_1
       try clear hcz30_0
       try clear hcz30_1
       try clear hfz11_0
       try clear hfz11_1
       try clear hfz14_0
       try clear hfz14_1
       try clear hfz26_0
       try clear hfz26_1
       try clear hfz28_0
       try clear hfz28_1
       try clear hfz30_0
       try clear hfz30_1
       try clear p2
       obtain ⟨kq,x80_24,rfl,HA,HJ24,HO_6,HO_10,HO_14,Ae,Aa,HB⟩:=hcut;cases kq with
       | zero=>exact absurd HA.out (by simp [Aab.j1])
       | succ kj24 =>
        have H:=HA.out;clear HA;simp only [Aab.j1] at H
        by_cases c36 : x80_24 = true
        ·subst c36;have H1 : (some false) = some r:=by rw [if_pos rfl] at H;exact H
         clear H;have H:=H1;clear H1;obtain rfl:=Option.some.inj H;go_wp2
         repeat (go_quiet (fail);try go_wp2)
         go_ret
         exact ⟨by first|rfl|(simp [errW_none,errW_some] <;> rfl)|(simp [*,errW_none,errW_some] <;> rfl),bb_⟩
        ·replace c36:=Bool.eq_false_iff.mpr c36;subst c36;have H1 : (Aab.l0 kj24 Ac Ak 0 Ab (Ab.length : Int) 0 Af Ad) = some r:=by rw [if_neg (show ¬ (false = true) by decide)] at H;exact H
         clear H;have H:=H1;clear H1;have H':=A_ H;clear H;obtain ⟨Ao37,co37,eo37⟩:=Kd.R_slice HO_6.out;subst eo37;go_wp2
         repeat (go_quiet (fail);try go_wp2)
         go_loopg [16,83] kj24 (fun kq v16 v83 w'=>∃ (x16_3 : Int) (x83_3 : Int),v16 = .int .i64 x16_3 ∧ v83 = .int .i64 x83_3 ∧ Aside0 (Aab.l0 kq Ac Ak x16_3 Ab (Ab.length : Int) x83_3 Af Ad = some r) ∧ Aside0 (kq ≤ kj24) ∧ Aside0 (Kd.R k62 62 w' w.heap.size (fun _=>True) Br Ac) ∧ Aside0 (Kd.R (Kd.int .i64) 3 w' w.heap.size (fun k_=>some k_ ≠ ((.slice Ao37 Ab.length co37) : Value).ownBlock ∧ some k_ ≠ ((.slice Ao12 Ad.length co12) : Value).ownBlock) Au Ak) ∧ Aside0 (Kd.R (Kd.int .i64) 3 w' w.heap.size (fun k_=>some k_ ≠ (Au : Value).ownBlock ∧ some k_ ≠ ((.slice Ao12 Ad.length co12) : Value).ownBlock) (.slice Ao37 Ab.length co37) Ab) ∧ Aside0 (Kd.R (Kd.int .i64) 3 w' w.heap.size (fun k_=>some k_ ≠ (Au : Value).ownBlock ∧ some k_ ≠ ((.slice Ao37 Ab.length co37) : Value).ownBlock) (.slice Ao12 Ad.length co12) Ad) ∧ Aside0 (w'.heap[Ai]? = some (.cells #[.int .i64 Af,(.slice Ao12 Ad.length co12)] 28 (0,0))) ∧ Aside0 (Below w.heap.size w w'))
         case atStart=>exact ⟨(0),(0),(by first|rfl|(simp;done)|(simp [*];done)),(by first|rfl|(simp;done)|(simp [*];done)),H',⟨Nat.le_refl _⟩,⟨rl_ HO_10⟩,⟨rl_ HO_14⟩,⟨rl_ HO_6⟩,⟨rq_ (Kd.R_mono Ae.out (fun _ hk=>⟨hk.2,hk.1⟩))⟩,⟨bl_ Aa⟩,⟨bb_⟩⟩
         case round =>
          clear H';try clear c1
          try clear c2
          try clear p2
          try clear c3
          try clear c4
          try clear c13
          try clear c16
          try clear c16b0
          try clear c16b1
          try clear c16b2
          try clear c20
          try clear c21
          try clear c32
          try clear c33
          try clear c34
          try clear c36
          try clear hcz11_0
          try clear hcz11_1
          try clear hcz14_0
          try clear hcz14_1
          try clear hcz26_0
          try clear hcz26_1
          try clear hcz28_0
          try clear hcz28_1
          try clear hcz30_0
          try clear hcz30_1
          try clear hfz11_0
          try clear hfz11_1
          try clear hfz14_0
          try clear hfz14_1
          try clear hfz26_0
          try clear hfz26_1
          try clear hfz28_0
          try clear hfz28_1
          try clear hfz30_0
          try clear hfz30_1
          try clear p2
          obtain ⟨x16_3,x83_3,rfl,rfl,HA,HK3,HO_10,HO_14,HO_81,Ae,Aa,HB⟩:=hrel;cases gk with
          | zero=>exact absurd HA.out (by simp [Aab.l0])
          | succ k3 =>
           have H:=HA.out;clear HA;simp only [Aab.l0] at H
           by_cases c38 : x83_3 < (Ab.length : Int)
           ·rw [if_pos c38] at H;have c38b0 : decide (x83_3 < (Ab.length : Int)) = true:=decide_eq_true c38;clear c38;by_cases c39 : 0 ≤ x83_3
            ·rw [if_pos c39] at H;have c39b0 : decide (0 ≤ x83_3) = true:=decide_eq_true c39;clear c39;by_cases c40 : x83_3 < (Ab.length : Int)
             ·rw [if_pos c40] at H;have c40b0 : decide (x83_3 < (Ab.length : Int)) = true:=decide_eq_true c40;clear c40;replace H:=Option.bind_eq_some_iff.mp H;obtain ⟨Bl,Cf,H⟩:=H;replace H : (if Bl > x16_3 then ((Abe.f k3 (rd Ab x83_3)).bind fun Bm=>(Aab.j3 k3 Ac Ak Bm x83_3 (rd Ab x83_3) Ab (Ab.length : Int) x83_3 Af Ad)) else (Aab.j3 k3 Ac Ak x16_3 x83_3 (rd Ab x83_3) Ab (Ab.length : Int) x83_3 Af Ad)) = some r:=H;have A41:=A_ Cf;clear Cf;have HC42:=A_ H;clear H;have Bn : 0 ≤ (x83_3 : Int):=of_decide_eq_true (by first|(with_reducible assumption)|assumption);have Bo : x83_3 < (Ab.length : Int):=of_decide_eq_true (by first|(with_reducible assumption)|assumption);obtain ⟨Az,Ck,Bq⟩:=Kd.at_int (Kd.R_reads' HO_81.out).2.2 x83_3 Bn Bo;cases Ck
              replace Bn:=eq_true Bn;replace Bo:=eq_true Bo;go_upto_if 91 with (first|(go_at_call 102;(with_reducible refine (Abe.calls k3 (rd Ab x83_3) Bl _ A41.out).mono ?_);rintro e w' ⟨rfl,⟨nd,rfl⟩⟩;(try first|exact ⟨rfl,_,World.drewN_drewN _ _ _⟩|exact ⟨rfl,_,Eq.trans (World.drewN_drewN _ _ _) (congrArg (World.drewN _) (Nat.add_assoc _ _ _))⟩)))
              repeat (go_quiet (first|(go_at_call 102;(with_reducible refine (Abe.calls k3 (rd Ab x83_3) Bl _ A41.out).mono ?_);rintro e w' ⟨rfl,⟨nd,rfl⟩⟩;(try first|exact ⟨rfl,_,World.drewN_drewN _ _ _⟩|exact ⟨rfl,_,Eq.trans (World.drewN_drewN _ _ _) (congrArg (World.drewN _) (Nat.add_assoc _ _ _))⟩)));go_upto_if 91 with (first|(go_at_call 102;(with_reducible refine (Abe.calls k3 (rd Ab x83_3) Bl _ A41.out).mono ?_);rintro e w' ⟨rfl,⟨nd,rfl⟩⟩;(try first|exact ⟨rfl,_,World.drewN_drewN _ _ _⟩|exact ⟨rfl,_,Eq.trans (World.drewN_drewN _ _ _) (congrArg (World.drewN _) (Nat.add_assoc _ _ _))⟩))))
              (try simp only [Act.put,L_,M_,N_]);go_cut [16] (fun v16 wc=>∃ (kq : Nat) (x16_41 : Int),v16 = .int .i64 x16_41 ∧ Aside0 (Aab.j3 kq Ac Ak x16_41 x83_3 (rd Ab x83_3) Ab (Ab.length : Int) x83_3 Af Ad = some r) ∧ Aside0 (kq ≤ k3) ∧ Aside0 (Kd.R k62 62 wc w.heap.size (fun _=>True) Br Ac) ∧ Aside0 (Kd.R (Kd.int .i64) 3 wc w.heap.size (fun k_=>some k_ ≠ ((.slice (some Az) Ab.length co37) : Value).ownBlock ∧ some k_ ≠ ((.slice Ao12 Ad.length co12) : Value).ownBlock) Au Ak) ∧ Aside0 (Kd.R (Kd.int .i64) 3 wc w.heap.size (fun k_=>some k_ ≠ (Au : Value).ownBlock ∧ some k_ ≠ ((.slice Ao12 Ad.length co12) : Value).ownBlock) (.slice (some Az) Ab.length co37) Ab) ∧ Aside0 (Kd.R (Kd.int .i64) 3 wc w.heap.size (fun k_=>some k_ ≠ (Au : Value).ownBlock ∧ some k_ ≠ ((.slice (some Az) Ab.length co37) : Value).ownBlock) (.slice Ao12 Ad.length co12) Ad) ∧ Aside0 (wc.heap[Ai]? = some (.cells #[.int .i64 Af,(.slice Ao12 Ad.length co12)] 28 (0,0))) ∧ Aside0 (Below w.heap.size w wc))
              case first =>
               have H:=HC42.out;clear HC42;by_cases c43 : Bl > x16_3
               ·rw [if_pos c43] at H;have c43b0 : decide (x16_3 < Bl) = true:=decide_eq_true c43;clear c43;(first|rw [c43b0]|(simp only [i64_w,i32_w];rw [c43b0])|skip)
                replace H:=Option.bind_eq_some_iff.mp H;obtain ⟨Bm,Cg,H⟩:=H;replace H : (Aab.j3 k3 Ac Ak Bm x83_3 (rd Ab x83_3) Ab (Ab.length : Int) x83_3 Af Ad) = some r:=H;have A44:=A_ Cg;clear Cg;have H':=A_ H;clear H;go_wp2_with (first|(go_at_call 102;(with_reducible refine (Abe.calls k3 (rd Ab x83_3) Bm _ A44.out).mono ?_);rintro e w' ⟨rfl,⟨nd,rfl⟩⟩;(try first|exact ⟨rfl,_,World.drewN_drewN _ _ _⟩|exact ⟨rfl,_,Eq.trans (World.drewN_drewN _ _ _) (congrArg (World.drewN _) (Nat.add_assoc _ _ _))⟩)))
                repeat (go_quiet (first|(go_at_call 102;(with_reducible refine (Abe.calls k3 (rd Ab x83_3) Bm _ A44.out).mono ?_);rintro e w' ⟨rfl,⟨nd,rfl⟩⟩;(try first|exact ⟨rfl,_,World.drewN_drewN _ _ _⟩|exact ⟨rfl,_,Eq.trans (World.drewN_drewN _ _ _) (congrArg (World.drewN _) (Nat.add_assoc _ _ _))⟩)));try go_wp2_with (first|(go_at_call 102;(with_reducible refine (Abe.calls k3 (rd Ab x83_3) Bm _ A44.out).mono ?_);rintro e w' ⟨rfl,⟨nd,rfl⟩⟩;(try first|exact ⟨rfl,_,World.drewN_drewN _ _ _⟩|exact ⟨rfl,_,Eq.trans (World.drewN_drewN _ _ _) (congrArg (World.drewN _) (Nat.add_assoc _ _ _))⟩))))
                go_meet
                case rel=>exact ⟨_,(Bm),(by first|rfl|(simp;done)|(simp [*];done)),H',⟨by have:=HJ7.out;have:=HJ24.out;have:=HK3.out;first|omega|exact Nat.le_refl _⟩,⟨rl_ HO_10⟩,⟨rl_ HO_14⟩,⟨rl_ HO_81⟩,⟨rl_ Ae⟩,⟨bl_ Aa⟩,⟨bb_⟩⟩
               ·rw [if_neg c43] at H;have c43b0 : decide (x16_3 < Bl) = false:=decide_eq_false c43;clear c43;(first|rw [c43b0]|(simp only [i64_w,i32_w];rw [c43b0])|skip)
                have H':=A_ H;clear H;go_wp2
                repeat (go_quiet (fail);try go_wp2)
                go_meet
                case rel=>exact ⟨_,(x16_3),(by first|rfl|(simp;done)|(simp [*];done)),H',⟨by have:=HJ7.out;have:=HJ24.out;have:=HK3.out;first|omega|exact Nat.le_refl _⟩,⟨rl_ HO_10⟩,⟨rl_ HO_14⟩,⟨rl_ HO_81⟩,⟨rl_ Ae⟩,⟨bl_ Aa⟩,⟨bb_⟩⟩
              case rest =>
               clear HC42;try clear c1
               try clear p1
               try clear q1
               try clear hx1
               try clear c2
               try clear p2
               try clear c3
               try clear c4
               try clear c13
               try clear p15
               try clear q15
               try clear hx15
               try clear c16
               try clear c16b0
               try clear c16b1
               try clear c16b2
               try clear c20
               try clear c21
               try clear c32
               try clear c33
               try clear c34
               try clear c36
               try clear c38
               try clear c38b0
               try clear c39
               try clear c39b0
               try clear c40
               try clear c40b0
               try clear c43
               try clear c43b0
               try clear hcz11_0
               try clear hcz11_1
               try clear hcz14_0
               try clear hcz14_1
               try clear hcz26_0
               try clear hcz26_1
               try clear hcz28_0
               try clear hcz28_1
               try clear hcz30_0
               try clear hcz30_1
               try clear hfz11_0
               try clear hfz11_1
               try clear hfz14_0
               try clear hfz14_1
               try clear hfz26_0
               try clear hfz26_1
               try clear hfz28_0
               try clear hfz28_1
               try clear hfz30_0
               try clear hfz30_1
               try clear Bq
               try clear Bn
               try clear p2
               try clear Bo
               obtain ⟨kq,x16_41,rfl,HA,HJ41,HO_10,HO_14,HO_81,Ae,Aa,HB⟩:=hcut;cases kq with
               | zero=>exact absurd HA.out (by simp [Aab.j3])
               | succ kj41 =>
                have H:=HA.out;clear HA;simp only [Aab.j3] at H
                have H':=A_ H;clear H;obtain ⟨Ao45,co45,eo45⟩:=Kd.R_slice HO_10.out;subst eo45;go_wp2
                repeat (go_quiet (fail);try go_wp2)
                go_loopg [96] kj41 (fun kq v96 w'=>∃ (x96_5 : Int),v96 = .int .i64 x96_5 ∧ Aside0 (Aab.l1 kq Ac Ak x16_41 x83_3 (rd Ab x83_3) Ab (Ab.length : Int) x83_3 Ac (Ac.length : Int) x96_5 Af Ad = some r) ∧ Aside0 (kq ≤ kj41) ∧ Aside0 (Kd.R k62 62 w' w.heap.size (fun _=>True) (.slice Ao45 Ac.length co45) Ac) ∧ Aside0 (Kd.R (Kd.int .i64) 3 w' w.heap.size (fun k_=>some k_ ≠ ((.slice (some Az) Ab.length co37) : Value).ownBlock ∧ some k_ ≠ ((.slice Ao12 Ad.length co12) : Value).ownBlock) Au Ak) ∧ Aside0 (Kd.R (Kd.int .i64) 3 w' w.heap.size (fun k_=>some k_ ≠ (Au : Value).ownBlock ∧ some k_ ≠ ((.slice Ao12 Ad.length co12) : Value).ownBlock) (.slice (some Az) Ab.length co37) Ab) ∧ Aside0 (Kd.R k62 62 w' w.heap.size (fun _=>True) (.slice Ao45 Ac.length co45) Ac) ∧ Aside0 (Kd.R (Kd.int .i64) 3 w' w.heap.size (fun k_=>some k_ ≠ (Au : Value).ownBlock ∧ some k_ ≠ ((.slice (some Az) Ab.length co37) : Value).ownBlock) (.slice Ao12 Ad.length co12) Ad) ∧ Aside0 (w'.heap[Ai]? = some (.cells #[.int .i64 Af,(.slice Ao12 Ad.length co12)] 28 (0,0))) ∧ Aside0 (Below w.heap.size w w'))
                case atStart=>exact ⟨(0),(by first|rfl|(simp;done)|(simp [*];done)),H',⟨Nat.le_refl _⟩,⟨rl_ HO_10⟩,⟨rl_ HO_14⟩,⟨rl_ HO_81⟩,⟨rl_ HO_10⟩,⟨rl_ Ae⟩,⟨bl_ Aa⟩,⟨bb_⟩⟩
                case round =>
                 clear H';try clear c1
                 try clear p1
                 try clear q1
                 try clear hx1
                 try clear c2
                 try clear p2
                 try clear c3
                 try clear c4
                 try clear c13
                 try clear p15
                 try clear q15
                 try clear hx15
                 try clear c16
                 try clear c16b0
                 try clear c16b1
                 try clear c16b2
                 try clear c20
                 try clear c21
                 try clear c32
                 try clear c33
                 try clear c34
                 try clear c36
                 try clear c38
                 try clear c38b0
                 try clear c39
                 try clear c39b0
                 try clear c40
                 try clear c40b0
                 try clear c43
                 try clear c43b0
                 try clear hcz11_0
                 try clear hcz11_1
                 try clear hcz14_0
                 try clear hcz14_1
                 try clear hcz26_0
                 try clear hcz26_1
                 try clear hcz28_0
                 try clear hcz28_1
                 try clear hcz30_0
                 try clear hcz30_1
                 try clear hfz11_0
                 try clear hfz11_1
                 try clear hfz14_0
                 try clear hfz14_1
                 try clear hfz26_0
                 try clear hfz26_1
                 try clear hfz28_0
                 try clear hfz28_1
                 try clear hfz30_0
                 try clear hfz30_1
                 try clear Bq
                 try clear p1
                 try clear p15
                 try clear Bn
                 try clear p2
                 try clear q1
                 try clear q15
                 try clear Bo
                 obtain ⟨x96_5,rfl,HA,HK5,HO_10,HO_14,HO_81,HO_94,Ae,Aa,HB⟩:=hrel;cases gk with
                 | zero=>exact absurd HA.out (by simp [Aab.l1])
                 | succ k5 =>
                  have H:=HA.out;clear HA;simp only [Aab.l1] at H
                  by_cases c46 : x96_5 < (Ac.length : Int)
                  ·rw [if_pos c46] at H;have c46b0 : decide (x96_5 < (Ac.length : Int)) = true:=decide_eq_true c46;clear c46;by_cases c47 : 0 ≤ x96_5
                   ·rw [if_pos c47] at H;have c47b0 : decide (0 ≤ x96_5) = true:=decide_eq_true c47;clear c47;by_cases c48 : x96_5 < (Ac.length : Int)
                    ·rw [if_pos c48] at H;have c48b0 : decide (x96_5 < (Ac.length : Int)) = true:=decide_eq_true c48;clear c48;replace H:=Option.bind_eq_some_iff.mp H;obtain ⟨⟨As,Bt⟩,Ch,H⟩:=H;replace H : (if Bt = true then ((Abp.f (rd Ab x83_3) x96_5).bind fun Ay=>(if ((rd_T62 Ac x96_5).f0) ≤ x83_3 then (Aab.j5 k5 Ac Ak x16_41 x83_3 (rd Ab x83_3) x96_5 As Ab (Ab.length : Int) x83_3 Ac (Ac.length : Int) x96_5 (Ay != (decide (x83_3 ≤ ((rd_T62 Ac x96_5).f1)))) Af Ad) else (Aab.j5 k5 Ac Ak x16_41 x83_3 (rd Ab x83_3) x96_5 As Ab (Ab.length : Int) x83_3 Ac (Ac.length : Int) x96_5 (Ay != false) Af Ad))) else (Aab.j5 k5 Ac Ak x16_41 x83_3 (rd Ab x83_3) x96_5 As Ab (Ab.length : Int) x83_3 Ac (Ac.length : Int) x96_5 true Af Ad)) = some r:=H;have A49:=A_ Ch;clear Ch;have HC50:=A_ H;clear H;have Bw : 0 ≤ (x96_5 : Int):=of_decide_eq_true (by first|(with_reducible assumption)|assumption);have Bx : x96_5 < (Ac.length : Int):=of_decide_eq_true (by first|(with_reducible assumption)|assumption);obtain ⟨B1,Cl,B6,B7⟩:=at_T62 (Kd.R_reads' HO_94.out).2.2 x96_5 Bw Bx;cases Cl
                     replace Bw:=eq_true Bw;replace Bx:=eq_true Bx;go_upto_region 25 with (first|((with_reducible refine gate_dst (N:=20) rfl ?_);(try (refine gate_guard (by rfl) ?_;dsimp only));refine box_event ?hg (N:=20) ?hd (cs:=#[.int .i64 0,.int .i64 0]) (t:=62) ?hr ?_;(case hd=>rfl);(case hg=>rfl);(case hr=>go_simp;try rfl);intro Ag hg w51 hbox hb;replace HO_10:=A_ (Kd.R_below (Kd.R_elderB (rl_ HO_10) Ag (Nat.le_of_eq hg.symm)) hb);replace HO_14:=rb_ HO_14 hb;replace HO_81:=rb_ HO_81 hb;replace HO_94:=A_ (Kd.R_below (Kd.R_elderB (rl_ HO_94) Ag (Nat.le_of_eq hg.symm)) hb);replace Ae:=rb_ Ae hb;have Ah:=A_ (hbox);have B2:=A_ (gw_ (w:=w) hg bb_);have B4:=A_ (gw_ (w:=w) hg bb_);replace HB:=A_ (below_step bb_ hb);have Al:=A_ (nl_ hg Aa);have Ap:=A_ (ng_ hg Aa);replace Aa:=bz Aa hb;clear hb hbox hg;have hnb52:=Ap.out;have hnc52:=Al.out;have hcz53_0 : w51.cell? ⟨Ag,0,none⟩ = some (.int .i64 0):=blk_cell Ah.out 0;have hcz53_1 : w51.cell? ⟨Ag,1,none⟩ = some (.int .i64 0):=blk_cell Ah.out 1;have hfz53_0:=blk_frozen Ah.out 0;have hfz53_1:=blk_frozen Ah.out 1;have hcz54_0 : w51.cell? ⟨Ai,0,none⟩ = some (.int .i64 Af):=blk_cell Aa.out 0;have hcz54_1 : w51.cell? ⟨Ai,1,none⟩ = some (.slice Ao12 Ad.length co12):=blk_cell Aa.out 1;have hfz54_0:=blk_frozen Aa.out 0;have hfz54_1:=blk_frozen Aa.out 1)|(go_at_call 103;(with_reducible refine (Abt.calls k5 Af _ _ Ad x96_5 As Bt _ ?side1 ?side2 A49.out).mono ?_);(case side1=>refine (Kd.R_reads' (e:=3) (base:=w.heap.size) (ok:=fun k_=>(some k_ ≠ (Au : Value).ownBlock ∧ some k_ ≠ (.slice (some Az) Ab.length co37 : Value).ownBlock)) (n:=Ad.length) (c:=co12) ?_).2.2;exact (rq_ (Kd.R_mono (Kd.R_far (p:=⟨Ag,1,none⟩) (Kd.R_far (p:=⟨Ag,0,none⟩) (Kd.R_types Ae.out Ah.out (by decide)) (fun _ hk=>hk.2) (.int .i64 ((rd_T62 Ac x96_5).f0))) (fun _ hk=>hk.2) (.int .i64 ((rd_T62 Ac x96_5).f1))) (fun _ h_=>h_.1))));(case side2=>exact (Kd.R_reads' Ae.out).2.1);rintro e w55 ⟨rfl,hb⟩;replace HO_10:=A_ (Kd.R_below (rq_ (Kd.R_mono (Kd.R_far (p:=⟨Ag,1,none⟩) (Kd.R_far (p:=⟨Ag,0,none⟩) (Kd.R_mono HO_10.out (fun k_ hk=>(⟨hk,hk.2⟩ : _ ∧ k_ ≠ Ag))) (fun _ hk=>hk.2) (.int .i64 ((rd_T62 Ac x96_5).f0))) (fun _ hk=>hk.2) (.int .i64 ((rd_T62 Ac x96_5).f1))) (fun _ h_=>h_.1))) hb);replace HO_14:=A_ (Kd.R_below (rq_ (Kd.R_mono (Kd.R_far (p:=⟨Ag,1,none⟩) (Kd.R_far (p:=⟨Ag,0,none⟩) (Kd.R_types HO_14.out Ah.out (by decide)) (fun _ hk=>hk.2) (.int .i64 ((rd_T62 Ac x96_5).f0))) (fun _ hk=>hk.2) (.int .i64 ((rd_T62 Ac x96_5).f1))) (fun _ h_=>h_.1))) hb);replace HO_81:=A_ (Kd.R_below (rq_ (Kd.R_mono (Kd.R_far (p:=⟨Ag,1,none⟩) (Kd.R_far (p:=⟨Ag,0,none⟩) (Kd.R_types HO_81.out Ah.out (by decide)) (fun _ hk=>hk.2) (.int .i64 ((rd_T62 Ac x96_5).f0))) (fun _ hk=>hk.2) (.int .i64 ((rd_T62 Ac x96_5).f1))) (fun _ h_=>h_.1))) hb);replace HO_94:=A_ (Kd.R_below (rq_ (Kd.R_mono (Kd.R_far (p:=⟨Ag,1,none⟩) (Kd.R_far (p:=⟨Ag,0,none⟩) (Kd.R_mono HO_94.out (fun k_ hk=>(⟨hk,hk.2⟩ : _ ∧ k_ ≠ Ag))) (fun _ hk=>hk.2) (.int .i64 ((rd_T62 Ac x96_5).f0))) (fun _ hk=>hk.2) (.int .i64 ((rd_T62 Ac x96_5).f1))) (fun _ h_=>h_.1))) hb);replace Ae:=A_ (Kd.R_below (rq_ (Kd.R_mono (Kd.R_far (p:=⟨Ag,1,none⟩) (Kd.R_far (p:=⟨Ag,0,none⟩) (Kd.R_types Ae.out Ah.out (by decide)) (fun _ hk=>hk.2) (.int .i64 ((rd_T62 Ac x96_5).f0))) (fun _ hk=>hk.2) (.int .i64 ((rd_T62 Ac x96_5).f1))) (fun _ h_=>h_.1))) hb);replace Aa:=A_ (blk_below (g:=Ai) (o:=.cells #[.int .i64 Af,.slice Ao12 Ad.length co12] 28 (0,0)) (by (with_reducible repeat (first|refine blk_drewN ?_ _|refine blk_drew ?_|refine blk_alloc ?_ _));refine blk_far ?_ Al.out _;(with_reducible repeat (first|refine blk_drewN ?_ _|refine blk_drew ?_|refine blk_alloc ?_ _));refine blk_far ?_ Al.out _;(with_reducible repeat (first|refine blk_drewN ?_ _|refine blk_drew ?_|refine blk_alloc ?_ _));exact Aa.out) hb);replace Ah:=A_ (blk_below (g:=Ag) (o:=.cells #[.int .i64 ((rd_T62 Ac x96_5).f0),.int .i64 ((rd_T62 Ac x96_5).f1)] 62 (0,0)) (by (with_reducible repeat (first|refine blk_drewN ?_ _|refine blk_drew ?_|refine blk_alloc ?_ _));refine blk_put (cs:=#[.int .i64 ((rd_T62 Ac x96_5).f0),.int .i64 0]) ?_ 1 _ rfl;(with_reducible repeat (first|refine blk_drewN ?_ _|refine blk_drew ?_|refine blk_alloc ?_ _));refine blk_put (cs:=#[.int .i64 0,.int .i64 0]) ?_ 0 _ rfl;(with_reducible repeat (first|refine blk_drewN ?_ _|refine blk_drew ?_|refine blk_alloc ?_ _));exact Ah.out) hb);replace HB:=A_ (below_step bb_ hb);(try clear hb);(try clear hb2);(try clear hk);(try clear hi)))
                     repeat (go_quiet (first|((with_reducible refine gate_dst (N:=20) rfl ?_);(try (refine gate_guard (by rfl) ?_;dsimp only));refine box_event ?hg (N:=20) ?hd (cs:=#[.int .i64 0,.int .i64 0]) (t:=62) ?hr ?_;(case hd=>rfl);(case hg=>rfl);(case hr=>go_simp;try rfl);intro Ag hg w51 hbox hb;replace HO_10:=A_ (Kd.R_below (Kd.R_elderB (rl_ HO_10) Ag (Nat.le_of_eq hg.symm)) hb);replace HO_14:=rb_ HO_14 hb;replace HO_81:=rb_ HO_81 hb;replace HO_94:=A_ (Kd.R_below (Kd.R_elderB (rl_ HO_94) Ag (Nat.le_of_eq hg.symm)) hb);replace Ae:=rb_ Ae hb;have Ah:=A_ (hbox);have B2:=A_ (gw_ (w:=w) hg bb_);have B4:=A_ (gw_ (w:=w) hg bb_);replace HB:=A_ (below_step bb_ hb);have Al:=A_ (nl_ hg Aa);have Ap:=A_ (ng_ hg Aa);replace Aa:=bz Aa hb;clear hb hbox hg;have hnb52:=Ap.out;have hnc52:=Al.out;have hcz53_0 : w51.cell? ⟨Ag,0,none⟩ = some (.int .i64 0):=blk_cell Ah.out 0;have hcz53_1 : w51.cell? ⟨Ag,1,none⟩ = some (.int .i64 0):=blk_cell Ah.out 1;have hfz53_0:=blk_frozen Ah.out 0;have hfz53_1:=blk_frozen Ah.out 1;have hcz54_0 : w51.cell? ⟨Ai,0,none⟩ = some (.int .i64 Af):=blk_cell Aa.out 0;have hcz54_1 : w51.cell? ⟨Ai,1,none⟩ = some (.slice Ao12 Ad.length co12):=blk_cell Aa.out 1;have hfz54_0:=blk_frozen Aa.out 0;have hfz54_1:=blk_frozen Aa.out 1)|(go_at_call 103;(with_reducible refine (Abt.calls k5 Af _ _ Ad x96_5 As Bt _ ?side1 ?side2 A49.out).mono ?_);(case side1=>refine (Kd.R_reads' (e:=3) (base:=w.heap.size) (ok:=fun k_=>(some k_ ≠ (Au : Value).ownBlock ∧ some k_ ≠ (.slice (some Az) Ab.length co37 : Value).ownBlock)) (n:=Ad.length) (c:=co12) ?_).2.2;exact (rq_ (Kd.R_mono (Kd.R_far (p:=⟨Ag,1,none⟩) (Kd.R_far (p:=⟨Ag,0,none⟩) (Kd.R_types Ae.out Ah.out (by decide)) (fun _ hk=>hk.2) (.int .i64 ((rd_T62 Ac x96_5).f0))) (fun _ hk=>hk.2) (.int .i64 ((rd_T62 Ac x96_5).f1))) (fun _ h_=>h_.1))));(case side2=>exact (Kd.R_reads' Ae.out).2.1);rintro e w55 ⟨rfl,hb⟩;replace HO_10:=A_ (Kd.R_below (rq_ (Kd.R_mono (Kd.R_far (p:=⟨Ag,1,none⟩) (Kd.R_far (p:=⟨Ag,0,none⟩) (Kd.R_mono HO_10.out (fun k_ hk=>(⟨hk,hk.2⟩ : _ ∧ k_ ≠ Ag))) (fun _ hk=>hk.2) (.int .i64 ((rd_T62 Ac x96_5).f0))) (fun _ hk=>hk.2) (.int .i64 ((rd_T62 Ac x96_5).f1))) (fun _ h_=>h_.1))) hb);replace HO_14:=A_ (Kd.R_below (rq_ (Kd.R_mono (Kd.R_far (p:=⟨Ag,1,none⟩) (Kd.R_far (p:=⟨Ag,0,none⟩) (Kd.R_types HO_14.out Ah.out (by decide)) (fun _ hk=>hk.2) (.int .i64 ((rd_T62 Ac x96_5).f0))) (fun _ hk=>hk.2) (.int .i64 ((rd_T62 Ac x96_5).f1))) (fun _ h_=>h_.1))) hb);replace HO_81:=A_ (Kd.R_below (rq_ (Kd.R_mono (Kd.R_far (p:=⟨Ag,1,none⟩) (Kd.R_far (p:=⟨Ag,0,none⟩) (Kd.R_types HO_81.out Ah.out (by decide)) (fun _ hk=>hk.2) (.int .i64 ((rd_T62 Ac x96_5).f0))) (fun _ hk=>hk.2) (.int .i64 ((rd_T62 Ac x96_5).f1))) (fun _ h_=>h_.1))) hb);replace HO_94:=A_ (Kd.R_below (rq_ (Kd.R_mono (Kd.R_far (p:=⟨Ag,1,none⟩) (Kd.R_far (p:=⟨Ag,0,none⟩) (Kd.R_mono HO_94.out (fun k_ hk=>(⟨hk,hk.2⟩ : _ ∧ k_ ≠ Ag))) (fun _ hk=>hk.2) (.int .i64 ((rd_T62 Ac x96_5).f0))) (fun _ hk=>hk.2) (.int .i64 ((rd_T62 Ac x96_5).f1))) (fun _ h_=>h_.1))) hb);replace Ae:=A_ (Kd.R_below (rq_ (Kd.R_mono (Kd.R_far (p:=⟨Ag,1,none⟩) (Kd.R_far (p:=⟨Ag,0,none⟩) (Kd.R_types Ae.out Ah.out (by decide)) (fun _ hk=>hk.2) (.int .i64 ((rd_T62 Ac x96_5).f0))) (fun _ hk=>hk.2) (.int .i64 ((rd_T62 Ac x96_5).f1))) (fun _ h_=>h_.1))) hb);replace Aa:=A_ (blk_below (g:=Ai) (o:=.cells #[.int .i64 Af,.slice Ao12 Ad.length co12] 28 (0,0)) (by (with_reducible repeat (first|refine blk_drewN ?_ _|refine blk_drew ?_|refine blk_alloc ?_ _));refine blk_far ?_ Al.out _;(with_reducible repeat (first|refine blk_drewN ?_ _|refine blk_drew ?_|refine blk_alloc ?_ _));refine blk_far ?_ Al.out _;(with_reducible repeat (first|refine blk_drewN ?_ _|refine blk_drew ?_|refine blk_alloc ?_ _));exact Aa.out) hb);replace Ah:=A_ (blk_below (g:=Ag) (o:=.cells #[.int .i64 ((rd_T62 Ac x96_5).f0),.int .i64 ((rd_T62 Ac x96_5).f1)] 62 (0,0)) (by (with_reducible repeat (first|refine blk_drewN ?_ _|refine blk_drew ?_|refine blk_alloc ?_ _));refine blk_put (cs:=#[.int .i64 ((rd_T62 Ac x96_5).f0),.int .i64 0]) ?_ 1 _ rfl;(with_reducible repeat (first|refine blk_drewN ?_ _|refine blk_drew ?_|refine blk_alloc ?_ _));refine blk_put (cs:=#[.int .i64 0,.int .i64 0]) ?_ 0 _ rfl;(with_reducible repeat (first|refine blk_drewN ?_ _|refine blk_drew ?_|refine blk_alloc ?_ _));exact Ah.out) hb);replace HB:=A_ (below_step bb_ hb);(try clear hb);(try clear hb2);(try clear hk);(try clear hi)));go_upto_region 25 with (first|((with_reducible refine gate_dst (N:=20) rfl ?_);(try (refine gate_guard (by rfl) ?_;dsimp only));refine box_event ?hg (N:=20) ?hd (cs:=#[.int .i64 0,.int .i64 0]) (t:=62) ?hr ?_;(case hd=>rfl);(case hg=>rfl);(case hr=>go_simp;try rfl);intro Ag hg w51 hbox hb;replace HO_10:=A_ (Kd.R_below (Kd.R_elderB (rl_ HO_10) Ag (Nat.le_of_eq hg.symm)) hb);replace HO_14:=rb_ HO_14 hb;replace HO_81:=rb_ HO_81 hb;replace HO_94:=A_ (Kd.R_below (Kd.R_elderB (rl_ HO_94) Ag (Nat.le_of_eq hg.symm)) hb);replace Ae:=rb_ Ae hb;have Ah:=A_ (hbox);have B2:=A_ (gw_ (w:=w) hg bb_);have B4:=A_ (gw_ (w:=w) hg bb_);replace HB:=A_ (below_step bb_ hb);have Al:=A_ (nl_ hg Aa);have Ap:=A_ (ng_ hg Aa);replace Aa:=bz Aa hb;clear hb hbox hg;have hnb52:=Ap.out;have hnc52:=Al.out;have hcz53_0 : w51.cell? ⟨Ag,0,none⟩ = some (.int .i64 0):=blk_cell Ah.out 0;have hcz53_1 : w51.cell? ⟨Ag,1,none⟩ = some (.int .i64 0):=blk_cell Ah.out 1;have hfz53_0:=blk_frozen Ah.out 0;have hfz53_1:=blk_frozen Ah.out 1;have hcz54_0 : w51.cell? ⟨Ai,0,none⟩ = some (.int .i64 Af):=blk_cell Aa.out 0;have hcz54_1 : w51.cell? ⟨Ai,1,none⟩ = some (.slice Ao12 Ad.length co12):=blk_cell Aa.out 1;have hfz54_0:=blk_frozen Aa.out 0;have hfz54_1:=blk_frozen Aa.out 1)|(go_at_call 103;(with_reducible refine (Abt.calls k5 Af _ _ Ad x96_5 As Bt _ ?side1 ?side2 A49.out).mono ?_);(case side1=>refine (Kd.R_reads' (e:=3) (base:=w.heap.size) (ok:=fun k_=>(some k_ ≠ (Au : Value).ownBlock ∧ some k_ ≠ (.slice (some Az) Ab.length co37 : Value).ownBlock)) (n:=Ad.length) (c:=co12) ?_).2.2;exact (rq_ (Kd.R_mono (Kd.R_far (p:=⟨Ag,1,none⟩) (Kd.R_far (p:=⟨Ag,0,none⟩) (Kd.R_types Ae.out Ah.out (by decide)) (fun _ hk=>hk.2) (.int .i64 ((rd_T62 Ac x96_5).f0))) (fun _ hk=>hk.2) (.int .i64 ((rd_T62 Ac x96_5).f1))) (fun _ h_=>h_.1))));(case side2=>exact (Kd.R_reads' Ae.out).2.1);rintro e w55 ⟨rfl,hb⟩;replace HO_10:=A_ (Kd.R_below (rq_ (Kd.R_mono (Kd.R_far (p:=⟨Ag,1,none⟩) (Kd.R_far (p:=⟨Ag,0,none⟩) (Kd.R_mono HO_10.out (fun k_ hk=>(⟨hk,hk.2⟩ : _ ∧ k_ ≠ Ag))) (fun _ hk=>hk.2) (.int .i64 ((rd_T62 Ac x96_5).f0))) (fun _ hk=>hk.2) (.int .i64 ((rd_T62 Ac x96_5).f1))) (fun _ h_=>h_.1))) hb);replace HO_14:=A_ (Kd.R_below (rq_ (Kd.R_mono (Kd.R_far (p:=⟨Ag,1,none⟩) (Kd.R_far (p:=⟨Ag,0,none⟩) (Kd.R_types HO_14.out Ah.out (by decide)) (fun _ hk=>hk.2) (.int .i64 ((rd_T62 Ac x96_5).f0))) (fun _ hk=>hk.2) (.int .i64 ((rd_T62 Ac x96_5).f1))) (fun _ h_=>h_.1))) hb);replace HO_81:=A_ (Kd.R_below (rq_ (Kd.R_mono (Kd.R_far (p:=⟨Ag,1,none⟩) (Kd.R_far (p:=⟨Ag,0,none⟩) (Kd.R_types HO_81.out Ah.out (by decide)) (fun _ hk=>hk.2) (.int .i64 ((rd_T62 Ac x96_5).f0))) (fun _ hk=>hk.2) (.int .i64 ((rd_T62 Ac x96_5).f1))) (fun _ h_=>h_.1))) hb);replace HO_94:=A_ (Kd.R_below (rq_ (Kd.R_mono (Kd.R_far (p:=⟨Ag,1,none⟩) (Kd.R_far (p:=⟨Ag,0,none⟩) (Kd.R_mono HO_94.out (fun k_ hk=>(⟨hk,hk.2⟩ : _ ∧ k_ ≠ Ag))) (fun _ hk=>hk.2) (.int .i64 ((rd_T62 Ac x96_5).f0))) (fun _ hk=>hk.2) (.int .i64 ((rd_T62 Ac x96_5).f1))) (fun _ h_=>h_.1))) hb);replace Ae:=A_ (Kd.R_below (rq_ (Kd.R_mono (Kd.R_far (p:=⟨Ag,1,none⟩) (Kd.R_far (p:=⟨Ag,0,none⟩) (Kd.R_types Ae.out Ah.out (by decide)) (fun _ hk=>hk.2) (.int .i64 ((rd_T62 Ac x96_5).f0))) (fun _ hk=>hk.2) (.int .i64 ((rd_T62 Ac x96_5).f1))) (fun _ h_=>h_.1))) hb);replace Aa:=A_ (blk_below (g:=Ai) (o:=.cells #[.int .i64 Af,.slice Ao12 Ad.length co12] 28 (0,0)) (by (with_reducible repeat (first|refine blk_drewN ?_ _|refine blk_drew ?_|refine blk_alloc ?_ _));refine blk_far ?_ Al.out _;(with_reducible repeat (first|refine blk_drewN ?_ _|refine blk_drew ?_|refine blk_alloc ?_ _));refine blk_far ?_ Al.out _;(with_reducible repeat (first|refine blk_drewN ?_ _|refine blk_drew ?_|refine blk_alloc ?_ _));exact Aa.out) hb);replace Ah:=A_ (blk_below (g:=Ag) (o:=.cells #[.int .i64 ((rd_T62 Ac x96_5).f0),.int .i64 ((rd_T62 Ac x96_5).f1)] 62 (0,0)) (by (with_reducible repeat (first|refine blk_drewN ?_ _|refine blk_drew ?_|refine blk_alloc ?_ _));refine blk_put (cs:=#[.int .i64 ((rd_T62 Ac x96_5).f0),.int .i64 0]) ?_ 1 _ rfl;(with_reducible repeat (first|refine blk_drewN ?_ _|refine blk_drew ?_|refine blk_alloc ?_ _));refine blk_put (cs:=#[.int .i64 0,.int .i64 0]) ?_ 0 _ rfl;(with_reducible repeat (first|refine blk_drewN ?_ _|refine blk_drew ?_|refine blk_alloc ?_ _));exact Ah.out) hb);replace HB:=A_ (below_step bb_ hb);(try clear hb);(try clear hb2);(try clear hk);(try clear hi))))
                     (try simp only [Act.put,L_,M_,N_]);go_cut [124] (fun Cm wc=>∃ (kq : Nat) (Bp : Bool),Cm = .bool Bp ∧ Aside0 (Aab.j5 kq Ac Ak x16_41 x83_3 (rd Ab x83_3) x96_5 As Ab (Ab.length : Int) x83_3 Ac (Ac.length : Int) x96_5 Bp Af Ad = some r) ∧ Aside0 (kq ≤ k5) ∧ Aside0 (Kd.R k62 62 wc w.heap.size (fun k_=>k_ ≠ Ag) (.slice (some B1) Ac.length co45) Ac) ∧ Aside0 (Kd.R (Kd.int .i64) 3 wc w.heap.size (fun k_=>some k_ ≠ ((.slice (some Az) Ab.length co37) : Value).ownBlock ∧ some k_ ≠ ((.slice Ao12 Ad.length co12) : Value).ownBlock) Au Ak) ∧ Aside0 (Kd.R (Kd.int .i64) 3 wc w.heap.size (fun k_=>some k_ ≠ (Au : Value).ownBlock ∧ some k_ ≠ ((.slice Ao12 Ad.length co12) : Value).ownBlock) (.slice (some Az) Ab.length co37) Ab) ∧ Aside0 (Kd.R k62 62 wc w.heap.size (fun k_=>k_ ≠ Ag) (.slice (some B1) Ac.length co45) Ac) ∧ Aside0 (Kd.R (Kd.int .i64) 3 wc w.heap.size (fun k_=>some k_ ≠ (Au : Value).ownBlock ∧ some k_ ≠ ((.slice (some Az) Ab.length co37) : Value).ownBlock) (.slice Ao12 Ad.length co12) Ad) ∧ Aside0 (wc.heap[Ai]? = some (.cells #[.int .i64 Af,(.slice Ao12 Ad.length co12)] 28 (0,0))) ∧ Aside0 (wc.heap[Ag]? = some (.cells #[.int .i64 ((rd_T62 Ac x96_5).f0),.int .i64 ((rd_T62 Ac x96_5).f1)] 62 (0,0))) ∧ Aside0 (Below w.heap.size w wc))
                     case first =>
                      have H:=HC50.out;clear HC50;by_cases c56 : Bt = true
                      ·subst c56;have H1 : ((Abp.f (rd Ab x83_3) x96_5).bind fun Ay=>(if ((rd_T62 Ac x96_5).f0) ≤ x83_3 then (Aab.j5 k5 Ac Ak x16_41 x83_3 (rd Ab x83_3) x96_5 As Ab (Ab.length : Int) x83_3 Ac (Ac.length : Int) x96_5 (Ay != (decide (x83_3 ≤ ((rd_T62 Ac x96_5).f1)))) Af Ad) else (Aab.j5 k5 Ac Ak x16_41 x83_3 (rd Ab x83_3) x96_5 As Ab (Ab.length : Int) x83_3 Ac (Ac.length : Int) x96_5 (Ay != false) Af Ad))) = some r:=by rw [if_pos rfl] at H;exact H
                       clear H;have H:=H1;clear H1;replace H:=Option.bind_eq_some_iff.mp H;obtain ⟨Ay,Ci,H⟩:=H;replace H : (if ((rd_T62 Ac x96_5).f0) ≤ x83_3 then (Aab.j5 k5 Ac Ak x16_41 x83_3 (rd Ab x83_3) x96_5 As Ab (Ab.length : Int) x83_3 Ac (Ac.length : Int) x96_5 (Ay != (decide (x83_3 ≤ ((rd_T62 Ac x96_5).f1)))) Af Ad) else (Aab.j5 k5 Ac Ak x16_41 x83_3 (rd Ab x83_3) x96_5 As Ab (Ab.length : Int) x83_3 Ac (Ac.length : Int) x96_5 (Ay != false) Af Ad)) = some r:=H;have A57:=A_ Ci;clear Ci;by_cases c58 : ((rd_T62 Ac x96_5).f0) ≤ x83_3
                       ·rw [if_pos c58] at H;have c58b0 : decide (((rd_T62 Ac x96_5).f0) ≤ x83_3) = true:=decide_eq_true c58;clear c58;(first|rw [c58b0]|(simp only [i64_w,i32_w];rw [c58b0])|skip)
                        have H':=A_ H;clear H;go_wp2_with (first|(go_at_call 62;(with_reducible refine (Abp.calls (rd Ab x83_3) x96_5 Ay _ A57.out).mono ?_);rintro e w' ⟨rfl,⟨nd,rfl⟩⟩;(try first|exact ⟨rfl,_,World.drewN_drewN _ _ _⟩|exact ⟨rfl,_,Eq.trans (World.drewN_drewN _ _ _) (congrArg (World.drewN _) (Nat.add_assoc _ _ _))⟩);have hnb59:=Ap.out;have hnc59:=Al.out;have hcz60_0 : w55.cell? ⟨Ag,0,none⟩ = some (.int .i64 ((rd_T62 Ac x96_5).f0)):=blk_cell Ah.out 0;have hcz60_1 : w55.cell? ⟨Ag,1,none⟩ = some (.int .i64 ((rd_T62 Ac x96_5).f1)):=blk_cell Ah.out 1;have hfz60_0:=blk_frozen Ah.out 0;have hfz60_1:=blk_frozen Ah.out 1))
                        repeat (go_quiet (first|(go_at_call 62;(with_reducible refine (Abp.calls (rd Ab x83_3) x96_5 Ay _ A57.out).mono ?_);rintro e w' ⟨rfl,⟨nd,rfl⟩⟩;(try first|exact ⟨rfl,_,World.drewN_drewN _ _ _⟩|exact ⟨rfl,_,Eq.trans (World.drewN_drewN _ _ _) (congrArg (World.drewN _) (Nat.add_assoc _ _ _))⟩);have hnb59:=Ap.out;have hnc59:=Al.out;have hcz60_0 : w55.cell? ⟨Ag,0,none⟩ = some (.int .i64 ((rd_T62 Ac x96_5).f0)):=blk_cell Ah.out 0;have hcz60_1 : w55.cell? ⟨Ag,1,none⟩ = some (.int .i64 ((rd_T62 Ac x96_5).f1)):=blk_cell Ah.out 1;have hfz60_0:=blk_frozen Ah.out 0;have hfz60_1:=blk_frozen Ah.out 1));try go_wp2_with (first|(go_at_call 62;(with_reducible refine (Abp.calls (rd Ab x83_3) x96_5 Ay _ A57.out).mono ?_);rintro e w' ⟨rfl,⟨nd,rfl⟩⟩;(try first|exact ⟨rfl,_,World.drewN_drewN _ _ _⟩|exact ⟨rfl,_,Eq.trans (World.drewN_drewN _ _ _) (congrArg (World.drewN _) (Nat.add_assoc _ _ _))⟩);have hnb59:=Ap.out;have hnc59:=Al.out;have hcz60_0 : w55.cell? ⟨Ag,0,none⟩ = some (.int .i64 ((rd_T62 Ac x96_5).f0)):=blk_cell Ah.out 0;have hcz60_1 : w55.cell? ⟨Ag,1,none⟩ = some (.int .i64 ((rd_T62 Ac x96_5).f1)):=blk_cell Ah.out 1;have hfz60_0:=blk_frozen Ah.out 0;have hfz60_1:=blk_frozen Ah.out 1)))
                        go_meet
                        case rel=>exact ⟨_,((Ay != (decide (x83_3 ≤ ((rd_T62 Ac x96_5).f1))))),(by first|rfl|(simp;done)|(simp [*];done)),H',⟨by have:=HJ7.out;have:=HJ24.out;have:=HK3.out;have:=HJ41.out;have:=HK5.out;first|omega|exact Nat.le_refl _⟩,⟨rq_ (Kd.R_mono HO_10.out (fun _ hk=>hk.2))⟩,⟨rl_ HO_14⟩,⟨rl_ HO_81⟩,⟨rq_ (Kd.R_mono HO_94.out (fun _ hk=>hk.2))⟩,⟨rl_ Ae⟩,⟨bl_ Aa⟩,⟨bl_ Ah⟩,⟨bb_⟩⟩
                       ·rw [if_neg c58] at H;have c58b0 : decide (((rd_T62 Ac x96_5).f0) ≤ x83_3) = false:=decide_eq_false c58;clear c58;(first|rw [c58b0]|(simp only [i64_w,i32_w];rw [c58b0])|skip)
                        have H':=A_ H;clear H;go_wp2_with (first|(go_at_call 62;(with_reducible refine (Abp.calls (rd Ab x83_3) x96_5 Ay _ A57.out).mono ?_);rintro e w' ⟨rfl,⟨nd,rfl⟩⟩;(try first|exact ⟨rfl,_,World.drewN_drewN _ _ _⟩|exact ⟨rfl,_,Eq.trans (World.drewN_drewN _ _ _) (congrArg (World.drewN _) (Nat.add_assoc _ _ _))⟩);have hnb61:=Ap.out;have hnc61:=Al.out;have hcz62_0 : w55.cell? ⟨Ag,0,none⟩ = some (.int .i64 ((rd_T62 Ac x96_5).f0)):=blk_cell Ah.out 0;have hcz62_1 : w55.cell? ⟨Ag,1,none⟩ = some (.int .i64 ((rd_T62 Ac x96_5).f1)):=blk_cell Ah.out 1;have hfz62_0:=blk_frozen Ah.out 0;have hfz62_1:=blk_frozen Ah.out 1))
                        repeat (go_quiet (first|(go_at_call 62;(with_reducible refine (Abp.calls (rd Ab x83_3) x96_5 Ay _ A57.out).mono ?_);rintro e w' ⟨rfl,⟨nd,rfl⟩⟩;(try first|exact ⟨rfl,_,World.drewN_drewN _ _ _⟩|exact ⟨rfl,_,Eq.trans (World.drewN_drewN _ _ _) (congrArg (World.drewN _) (Nat.add_assoc _ _ _))⟩);have hnb61:=Ap.out;have hnc61:=Al.out;have hcz62_0 : w55.cell? ⟨Ag,0,none⟩ = some (.int .i64 ((rd_T62 Ac x96_5).f0)):=blk_cell Ah.out 0;have hcz62_1 : w55.cell? ⟨Ag,1,none⟩ = some (.int .i64 ((rd_T62 Ac x96_5).f1)):=blk_cell Ah.out 1;have hfz62_0:=blk_frozen Ah.out 0;have hfz62_1:=blk_frozen Ah.out 1));try go_wp2_with (first|(go_at_call 62;(with_reducible refine (Abp.calls (rd Ab x83_3) x96_5 Ay _ A57.out).mono ?_);rintro e w' ⟨rfl,⟨nd,rfl⟩⟩;(try first|exact ⟨rfl,_,World.drewN_drewN _ _ _⟩|exact ⟨rfl,_,Eq.trans (World.drewN_drewN _ _ _) (congrArg (World.drewN _) (Nat.add_assoc _ _ _))⟩);have hnb61:=Ap.out;have hnc61:=Al.out;have hcz62_0 : w55.cell? ⟨Ag,0,none⟩ = some (.int .i64 ((rd_T62 Ac x96_5).f0)):=blk_cell Ah.out 0;have hcz62_1 : w55.cell? ⟨Ag,1,none⟩ = some (.int .i64 ((rd_T62 Ac x96_5).f1)):=blk_cell Ah.out 1;have hfz62_0:=blk_frozen Ah.out 0;have hfz62_1:=blk_frozen Ah.out 1)))
                        go_meet
                        case rel=>exact ⟨_,((Ay != false)),(by first|rfl|(simp;done)|(simp [*];done)),H',⟨by have:=HJ7.out;have:=HJ24.out;have:=HK3.out;have:=HJ41.out;have:=HK5.out;first|omega|exact Nat.le_refl _⟩,⟨rq_ (Kd.R_mono HO_10.out (fun _ hk=>hk.2))⟩,⟨rl_ HO_14⟩,⟨rl_ HO_81⟩,⟨rq_ (Kd.R_mono HO_94.out (fun _ hk=>hk.2))⟩,⟨rl_ Ae⟩,⟨bl_ Aa⟩,⟨bl_ Ah⟩,⟨bb_⟩⟩
                      ·replace c56:=Bool.eq_false_iff.mpr c56;subst c56;have H1 : (Aab.j5 k5 Ac Ak x16_41 x83_3 (rd Ab x83_3) x96_5 As Ab (Ab.length : Int) x83_3 Ac (Ac.length : Int) x96_5 true Af Ad) = some r:=by rw [if_neg (show ¬ (false = true) by decide)] at H;exact H
                       clear H;have H:=H1;clear H1;have H':=A_ H;clear H;go_wp2
                       repeat (go_quiet (fail);try go_wp2)
                       go_meet
                       case rel=>exact ⟨_,(true),(by first|rfl|(simp;done)|(simp [*];done)),H',⟨by have:=HJ7.out;have:=HJ24.out;have:=HK3.out;have:=HJ41.out;have:=HK5.out;first|omega|exact Nat.le_refl _⟩,⟨rq_ (Kd.R_mono HO_10.out (fun _ hk=>hk.2))⟩,⟨rl_ HO_14⟩,⟨rl_ HO_81⟩,⟨rq_ (Kd.R_mono HO_94.out (fun _ hk=>hk.2))⟩,⟨rl_ Ae⟩,⟨bl_ Aa⟩,⟨bl_ Ah⟩,⟨bb_⟩⟩
                     case rest =>
                      clear HC50;try clear c1
                      try clear p1
                      try clear q1
                      try clear hx1
                      try clear c2
                      try clear p2
                      try clear c3
                      try clear c4
                      try clear c5
                      try clear c6
                      try clear c13
                      try clear p15
                      try clear q15
                      try clear hx15
                      try clear c16
                      try clear c16b0
                      try clear c16b1
                      try clear c16b2
                      try clear c20
                      try clear c21
                      try clear c32
                      try clear c33
                      try clear c34
                      try clear c36
                      try clear c38
                      try clear c38b0
                      try clear c39
                      try clear c39b0
                      try clear c40
                      try clear c40b0
                      try clear c43
                      try clear c43b0
                      try clear c46
                      try clear c46b0
                      try clear c47
                      try clear c47b0
                      try clear c48
                      try clear c48b0
                      try clear c52
                      try clear c56
                      try clear c58
                      try clear c58b0
                      try clear c59
                      try clear c61
                      try clear hcz11_0
                      try clear hcz11_1
                      try clear hcz14_0
                      try clear hcz14_1
                      try clear hcz26_0
                      try clear hcz26_1
                      try clear hcz28_0
                      try clear hcz28_1
                      try clear hcz30_0
                      try clear hcz30_1
                      try clear hcz53_0
                      try clear hcz53_1
                      try clear hcz54_0
                      try clear hcz54_1
                      try clear hcz60_0
                      try clear hcz60_1
                      try clear hcz62_0
                      try clear hcz62_1
                      try clear hfz11_0
                      try clear hfz11_1
                      try clear hfz14_0
                      try clear hfz14_1
                      try clear hfz26_0
                      try clear hfz26_1
                      try clear hfz28_0
                      try clear hfz28_1
                      try clear hfz30_0
                      try clear hfz30_1
                      try clear hfz53_0
                      try clear hfz53_1
                      try clear hfz54_0
                      try clear hfz54_1
                      try clear hfz60_0
                      try clear hfz60_1
                      try clear hfz62_0
                      try clear hfz62_1
                      try clear Bq
                      try clear B6
                      try clear B7
                      try clear p1
                      try clear p15
                      try clear Bn
                      try clear Bw
                      try clear p2
                      try clear q1
                      try clear q15
                      try clear Bo
                      try clear Bx
                      obtain ⟨kq,Bp,rfl,HA,HJ49,HO_10,HO_14,HO_81,HO_94,Ae,Aa,Ah,HB⟩:=hcut;cases kq with
                      | zero=>exact absurd HA.out (by simp [Aab.j5])
                      | succ kj49 =>
                       have H:=HA.out;clear HA;simp only [Aab.j5] at H
                       by_cases c63 : Bp = true
                       ·subst c63;have H1 : (some false) = some r:=by rw [if_pos rfl] at H;exact H
                        clear H;have H:=H1;clear H1;obtain rfl:=Option.some.inj H;go_wp2
                        repeat (go_quiet (fail);try go_wp2)
                        go_ret
                        exact ⟨by first|rfl|(simp [errW_none,errW_some] <;> rfl)|(simp [*,errW_none,errW_some] <;> rfl),bb_⟩
                       ·replace c63:=Bool.eq_false_iff.mpr c63;subst c63;have H1 : (if 0 ≤ x96_5 then ((Abp.f (rd Ab x83_3) x96_5).bind fun Av=>(if (((Go.bits .andNot .i64 (Go.bits .andNot .i64 (rd Ab x83_3) As) (shl .i64 1 x96_5)) == 0) != Av) = true then (some false) else (Aab.l1 kj49 Ac Ak x16_41 x83_3 (rd Ab x83_3) Ab (Ab.length : Int) x83_3 Ac (Ac.length : Int) (wrap64 (x96_5 + 1)) Af Ad))) else (none)) = some r:=by rw [if_neg (show ¬ (false = true) by decide)] at H;exact H
                        clear H;have H:=H1;clear H1;by_cases c64 : 0 ≤ x96_5
                        ·rw [if_pos c64] at H;have c64b0:=eq_true c64;have c64b1 : decide (0 ≤ x96_5) = true:=decide_eq_true c64;clear c64;obtain ⟨ji65,hji65⟩ : ∃ j_ : Int,(shl .i64 1 x96_5) = j_:=⟨_,rfl⟩;replace H : ((Abp.f (rd Ab x83_3) x96_5).bind fun Av=>(if (((Go.bits .andNot .i64 (Go.bits .andNot .i64 (rd Ab x83_3) As) (ji65)) == 0) != Av) = true then (some false) else (Aab.l1 kj49 Ac Ak x16_41 x83_3 (rd Ab x83_3) Ab (Ab.length : Int) x83_3 Ac (Ac.length : Int) (wrap64 (x96_5 + 1)) Af Ad))) = some r:=by first|(rw [hji65] at H;exact H)|(simp only [hji65] at H ⊢;exact H)
                         have hji65_ : (IntKind.i64.wrap (1 * 2 ^ min x96_5.toNat 64)) = ji65:=hji65;have hji65z : x96_5 ≤ 64 → (IntKind.i64.wrap (1 * 2 ^ x96_5.toNat)) = ji65:=shl_small hji65;have hji65u : (IntKind.i64.wrap (2 ^ min x96_5.toNat 64)) = ji65:=by have h_:=hji65_;rw [Int.one_mul] at h_;exact h_
                         have hji65v : x96_5 ≤ 64 → (IntKind.i64.wrap (2 ^ x96_5.toNat)) = ji65:=fun hle_=>by have h_:=hji65z hle_;rw [Int.one_mul] at h_;exact h_
                         have hji65y : (wrap64 (1 * 2 ^ min x96_5.toNat 64)) = ji65:=(i64_w _).symm.trans hji65_;have hji65x : x96_5 ≤ 64 → (wrap64 (1 * 2 ^ x96_5.toNat)) = ji65:=fun h_=>(i64_w _).symm.trans (hji65z h_)
                         replace H:=Option.bind_eq_some_iff.mp H;obtain ⟨Av,Cj,H⟩:=H;replace H : (if (((Go.bits .andNot .i64 (Go.bits .andNot .i64 (rd Ab x83_3) As) (ji65)) == 0) != Av) = true then (some false) else (Aab.l1 kj49 Ac Ak x16_41 x83_3 (rd Ab x83_3) Ab (Ab.length : Int) x83_3 Ac (Ac.length : Int) (wrap64 (x96_5 + 1)) Af Ad)) = some r:=H;have A66:=A_ Cj;clear Cj;by_cases c67 : (((Go.bits .andNot .i64 (Go.bits .andNot .i64 (rd Ab x83_3) As) (ji65)) == 0) != Av) = true
                         ·rw [if_pos c67] at H;have c67b0 : (((Go.bits .andNot .i64 (Go.bits .andNot .i64 (rd Ab x83_3) As) (ji65)) == 0) != Av) = true:=c67;(try (have c67b1 : decide (((Go.bits .andNot .i64 (Go.bits .andNot .i64 (rd Ab x83_3) As) (ji65)) == 0) = Av) = false:=by simpa using c67));(try (have c67b2 : (((Go.bits .andNot .i64 (Go.bits .andNot .i64 (rd Ab x83_3) As) (ji65)) == 0) == Av) = false:=by simpa using c67));(try (have c67b3 : ¬ (((Go.bits .andNot .i64 (Go.bits .andNot .i64 (rd Ab x83_3) As) (ji65)) == 0) = Av):=by simpa using c67));clear c67;obtain rfl:=Option.some.inj H;go_wp2_with (first|(go_at_call 62;(with_reducible refine (Abp.calls (rd Ab x83_3) x96_5 Av _ A66.out).mono ?_);rintro e w' ⟨rfl,⟨nd,rfl⟩⟩;(try first|exact ⟨rfl,_,World.drewN_drewN _ _ _⟩|exact ⟨rfl,_,Eq.trans (World.drewN_drewN _ _ _) (congrArg (World.drewN _) (Nat.add_assoc _ _ _))⟩)))
                          repeat (go_quiet (first|(go_at_call 62;(with_reducible refine (Abp.calls (rd Ab x83_3) x96_5 Av _ A66.out).mono ?_);rintro e w' ⟨rfl,⟨nd,rfl⟩⟩;(try first|exact ⟨rfl,_,World.drewN_drewN _ _ _⟩|exact ⟨rfl,_,Eq.trans (World.drewN_drewN _ _ _) (congrArg (World.drewN _) (Nat.add_assoc _ _ _))⟩)));try go_wp2_with (first|(go_at_call 62;(with_reducible refine (Abp.calls (rd Ab x83_3) x96_5 Av _ A66.out).mono ?_);rintro e w' ⟨rfl,⟨nd,rfl⟩⟩;(try first|exact ⟨rfl,_,World.drewN_drewN _ _ _⟩|exact ⟨rfl,_,Eq.trans (World.drewN_drewN _ _ _) (congrArg (World.drewN _) (Nat.add_assoc _ _ _))⟩))))
                          go_ret
                          exact ⟨by first|rfl|(simp [errW_none,errW_some] <;> rfl)|(simp only [← hji65];first|rfl|(simp [errW_none,errW_some] <;> rfl))|(simp [*,errW_none,errW_some] <;> rfl),bb_⟩
                         ·rw [if_neg c67] at H;have c67b0 : (((Go.bits .andNot .i64 (Go.bits .andNot .i64 (rd Ab x83_3) As) (ji65)) == 0) != Av) = false:=by simpa using c67
                          (try (have c67b1 : decide (((Go.bits .andNot .i64 (Go.bits .andNot .i64 (rd Ab x83_3) As) (ji65)) == 0) = Av) = true:=by simpa using c67));(try (have c67b2 : (((Go.bits .andNot .i64 (Go.bits .andNot .i64 (rd Ab x83_3) As) (ji65)) == 0) == Av) = true:=by simpa using c67));clear c67;have H':=A_ H;clear H;go_wp2_with (first|(go_at_call 62;(with_reducible refine (Abp.calls (rd Ab x83_3) x96_5 Av _ A66.out).mono ?_);rintro e w' ⟨rfl,⟨nd,rfl⟩⟩;(try first|exact ⟨rfl,_,World.drewN_drewN _ _ _⟩|exact ⟨rfl,_,Eq.trans (World.drewN_drewN _ _ _) (congrArg (World.drewN _) (Nat.add_assoc _ _ _))⟩)))
                          repeat (go_quiet (first|(go_at_call 62;(with_reducible refine (Abp.calls (rd Ab x83_3) x96_5 Av _ A66.out).mono ?_);rintro e w' ⟨rfl,⟨nd,rfl⟩⟩;(try first|exact ⟨rfl,_,World.drewN_drewN _ _ _⟩|exact ⟨rfl,_,Eq.trans (World.drewN_drewN _ _ _) (congrArg (World.drewN _) (Nat.add_assoc _ _ _))⟩)));try go_wp2_with (first|(go_at_call 62;(with_reducible refine (Abp.calls (rd Ab x83_3) x96_5 Av _ A66.out).mono ?_);rintro e w' ⟨rfl,⟨nd,rfl⟩⟩;(try first|exact ⟨rfl,_,World.drewN_drewN _ _ _⟩|exact ⟨rfl,_,Eq.trans (World.drewN_drewN _ _ _) (congrArg (World.drewN _) (Nat.add_assoc _ _ _))⟩))))
                          go_roundg kj49
                          case measure=>have:=HJ7.out;have:=HJ24.out;have:=HK3.out;have:=HJ41.out;have:=HK5.out;have:=HJ49.out;omega
                          case rel=>exact ⟨(wrap64 (x96_5 + 1)),(by first|rfl|(simp;done)|(simp [*];done)),H',⟨by have:=HJ7.out;have:=HJ24.out;have:=HK3.out;have:=HJ41.out;have:=HK5.out;have:=HJ49.out;omega⟩,⟨rq_ (Kd.R_mono HO_10.out (fun _ hk=>trivial))⟩,⟨rl_ HO_14⟩,⟨rl_ HO_81⟩,⟨rq_ (Kd.R_mono HO_94.out (fun _ hk=>trivial))⟩,⟨rl_ Ae⟩,⟨bl_ Aa⟩,⟨bb_⟩⟩
                        ·rw [if_neg c64] at H;exact absurd H (by simp)
                    ·rw [if_neg c48] at H;exact absurd H (by simp)
                   ·rw [if_neg c47] at H;exact absurd H (by simp)
                  ·rw [if_neg c46] at H;have c46b0 : decide (x96_5 < (Ac.length : Int)) = false:=decide_eq_false c46;clear c46;have H':=A_ H;clear H;go_wp2
                   repeat (go_quiet (fail);try go_wp2)
                   go_roundg k5
                   case measure=>have:=HJ7.out;have:=HJ24.out;have:=HK3.out;have:=HJ41.out;have:=HK5.out;omega
                   case rel=>exact ⟨(x16_41),(wrap64 (x83_3 + 1)),(by first|rfl|(simp;done)|(simp [*];done)),(by first|rfl|(simp;done)|(simp [*];done)),H',⟨by have:=HJ7.out;have:=HJ24.out;have:=HK3.out;have:=HJ41.out;have:=HK5.out;omega⟩,⟨rl_ HO_10⟩,⟨rl_ HO_14⟩,⟨rl_ HO_81⟩,⟨rl_ Ae⟩,⟨bl_ Aa⟩,⟨bb_⟩⟩
             ·rw [if_neg c40] at H;exact absurd H (by simp)
            ·rw [if_neg c39] at H;exact absurd H (by simp)
           ·rw [if_neg c38] at H;have c38b0 : decide (x83_3 < (Ab.length : Int)) = false:=decide_eq_false c38;clear c38;obtain rfl:=Option.some.inj H;obtain ⟨Ao68,co68,eo68⟩:=Kd.R_slice HO_14.out;subst eo68;go_wp2
            repeat (go_quiet (fail);try go_wp2)
            go_ret
            exact ⟨by first|rfl|(simp [errW_none,errW_some] <;> rfl)|(simp [*,errW_none,errW_some] <;> rfl),bb_⟩
     ·replace c21:=Bool.eq_false_iff.mpr c21;subst c21;have H1 : (some true) = some r:=by rw [if_neg (show ¬ (false = true) by decide)] at H;exact H
      clear H;have H:=H1;clear H1;obtain rfl:=Option.some.inj H;go_wp2
      repeat (go_quiet (fail);try go_wp2)
      go_ret
      exact ⟨by first|rfl|(simp [errW_none,errW_some] <;> rfl)|(simp [*,errW_none,errW_some] <;> rfl),bb_⟩
def Aab.Pure : Prop := ∀ (l0 : List Int) (l1 : List Int), l0.length ≤ maxLen → l0.length * 1 ≤ 140737488351232 → (∀ x ∈ l0, (Lit.int .u8 x).wf = true) → l1.length ≤ maxLen → l1.length * 1 ≤ 140737488351232 → (∀ x ∈ l1, (Lit.int .u8 x).wf = true) → ∃ k, Aab.f k l0 l1 = some true
theorem Aab.walk (P : Aab.Pure) (a0 : Option Addr) (len0 cap0 : Nat) (z0 : List Int) (a1 : Option Addr) (len1 cap1 : Nat) (z1 : List Int) (w : World) (w0 : (a0 = none ∧ len0 = 0 ∧ cap0 = 0 ∧ z0 = []) ∨ ∃ x,a0 = some x ∧ len0 ≤ cap0 ∧ cap0 ≤ maxLen ∧ z0.length = cap0 ∧ (∀ i,i < z0.length → w.cell? (x.add i) = some (.int .u8 (z0.getD i 0))) ∧ ∀ n ∈ z0,(Lit.int .u8 n).wf = true) (y0 : len0 * 1 ≤ 140737488351232) (w1 : (a1 = none ∧ len1 = 0 ∧ cap1 = 0 ∧ z1 = []) ∨ ∃ x,a1 = some x ∧ len1 ≤ cap1 ∧ cap1 ≤ maxLen ∧ z1.length = cap1 ∧ (∀ i,i < z1.length → w.cell? (x.add i) = some (.int .u8 (z1.getD i 0))) ∧ ∀ n ∈ z1,(Lit.int .u8 n).wf = true) (y1 : len1 * 1 ≤ 140737488351232) (hT : TabOK w) :
 Calls Tryd.prog 13 #[.slice a0 len0 cap0,.slice a1 len1 cap1] w fun e w'=>e = .returned (.bool true) ∧ Below w.heap.size w w':=by
 obtain ⟨l0,rfl,hr0,hm0,hw0,hc0⟩:=ReadsInt.ofRowC w0;obtain ⟨l1,rfl,hr1,hm1,hw1,hc1⟩:=ReadsInt.ofRowC w1;obtain ⟨k,h⟩:=P l0 l1 hm0 y0 hw0 hm1 y1 hw1;refine (Aab.calls k _ _ l0 _ _ l1 true w (Kd.C_of_reads (d:=(0 : Int)) (h1:=fun _=>rfl) hr0) hc0 (Kd.C_of_reads (d:=(0 : Int)) (h1:=fun _=>rfl) hr1) hc1 hT h).mono ?_
 rintro e w' ⟨rfl,hd⟩
 exact ⟨rfl,hd⟩
def Ab8.l0 : Nat → List Int → List Int → Int → Int → Option (Bool)
 | 0,_,_,_,_=>none
 | k + 1,x0,x1,x12,x13=>if x13 < x12 then (if 0 ≤ x13 then (if x13 < (x0.length : Int) then (if x13 < (x1.length : Int) then (if (rd x0 x13) = (rd x1 x13) then (Ab8.l0 k x0 x1 x12 (wrap64 (x13 + 1))) else (some false)) else (none)) else (none)) else (none)) else (some true)
def Ab8.f (k : Nat) (l0 : List Int) (l1 : List Int) : Option (Bool) := if (l0.length : Int) = (l1.length : Int) then (Ab8.l0 k l0 l1 (l0.length : Int) 0) else (some false)
def Acp.f (k : Nat) (a0_0 : Int) (l0_1 : List Int) (a1_0 : Int) (l1_1 : List Int) : Option (Bool) := if a0_0 = a1_0 then ((Ab8.f k l0_1 l1_1).bind fun t1290 => (some t1290)) else (some false)
theorem eqA62 (d : Nat) (w : World) (x0 y0 : Int) (x1 y1 : Int) :
 (Op.equalIn (d + 2) 62 (.agg #[.int .i64 x0,.int .i64 x1]) (.agg #[.int .i64 y0,.int .i64 y1])).run Tryd.prog w = .ok (x0 == y0 && (x1 == y1)) w:=by
 refine eqA_of Tryd.underlying62 (by kernel_rfl) ?_
 refine eqf_cons (by rfl) (by go_simp;rfl) (by go_simp;rfl) (by go_simp) ?_
 exact eqf_last (by rfl) (by go_simp;rfl) (by go_simp;rfl) (by go_simp)
end Go.Proofs.YtimjblnglhmakaaDoor.P
namespace Go.Proofs.YtimjblnglhmakaaDoor.P
open Go.RowKit Go.Proofs.YtimjblnglhmakaaDoorW.PrintWords Go.Proofs.YtimjblnglhmakaaDoorW.PrintLast Go.Proofs.YtimjblnglhmakaaDoorW.PrintMore
open Bool renaming true → T, false → F
open List renaming setIfInBounds_toArray → L_, set_cons_zero → M_, set_cons_succ → N_, map_toArray → P_, map_cons → Q_, map_nil → R_, length_drop → S_, length_take → U_
open Aside0 renaming mk → A_
attribute [local go_sem] max2_int min2_int max_two min_two max_three min_three max_four min_four
set_option linter.unusedVariables false
set_option linter.unusedSimpArgs false
attribute [local go_sem] fldOrder_0 fldOrder_1
attribute [local go_sem high] eqA62
def Acu.l0 : Nat → List (S62) → List (S62) → Int → Int → Option (Bool)
 | 0,_,_,_,_=>none
 | k + 1,x0,x1,x12,x13=>if x13 < x12 then (if 0 ≤ x13 then (if x13 < (x0.length : Int) then (if x13 < (x1.length : Int) then (if (!(((rd_T62 x0 x13).f0) == ((rd_T62 x1 x13).f0)) || (!(((rd_T62 x0 x13).f1) == ((rd_T62 x1 x13).f1)))) = true then (some false) else (Acu.l0 k x0 x1 x12 (wrap64 (x13 + 1)))) else (none)) else (none)) else (none)) else (some true)
end Go.Proofs.YtimjblnglhmakaaDoor.P
namespace Go.Proofs.YtimjblnglhmakaaDoor.P
open Go.RowKit Go.Proofs.YtimjblnglhmakaaDoorW.PrintWords Go.Proofs.YtimjblnglhmakaaDoorW.PrintLast Go.Proofs.YtimjblnglhmakaaDoorW.PrintMore
open Bool renaming true → T, false → F
open List renaming setIfInBounds_toArray → L_, set_cons_zero → M_, set_cons_succ → N_, map_toArray → P_, map_cons → Q_, map_nil → R_, length_drop → S_, length_take → U_
open Aside0 renaming mk → A_
attribute [local go_sem] max2_int min2_int max_two min_two max_three min_three max_four min_four
set_option linter.unusedVariables false
set_option linter.unusedSimpArgs false
attribute [local go_sem] fldOrder_0 fldOrder_1
def Aco.l0 : Nat → List (S62) → List (S62) → Int → Int → Option (Bool)
 | 0,_,_,_,_=>none
 | k + 1,x0,x5,x6,x7=>if x7 < x6 then (if 0 ≤ x7 then (if x7 < (x5.length : Int) then ((Aba.f ((rd_T62 x5 x7).f0) (-1000) 1000).bind fun t103=>(if t103 = true then ((Aba.f ((rd_T62 x5 x7).f1) ((rd_T62 x5 x7).f0) 1000).bind fun t104=>(if t104 = true then (Aco.l0 k x0 x5 x6 (wrap64 (x7 + 1))) else (some false))) else (some false))) else (none)) else (none)) else (some (decide ((x0.length : Int) ≤ 10)))
def Acr.f (a0 : Int) (a1 : Int) (l2_0 : List (S62)) : Option (Bool) := if 0 ≤ a0 then (if a0 < (l2_0.length : Int) then (if 0 ≤ a1 then (if a1 < (l2_0.length : Int) then (some (decide (((rd_T62 l2_0 a0).f1) < ((rd_T62 l2_0 a1).f0)))) else (none)) else (none)) else (none)) else (none)
def Acw.f (k : Nat) (l0 : List (S62)) : Option (Int × List Int) := (Aai.f k (l0.length : Int) (fun x0_ x1_ => Acr.f x0_ x1_ l0)).bind fun bt110 => (some (bt110.1, bt110.2))
def Aci.f (k : Nat) (a0_0 : Int) (l0_1 : List Int) (a1 : Int) : Option (Int) := if 0 ≤ a0_0 then (if 0 ≤ a1 then (if a1 < (l0_1.length : Int) then ((Aa0.f k a0_0 l0_1 a1).bind fun t126 => (some (Go.bits .andNot .i64 (wrap64 ((shl .i64 1 a0_0) - 1)) (Go.bits .or .i64 (Go.bits .or .i64 (rd l0_1 a1) t126) (shl .i64 1 a1))))) else (none)) else (none)) else (none)
mutual
def Abx.l0 : Nat → Int → Int → List Int → Option (List Int × Bool)
 | 0,_,_,_=>none
 | k + 1,x4,x128000,x128001=>if x4 < x128000 then (if 0 ≤ x4 then (if x4 < (x128001.length : Int) then ((Aa3.f k (rd x128001 x4)).bind fun t130=>(Abx.l1 k x4 t130 (t130.length : Int) 0 x128000 x128001)) else (none)) else (none)) else (some (([] : List Int),false))
def Abx.l1 : Nat → Int → List Int → Int → Int → Int → List Int → Option (List Int × Bool)
 | 0,_,_,_,_,_,_=>none
 | k + 1,x4,x25,x26,x27,x128000,x128001=>if x27 < x26 then (if 0 ≤ x27 then (if x27 < (x25.length : Int) then (if 0 ≤ (rd x25 x27) then (if (rd x25 x27) < (x128001.length : Int) then ((Aa3.f k (rd x128001 (rd x25 x27))).bind fun t135=>(Abx.l2 k x4 (rd x25 x27) x25 x26 x27 t135 (t135.length : Int) 0 x128000 x128001)) else (none)) else (none)) else (none)) else (none)) else (Abx.l0 k (wrap64 (x4 + 1)) x128000 x128001)
def Abx.l2 : Nat → Int → Int → List Int → Int → Int → List Int → Int → Int → Int → List Int → Option (List Int × Bool)
 | 0,_,_,_,_,_,_,_,_,_,_=>none
 | k + 1,x4,x6,x25,x26,x27,x36,x37,x38,x128000,x128001=>if x38 < x37 then (if 0 ≤ x38 then (if x38 < (x36.length : Int) then ((Aci.f k x128000 x128001 x4).bind fun t139=>((Aci.f k x128000 x128001 x6).bind fun t140=>((Aci.f k x128000 x128001 (rd x36 x38)).bind fun t141=>((Aa3.f k (Go.bits .and .i64 (Go.bits .and .i64 t139 t140) t141)).bind fun t142=>(Abx.l3 k x4 x6 (rd x36 x38) x25 x26 x27 x36 x37 x38 t142 (t142.length : Int) 0 x128000 x128001))))) else (none)) else (none)) else (Abx.l1 k x4 x25 x26 (wrap64 (x27 + 1)) x128000 x128001)
def Abx.l3 : Nat → Int → Int → Int → List Int → Int → Int → List Int → Int → Int → List Int → Int → Int → Int → List Int → Option (List Int × Bool)
 | 0,_,_,_,_,_,_,_,_,_,_,_,_,_,_=>none
 | k + 1,x4,x6,x8,x25,x26,x27,x36,x37,x38,x53,x54,x55,x128000,x128001=>if x55 < x54 then (if 0 ≤ x55 then (if x55 < (x53.length : Int) then (some ((([x4,x6,x8,rd x53 x55] : List Int)),true)) else (none)) else (none)) else (Abx.l2 k x4 x6 x25 x26 x27 x36 x37 (wrap64 (x38 + 1)) x128000 x128001)
end
def Acj.f (k : Nat) (a0_0 : Int) (l0_1 : List Int) (a1 : Int) (a2 : Int) : Option (Bool) := (Aci.f k a0_0 l0_1 a1).bind fun t150 => ((Aas.f t150 a2).bind fun t151 => (some t151))
mutual
def Abv.l0 : Nat → Int → Int → List Int → Option (Bool)
 | 0,_,_,_=>none
 | k + 1,x3,x153000,x153001=>if x3 < x153000 then (if 0 ≤ x3 then (if x3 < (x153001.length : Int) then ((Aa3.f k (rd x153001 x3)).bind fun t154=>(Abv.l1 k x3 t154 (t154.length : Int) 0 x153000 x153001)) else (none)) else (none)) else (some false)
def Abv.l1 : Nat → Int → List Int → Int → Int → Int → List Int → Option (Bool)
 | 0,_,_,_,_,_,_=>none
 | k + 1,x3,x20,x21,x22,x153000,x153001=>if x22 < x21 then (if 0 ≤ x22 then (if x22 < (x20.length : Int) then (Abv.l2 k x3 (rd x20 x22) 0 x20 x21 x22 x153000 x153001) else (none)) else (none)) else (Abv.l0 k (wrap64 (x3 + 1)) x153000 x153001)
def Abv.l2 : Nat → Int → Int → Int → List Int → Int → Int → Int → List Int → Option (Bool)
 | 0,_,_,_,_,_,_,_,_=>none
 | k + 1,x3,x5,x6,x20,x21,x22,x153000,x153001=>if x6 < x153000 then (if 0 ≤ x6 then (if x6 < (x153001.length : Int) then ((Aa3.f k (rd x153001 x6)).bind fun t159=>(Abv.l3 k x3 x5 x6 x20 x21 x22 t159 (t159.length : Int) 0 x153000 x153001)) else (none)) else (none)) else (Abv.l1 k x3 x20 x21 (wrap64 (x22 + 1)) x153000 x153001)
def Abv.l3 : Nat → Int → Int → Int → List Int → Int → Int → List Int → Int → Int → Int → List Int → Option (Bool)
 | 0,_,_,_,_,_,_,_,_,_,_,_=>none
 | k + 1,x3,x5,x6,x20,x21,x22,x37,x38,x39,x153000,x153001=>if x39 < x38 then (if 0 ≤ x39 then (if x39 < (x37.length : Int) then ((Acj.f k x153000 x153001 x3 (rd x37 x39)).bind fun t163=>(if t163 = true then ((Acj.f k x153000 x153001 x6 x5).bind fun t164=>(if t164 = true then (some true) else (Abv.l3 k x3 x5 x6 x20 x21 x22 x37 x38 (wrap64 (x39 + 1)) x153000 x153001))) else (Abv.l3 k x3 x5 x6 x20 x21 x22 x37 x38 (wrap64 (x39 + 1)) x153000 x153001))) else (none)) else (none)) else (Abv.l2 k x3 x5 (wrap64 (x6 + 1)) x20 x21 x22 x153000 x153001)
end
mutual
def Abw.l0 : Nat → List Int → Int → Int → Int → List Int → Option (List Int)
 | 0,_,_,_,_,_=>none
 | k + 1,x3,x13,x14,x833000,x833001=>if x14 < x13 then (if 0 ≤ x14 then (if x14 < (x833001.length : Int) then ((Aa4.f k (rd x833001 x14)).bind fun t837=>(Abw.l1 k x3 x14 x13 x14 t837 (t837.length : Int) 0 x833000 x833001)) else (none)) else (none)) else (some ([] : List Int))
def Abw.l1 : Nat → List Int → Int → Int → Int → List Int → Int → Int → Int → List Int → Option (List Int)
 | 0,_,_,_,_,_,_,_,_,_=>none
 | k + 1,x3,x4,x13,x14,x22,x23,x24,x833000,x833001=>if x24 < x23 then (if 0 ≤ x24 then (if x24 < (x22.length : Int) then (if 0 ≤ (rd x22 x24) then (if (rd x22 x24) < (x833001.length : Int) then ((Aa4.f k (rd x833001 (rd x22 x24))).bind fun t842=>(Abw.l2 k x3 x4 (rd x22 x24) x13 x14 x22 x23 x24 t842 (t842.length : Int) 0 x833000 x833001)) else (none)) else (none)) else (none)) else (none)) else (Abw.l0 k x3 x13 (wrap64 (x14 + 1)) x833000 x833001)
def Abw.l2 : Nat → List Int → Int → Int → Int → Int → List Int → Int → Int → List Int → Int → Int → Int → List Int → Option (List Int)
 | 0,_,_,_,_,_,_,_,_,_,_,_,_,_=>none
 | k + 1,x3,x4,x6,x13,x14,x22,x23,x24,x33,x34,x35,x833000,x833001=>if x35 < x34 then (if 0 ≤ x35 then (if x35 < (x33.length : Int) then (if 0 ≤ x4 then (if x4 < (x3.length : Int) then (if 0 ≤ x6 then (if x6 < (x3.length : Int) then (if 0 ≤ (rd x33 x35) then (if (rd x33 x35) < (x3.length : Int) then (if (Go.bits .and .i64 (Go.bits .and .i64 (rd x3 x4) (rd x3 x6)) (rd x3 (rd x33 x35))) = 0 then (Abw.l2 k x3 x4 x6 x13 x14 x22 x23 x24 x33 x34 (wrap64 (x35 + 1)) x833000 x833001) else ((Aa4.f k (Go.bits .and .i64 (Go.bits .and .i64 (rd x3 x4) (rd x3 x6)) (rd x3 (rd x33 x35)))).bind fun t849=>(if 0 < (t849.length : Int) then (some (([x4,x6,rd x33 x35,rd t849 0] : List Int))) else (none)))) else (none)) else (none)) else (none)) else (none)) else (none)) else (none)) else (none)) else (none)) else (Abw.l1 k x3 x4 x13 x14 x22 x23 (wrap64 (x24 + 1)) x833000 x833001)
end
theorem Ab3.nilAt {P : Program} (w : World) (d : Nat) (t e : TypeId) (a : Option Addr) (l c : Nat) (h : P.underlying t = some (.slice e)) : (Op.equalIn (d + 1) t (.slice a l c) (.slice none 0 0)).run P w = .ok a.isNone w:=by
 cases a <;> simp [Op.equalIn,run_underlying h]
theorem Ab3.nilOf {P : Program} (w : World) (t e : TypeId) (a : Option Addr) (l c : Nat) (h : P.underlying t = some (.slice e)) : (binOp .eql t (.slice a l c) (.slice none 0 0)).run P w = .ok (.bool a.isNone) w:=by
 have h1 : (Op.equal t (.slice a l c) (.slice none 0 0)).run P w = .ok a.isNone w:=Ab3.nilAt w 9999 t e a l c h;simp [binOp,h1]
theorem Ab3.nilNo {P : Program} (w : World) (t e : TypeId) (a : Option Addr) (l c : Nat) (h : P.underlying t = some (.slice e)) : (binOp .neq t (.slice a l c) (.slice none 0 0)).run P w = .ok (.bool (!a.isNone)) w:=by
 have h1 : (Op.equal t (.slice a l c) (.slice none 0 0)).run P w = .ok a.isNone w:=Ab3.nilAt w 9999 t e a l c h;simp [binOp,h1]
theorem Ab3.nilE (w : World) (a : Option Addr) (l c : Nat) : (binOp .eql 22 (.slice a l c) (.slice none 0 0)).run Tryd.prog w = .ok (.bool a.isNone) w:=Ab3.nilOf w _ _ a l c Tryd.underlying22
theorem Ab3.nilN (w : World) (a : Option Addr) (l c : Nat) : (binOp .neq 22 (.slice a l c) (.slice none 0 0)).run Tryd.prog w = .ok (.bool (!a.isNone)) w:=Ab3.nilNo w _ _ a l c Tryd.underlying22
attribute [local go_sem] Ab3.nilE Ab3.nilN
end Go.Proofs.YtimjblnglhmakaaDoor.P
namespace Go.Proofs.YtimjblnglhmakaaDoor.P
open Go.RowKit Go.Proofs.YtimjblnglhmakaaDoorW.PrintWords Go.Proofs.YtimjblnglhmakaaDoorW.PrintLast Go.Proofs.YtimjblnglhmakaaDoorW.PrintMore
open Bool renaming true → T, false → F
open List renaming setIfInBounds_toArray → L_, set_cons_zero → M_, set_cons_succ → N_, map_toArray → P_, map_cons → Q_, map_nil → R_, length_drop → S_, length_take → U_
open Aside0 renaming mk → A_
attribute [local go_sem] max2_int min2_int max_two min_two max_three min_three max_four min_four
set_option linter.unusedVariables false
set_option linter.unusedSimpArgs false
attribute [local go_sem] fldOrder_0 fldOrder_1
def Acv.l0 : Nat → Int → Int → Int → List Int → Int → List Int → Option (Int × List Int)
 | 0,_,_,_,_,_,_=>none
 | k + 1,x10,x11,x868000,x868001,x870000,x870001=>if x11 < x10 then ((Aa0.f k x868000 x868001 x11).bind fun t870=>(if x870001.length < 17592186044416 then (Acv.l0 k x10 (wrap64 (x11 + 1)) x868000 x868001 x870000 (x870001 ++ [t870])) else (none))) else (some (x870000,x870001))
end Go.Proofs.YtimjblnglhmakaaDoor.P
namespace Go.Proofs.YtimjblnglhmakaaDoor.M
open Go.RowKit Go.Proofs.YtimjblnglhmakaaDoorW.PrintMore Go.Proofs.YtimjblnglhmakaaDoorW.PrintLast Go.Proofs.YtimjblnglhmakaaDoorW.PrintWords
theorem i64_small (n : Nat) (h : n < 9223372036854775808) : IntKind.i64.wrap (n : Int) = (n : Int) := by
  simp [IntKind.wrap, IntKind.signed, IntKind.bits]
  omega
theorem wrap64_id (x : Int) (h0 : -9223372036854775808 ≤ x) (h1 : x ≤ 9223372036854775807) : wrap64 x = x := by
  unfold wrap64
  omega
theorem ofInt64 (a : Nat) (ha : a < 18446744073709551616) : (BitVec.ofInt 64 (a : Int)).toNat = a := by
  rw [BitVec.ofInt_natCast, BitVec.toNat_ofNat]; exact Nat.mod_eq_of_lt (by omega)
theorem and_i64 (a b : Nat) (ha : a < 9223372036854775808) (hb : b < 9223372036854775808) : Go.bits .and .i64 (a : Int) (b : Int) = ((a &&& b : Nat) : Int) := by
  have hx : a &&& b < 2 ^ 63 := Nat.and_lt_two_pow _ (by omega)
  show IntKind.i64.wrap ((BitVec.ofInt 64 (a : Int) &&& BitVec.ofInt 64 (b : Int)).toNat : Int) = _
  rw [BitVec.toNat_and, ofInt64 a (by omega), ofInt64 b (by omega), i64_small _ (by omega)]
theorem or_i64 (a b : Nat) (ha : a < 9223372036854775808) (hb : b < 9223372036854775808) : Go.bits .or .i64 (a : Int) (b : Int) = ((a ||| b : Nat) : Int) := by
  have hx : a ||| b < 2 ^ 63 := Nat.or_lt_two_pow (by omega) (by omega)
  show IntKind.i64.wrap ((BitVec.ofInt 64 (a : Int) ||| BitVec.ofInt 64 (b : Int)).toNat : Int) = _
  rw [BitVec.toNat_or, ofInt64 a (by omega), ofInt64 b (by omega), i64_small _ (by omega)]
def diff (a b : Nat) : Nat := a &&& (a ^^^ b)
theorem testBit_diff (a b i : Nat) : (diff a b).testBit i = (a.testBit i && !b.testBit i) := by
  unfold diff
  rw [Nat.testBit_and, Nat.testBit_xor]
  cases a.testBit i <;> cases b.testBit i <;> rfl
theorem andNot_i64 (a b : Nat) (ha : a < 9223372036854775808) (hb : b < 9223372036854775808) : Go.bits .andNot .i64 (a : Int) (b : Int) = ((diff a b : Nat) : Int) := by
  have hx : diff a b < 2 ^ 63 := Nat.lt_of_le_of_lt Nat.and_le_left (by omega)
  show IntKind.i64.wrap ((BitVec.ofInt 64 (a : Int) &&& ~~~ BitVec.ofInt 64 (b : Int)).toNat : Int) = _
  have e : (BitVec.ofInt 64 (a : Int) &&& ~~~ BitVec.ofInt 64 (b : Int)).toNat = diff a b := by
    apply Nat.eq_of_testBit_eq
    intro i
    rw [BitVec.toNat_and, Nat.testBit_and, testBit_diff, ofInt64 a (by omega)]
    by_cases hi : i < 64
    · rw [show (~~~ BitVec.ofInt 64 (b : Int)).toNat.testBit i = !(BitVec.ofInt 64 (b : Int)).toNat.testBit i from by
        rw [BitVec.testBit_toNat, BitVec.testBit_toNat, BitVec.getLsbD_not]; simp [hi], ofInt64 b (by omega)]
    · rw [Nat.testBit_lt_two_pow (x := a) (i := i) (Nat.lt_of_lt_of_le (by omega : a < 2 ^ 64) (Nat.pow_le_pow_right (by decide) (by omega)))]
      rfl
  rw [e, i64_small _ (by omega)]
theorem shl1 (j : Nat) (h : j ≤ 62) : shl .i64 1 (j : Int) = ((2 ^ j : Nat) : Int) := by
  unfold shl
  have h2 : (2 : Nat) ^ j < 9223372036854775808 := Nat.lt_of_le_of_lt (Nat.pow_le_pow_right (by decide) h) (by decide)
  rw [Int.toNat_natCast, Nat.min_eq_left (by show j ≤ 64; omega), Int.one_mul]
  have := i64_small (2 ^ j) h2
  rwa [Int.natCast_pow] at this ⊢
theorem shr_nat (a j : Nat) (h : j ≤ 64) : shr .i64 (a : Int) (j : Int) = ((a / 2 ^ j : Nat) : Int) := by
  unfold shr
  rw [Int.toNat_natCast, Nat.min_eq_left (by exact h)]
  simp
def bit (s : Int) (j : Nat) : Bool := s.toNat.testBit j
theorem bit_cast (a j : Nat) : bit (a : Int) j = a.testBit j := by simp [bit]
theorem and_one (a : Nat) (j : Nat) : ((a / 2 ^ j) &&& 1 : Nat) = if a.testBit j then 1 else 0 := by
  rw [Nat.and_one_is_mod, Nat.testBit_eq_decide_div_mod_eq]
  rcases Nat.mod_two_eq_zero_or_one (a / 2 ^ j) with h | h <;> simp [h]
theorem has_and (s : Int) (j : Nat) (h0 : 0 ≤ s) (h1 : s < 9223372036854775808) (hj : j ≤ 64) : (Go.bits .and .i64 (shr .i64 s (j : Int)) 1 == 1) = bit s j := by
  obtain ⟨a, rfl⟩ := Int.eq_ofNat_of_zero_le h0
  have hl : a / 2 ^ j < 9223372036854775808 := Nat.lt_of_le_of_lt (Nat.div_le_self _ _) (by omega)
  rw [shr_nat a j hj, show (1 : Int) = ((1 : Nat) : Int) from rfl, and_i64 _ 1 hl (by decide), and_one, bit_cast]
  cases a.testBit j <;> rfl
theorem has_mod (s : Int) (j : Nat) (h0 : 0 ≤ s) (hj : j ≤ 64) : (Int.tmod (shr .i64 s (j : Int)) 2 == 1) = bit s j := by
  obtain ⟨a, rfl⟩ := Int.eq_ofNat_of_zero_le h0
  rw [shr_nat a j hj, bit_cast, Nat.testBit_eq_decide_div_mod_eq, Int.tmod_eq_emod_of_nonneg (Int.natCast_nonneg _)]
  rcases Nat.mod_two_eq_zero_or_one (a / 2 ^ j) with h | h
  · rw [show ((a / 2 ^ j : Nat) : Int) % 2 = 0 from by omega]; simp [h]
  · rw [show ((a / 2 ^ j : Nat) : Int) % 2 = 1 from by omega]; simp [h]
def setOf : Nat → (Nat → Bool) → Nat
  | 0, _ => 0
  | n + 1, q => setOf n q ||| (if q n then 2 ^ n else 0)
theorem testBit_setOf (n : Nat) (q : Nat → Bool) (j : Nat) : (setOf n q).testBit j = (decide (j < n) && q j) := by
  induction n with
  | zero => simp [setOf]
  | succ n ih =>
    unfold setOf
    rw [Nat.testBit_or, ih]
    by_cases hq : q n
    · rw [if_pos hq, Nat.testBit_two_pow]
      by_cases h : n = j
      · subst h; simp [hq]
      · have : (j < n + 1) ↔ j < n := by omega
        simp [h, this]
    · rw [if_neg hq]
      by_cases h : n = j
      · subst h; simp [hq]
      · have : (j < n + 1) ↔ j < n := by omega
        simp [this]
theorem setOf_lt (n : Nat) (q : Nat → Bool) : setOf n q < 2 ^ n := by
  induction n with
  | zero => simp [setOf]
  | succ n ih =>
    unfold setOf
    have h1 : setOf n q < 2 ^ (n + 1) := Nat.lt_of_lt_of_le ih (Nat.pow_le_pow_right (by decide) (by omega))
    refine Nat.or_lt_two_pow h1 ?_
    split
    · exact Nat.pow_lt_pow_right (by decide) (by omega)
    · exact Nat.two_pow_pos _
theorem lt62 {n s : Nat} (h : s < 2 ^ n) (hn : n ≤ 62) : s < 9223372036854775808 := Nat.lt_of_lt_of_le h (Nat.le_trans (Nat.pow_le_pow_right (by decide) hn) (by decide))
theorem setOf_62 (n : Nat) (q : Nat → Bool) (hn : n ≤ 62) : setOf n q < 9223372036854775808 := lt62 (setOf_lt n q) hn
end Go.Proofs.YtimjblnglhmakaaDoor.M
namespace Go.Proofs.YtimjblnglhmakaaDoor.M
open Go.RowKit Go.Proofs.YtimjblnglhmakaaDoorW.PrintMore Go.Proofs.YtimjblnglhmakaaDoorW.PrintLast Go.Proofs.YtimjblnglhmakaaDoorW.PrintWords
theorem Ev.up {α : Type} {r : α} (G : Nat → Nat → Option α) (n : Nat) (step : ∀ i, i < n → Ev (G (i + 1)) r → Ev (G i) r) (stop : Ev (G n) r) : Ev (G 0) r := by
  have key : ∀ m, m ≤ n → Ev (G (n - m)) r := by
    intro m
    induction m with
    | zero => intro _; exact stop
    | succ m ih =>
      intro hm
      have h := step (n - (m + 1)) (by omega)
      rw [show n - (m + 1) + 1 = n - m from by omega] at h
      exact h (ih (by omega))
  have := key n (Nat.le_refl _)
  rwa [Nat.sub_self] at this
theorem Ev.from {α : Type} {r : α} (G : Nat → Nat → Option α) (n i : Nat) (hi : i ≤ n) (step : ∀ i, i < n → Ev (G (i + 1)) r → Ev (G i) r) (stop : Ev (G n) r) : Ev (G i) r := by
  have h := Ev.up (fun j => G (i + j)) (n - i) (fun j hj h => step (i + j) (by omega) h) (by rw [show i + (n - i) = n from by omega]; exact stop)
  exact h
def allB (n : Nat) (p : Nat → Bool) : Bool := (List.range n).all p
theorem allB_iff {n : Nat} {p : Nat → Bool} : allB n p = true ↔ ∀ j, j < n → p j = true := by simp [allB]
theorem allB_false {n : Nat} {p : Nat → Bool} : allB n p = false ↔ ∃ j, j < n ∧ p j = false := by simp [allB]
theorem least_false {n : Nat} {p : Nat → Bool} (h : ∃ j, j < n ∧ p j = false) : ∃ j, j < n ∧ p j = false ∧ ∀ i, i < j → p i = true := by
  obtain ⟨j, hj, hp⟩ := h
  induction j using Nat.strongRecOn with
  | _ j ih =>
    by_cases hl : ∃ i, i < j ∧ p i = false
    · obtain ⟨i, hi, hpi⟩ := hl
      exact ih i hi (by omega) hpi
    · refine ⟨j, hj, hp, fun i hi => ?_⟩
      cases hc : p i with
      | true => rfl
      | false => exact absurd ⟨i, hi, hc⟩ hl
theorem Ev.all (G : Nat → Nat → Option Bool) (n : Nat) (p : Nat → Bool) (yes : ∀ i r, i < n → p i = true → Ev (G (i + 1)) r → Ev (G i) r) (no : ∀ i, i < n → p i = false → Ev (G i) false) (stop : Ev (G n) true) :
    Ev (G 0) (allB n p) := by
  cases h : allB n p with
  | true =>
    have h := allB_iff.1 h
    exact Ev.up G n (fun i hi => yes i true hi (h i hi)) stop
  | false =>
    obtain ⟨j, hj, hp, hl⟩ := least_false (allB_false.1 h)
    exact Ev.up G j (fun i hi => yes i false (by omega) (hl i hi)) (no j hj hp)
theorem Ev.const {α : Type} {x : Option α} {r : α} (h : x = some r) : Ev (fun _ => x) r := ⟨0, fun _ _ => h⟩
theorem Ev.to {α : Type} {g : Nat → Option α} {r r' : α} (h : Ev g r) (e : r = r') : Ev g r' := e ▸ h
theorem rd_nat (l : List Int) (i : Nat) : rd l (i : Int) = l.getD i 0 := by simp [rd]
theorem rd_get (l : List Int) (i : Nat) (h : i < l.length) : rd l (i : Int) = l[i] := by simp [rd, h]
theorem next64 (i n : Nat) (h : i < n) (hn : n ≤ 140737488355328) : wrap64 ((i : Int) + 1) = ((i + 1 : Nat) : Int) := by unfold wrap64; omega
theorem list_ext_getD {l l' : List Int} (hl : l.length = l'.length) (h : ∀ i, i < l.length → l.getD i 0 = l'.getD i 0) : l = l' := by
  apply List.ext_getElem hl
  intro i h1 h2
  have := h i h1
  simpa [h1, h2] using this
def EvP {α : Type} (g : Nat → Option α) (φ : α → Prop) (S : Prop) : Prop := ∃ r, Ev g r ∧ (φ r ↔ S)
theorem EvP.now {α : Type} {φ : α → Prop} {S : Prop} {r : α} (h : φ r ↔ S) : EvP (fun _ => some r) φ S := ⟨r, Ev.now r, h⟩
theorem EvP.step {α : Type} {g f : Nat → Option α} {φ : α → Prop} {S : Prop} (h : ∀ k, g (k + 1) = f k) (k : EvP f φ S) : EvP g φ S := by
  obtain ⟨r, hr, e⟩ := k
  exact ⟨r, Ev.step h hr, e⟩
theorem EvP.iff {α : Type} {g : Nat → Option α} {φ : α → Prop} {S S' : Prop} (h : EvP g φ S) (e : S ↔ S') : EvP g φ S' := by
  obtain ⟨r, hr, h⟩ := h
  exact ⟨r, hr, h.trans e⟩
theorem EvP.loop {α : Type} {φ : α → Prop} (G : Nat → Nat → Option α) (n : Nat) (S : Nat → Prop) (Rest : Prop) (step : ∀ i T, i < n → EvP (G (i + 1)) φ T → EvP (G i) φ (S i ∧ T)) (stop : EvP (G n) φ Rest) : EvP (G 0) φ ((∀ i, i < n → S i) ∧ Rest) := by
  have key : ∀ m, m ≤ n → EvP (G (n - m)) φ ((∀ i, n - m ≤ i → i < n → S i) ∧ Rest) := by
    intro m
    induction m with
    | zero => intro _; exact EvP.iff stop ⟨fun h => ⟨fun i h1 h2 => by omega, h⟩, fun h => h.2⟩
    | succ m ih =>
      intro hm
      have h := ih (by omega)
      rw [show n - m = n - (m + 1) + 1 by omega] at h
      refine EvP.iff (step (n - (m + 1)) _ (by omega) h) ?_
      constructor
      · rintro ⟨h1, h2, h3⟩
        refine ⟨fun i hi hn => ?_, h3⟩
        by_cases e : i = n - (m + 1)
        · rw [e]; exact h1
        · exact h2 i (by omega) hn
      · rintro ⟨h1, h2⟩
        exact ⟨h1 _ (Nat.le_refl _) (by omega), fun i hi hn => h1 i (by omega) hn, h2⟩
  have := key n (Nat.le_refl _)
  rw [Nat.sub_self] at this
  exact EvP.iff this ⟨fun ⟨h, r⟩ => ⟨fun i hi => h i (Nat.zero_le _) hi, r⟩, fun ⟨h, r⟩ => ⟨fun i _ hi => h i hi, r⟩⟩
end Go.Proofs.YtimjblnglhmakaaDoor.M
namespace Go.Proofs.YtimjblnglhmakaaDoor.M
open Go.RowKit Go.Proofs.YtimjblnglhmakaaDoorW.PrintMore Go.Proofs.YtimjblnglhmakaaDoorW.PrintLast Go.Proofs.YtimjblnglhmakaaDoorW.PrintWords Go.Proofs.YtimjblnglhmakaaDoor.P
def elems (n s : Nat) : List Nat := (List.range n).filter fun j => s.testBit j
theorem mem_elems {n s j : Nat} : j ∈ elems n s ↔ j < n ∧ s.testBit j = true := by simp [elems]
theorem elems_zero (n : Nat) : elems n 0 = [] := by simp [elems]
def ints (l : List Nat) : List Int := l.map fun (j : Nat) => (j : Int)
theorem ints_length (l : List Nat) : (ints l).length = l.length := by simp [ints]
theorem elems_length_le (n s : Nat) : (elems n s).length ≤ n := by
  unfold elems
  exact Nat.le_trans (List.length_filter_le _ _) (by simp)
theorem filter_range_split (n c : Nat) (h : c < n) (p : Nat → Bool) : (List.range n).filter p = (List.range c).filter p ++ ((if p c then [c] else []) ++ (List.range' (c + 1) (n - (c + 1))).filter p) := by
  have e : List.range n = List.range c ++ ([c] ++ List.range' (c + 1) (n - (c + 1))) := by
    rw [List.range_eq_range', List.range_eq_range']
    have h1 : n = c + (1 + (n - (c + 1))) := by omega
    have e1 : List.range' 0 n = List.range' 0 c ++ List.range' c (1 + (n - (c + 1))) := by
      have := List.range'_append_1 (s := 0) (m := c) (n := 1 + (n - (c + 1)))
      rw [Nat.zero_add] at this
      rw [this, ← h1]
    rw [e1, Nat.add_comm 1, List.range'_succ]
    rfl
  rw [e, List.filter_append, List.filter_append]
  congr 1
  cases hp : p c <;> simp [hp]
theorem elems_least (n s c m : Nat) (hs : s = 2 ^ c * (2 * m + 1)) (hn : s < 2 ^ n) : elems n s = c :: elems n (s &&& (s - 1)) := by
  have hp : 0 < 2 ^ c := Nat.two_pow_pos c
  have e1 : s - 1 = 2 ^ (c + 1) * m + (2 ^ c - 1) := by
    have a1 : 2 ^ c * (2 * m + 1) = 2 ^ (c + 1) * m + 2 ^ c := by rw [Nat.pow_succ, Nat.mul_add, Nat.mul_assoc]; simp
    omega
  have hb : ∀ j, s.testBit j = if j < c then false else if j = c then true else m.testBit (j - (c + 1)) := by
    intro j
    rw [hs, Nat.mul_comm, Nat.testBit_mul_two_pow]
    by_cases h1 : j < c
    · rw [if_pos h1]; simp; omega
    · rw [if_neg h1]
      by_cases h2 : j = c
      · subst h2; simp
      · rw [if_neg h2]
        obtain ⟨d, rfl⟩ : ∃ d, j = c + (d + 1) := ⟨j - c - 1, by omega⟩
        rw [show c + (d + 1) - c = d + 1 from by omega, show c + (d + 1) - (c + 1) = d from by omega, Nat.testBit_succ, show (2 * m + 1) / 2 = m from by omega]
        simp
  have hb1 : ∀ j, (s - 1).testBit j = if j < c then true else if j = c then false else m.testBit (j - (c + 1)) := by
    intro j
    rw [e1, Nat.testBit_two_pow_mul_add m (by have : 2 ^ c < 2 ^ (c + 1) := Nat.pow_lt_pow_right (by decide) (by omega); omega)]
    by_cases h1 : j < c
    · rw [if_pos (by omega), if_pos h1, Nat.testBit_two_pow_sub_one]; simp [h1]
    · rw [if_neg h1]
      by_cases h2 : j = c
      · subst h2; rw [if_pos (by omega), if_pos rfl, Nat.testBit_two_pow_sub_one]; simp
      · rw [if_neg (by omega), if_neg h2]
  have hb2 : ∀ j, (s &&& (s - 1)).testBit j = if j ≤ c then false else s.testBit j := by
    intro j
    rw [Nat.testBit_and, hb, hb1]
    by_cases h1 : j < c
    · simp [h1, Nat.le_of_lt h1]
    · by_cases h2 : j = c
      · simp [h2]
      · rw [if_neg h1, if_neg h1, if_neg h2, if_neg h2, if_neg (by omega)]; simp
  have hc : c < n := by
    apply Nat.lt_of_not_le
    intro hle
    have h1 : 2 ^ n ≤ 2 ^ c := Nat.pow_le_pow_right (by decide) hle
    have h2 : 2 ^ c ≤ s := by rw [hs]; exact Nat.le_mul_of_pos_right _ (by omega)
    omega
  unfold elems
  rw [filter_range_split n c hc, filter_range_split n c hc (fun j => (s &&& (s - 1)).testBit j)]
  have z1 : (List.range c).filter (fun j => s.testBit j) = [] := by
    rw [List.filter_eq_nil_iff]; intro j hj; simp at hj; rw [hb, if_pos hj]; simp
  have z2 : (List.range c).filter (fun j => (s &&& (s - 1)).testBit j) = [] := by
    rw [List.filter_eq_nil_iff]; intro j hj; simp at hj; rw [hb2, if_pos (by omega)]; simp
  have z3 : (List.range' (c + 1) (n - (c + 1))).filter (fun j => s.testBit j) = (List.range' (c + 1) (n - (c + 1))).filter (fun j => (s &&& (s - 1)).testBit j) := by
    apply List.filter_congr
    intro j hj
    rw [List.mem_range'] at hj
    obtain ⟨i, hi, rfl⟩ := hj
    rw [hb2, if_neg (by omega)]
  have y1 : s.testBit c = true := by rw [hb, if_neg (by omega), if_pos rfl]
  have y2 : (s &&& (s - 1)).testBit c = false := by rw [hb2, if_pos (Nat.le_refl _)]
  rw [z1, z2, z3, if_pos y1, y2]
  rfl
theorem and_pred_lt (s : Nat) (h : s ≠ 0) : s &&& (s - 1) < s := Nat.lt_of_le_of_lt Nat.and_le_right (by omega)
theorem u64_small (n : Nat) (h : n < 18446744073709551616) : IntKind.u64.wrap (n : Int) = (n : Int) := by
  simp [IntKind.wrap, IntKind.signed, IntKind.bits]
  omega
theorem members_ev (n : Nat) (hn : n ≤ 62) (s : Nat) (hs : s < 2 ^ n) : Ev (fun k => Aa4.f k (s : Int)) (ints (elems n s)) := by
  have key : ∀ d s, s ≤ d → s < 2 ^ n → ∀ acc : List Int, acc.length + (elems n s).length ≤ 64 → Ev (fun k => Aa4.l0 k (s : Int) acc) (acc ++ ints (elems n s)) := by
    intro d
    induction d with
    | zero =>
      intro s h0 _ acc _
      obtain rfl : s = 0 := by omega
      refine Ev.step (fun _ => rfl) ?_
      simp only [Aa4.l0, Int.natCast_zero, if_true]
      rw [elems_zero]
      simpa [ints] using Ev.now acc
    | succ d ih =>
      intro s h0 hs acc ha
      by_cases hz : s = 0
      · exact ih s (by omega) hs acc ha
      · have hs2 := lt62 hs hn
        obtain ⟨m, hm, hk⟩ := Lib.ctzFrom_spec 64 s (by omega) (by omega)
        have he := elems_least n s _ m hm hs
        have hl : (elems n s).length = (elems n (s &&& (s - 1))).length + 1 := by rw [he]; rfl
        refine Ev.step (fun _ => rfl) ?_
        have hc : Lib.ctz 64 s = Lib.ctzFrom 64 s := by unfold Lib.ctz; rw [if_neg hz]
        have e1 : Ab0.f (IntKind.u64.wrap (s : Int)) = some ((Lib.ctzFrom 64 s : Nat) : Int) := by
          rw [u64_small s (by omega)]
          unfold Ab0.f Abu.f
          rw [if_pos ⟨by omega, by omega⟩, Int.toNat_natCast, hc]
          rfl
        have e2 : Go.bits .and .i64 (s : Int) (wrap64 ((s : Int) - 1)) = ((s &&& (s - 1) : Nat) : Int) := by
          rw [show wrap64 ((s : Int) - 1) = ((s - 1 : Nat) : Int) from by unfold wrap64; omega]
          exact and_i64 _ _ (by omega) (by omega)
        simp only [Aa4.l0, if_neg (show ¬ (s : Int) = 0 by omega), e1, Option.bind_some, if_pos (show acc.length < 17592186044416 by omega), e2]
        have := ih (s &&& (s - 1)) (by have := and_pred_lt s hz; omega) (Nat.lt_of_le_of_lt Nat.and_le_left hs) (acc ++ [((Lib.ctzFrom 64 s : Nat) : Int)]) (by simp; omega)
        refine Ev.to this ?_
        rw [he]
        simp [ints]
  have h := key s s (Nat.le_refl _) hs [] (by have := elems_length_le n s; simp; omega)
  exact h
theorem orHas_eq (s : Nat) (j : Nat) (hj : j ≤ 64) : Aas.f (s : Int) (j : Int) = some (s.testBit j) := by
  unfold Aas.f
  rw [if_pos (by omega), has_mod _ _ (by omega) hj, bit_cast]
theorem orList_ev (n : Nat) (hn : n ≤ 62) (s : Nat) (hs : s < 2 ^ n) : Ev (fun k => Aa3.f k (s : Int)) (ints (elems n s)) := by
  -- up to the place behind the last element
  obtain ⟨t, ht, hlt, hgt⟩ : ∃ t, t ≤ n ∧ s / 2 ^ t = 0 ∧ ∀ i, i < t → 0 < s / 2 ^ i := by
    refine ⟨(if s = 0 then 0 else Nat.log2 s + 1), ?_, ?_, ?_⟩
    · split
      · omega
      · rename_i h
        have := (Nat.log2_lt h (k := n)).2 hs
        omega
    · split
      · rename_i h; simp [h]
      · exact Nat.div_eq_of_lt (Nat.lt_log2_self)
    · intro i hi
      split at hi
      · omega
      · rename_i h
        apply Nat.div_pos _ (Nat.two_pow_pos _)
        exact Nat.le_trans (Nat.pow_le_pow_right (by decide) (by omega : i ≤ Nat.log2 s)) (Nat.log2_self_le h)
  have hs2 := lt62 hs hn
  have hsplit : elems n s = elems t s := by
    unfold elems
    have e : List.range n = List.range t ++ List.range' t (n - t) := by
      rw [List.range_eq_range', List.range_eq_range']
      have := List.range'_append_1 (s := 0) (m := t) (n := n - t)
      rw [Nat.zero_add] at this
      rw [this]
      congr 1
      omega
    rw [e, List.filter_append]
    have z : (List.range' t (n - t)).filter (fun j => s.testBit j) = [] := by
      rw [List.filter_eq_nil_iff]
      intro j hj
      rw [List.mem_range'] at hj
      obtain ⟨i, hi, rfl⟩ := hj
      have h1 : s < 2 ^ t := by
        rcases Nat.div_eq_zero_iff.1 hlt with h | h
        · exact absurd h (Nat.ne_of_gt (Nat.two_pow_pos _))
        · exact h
      rw [Nat.testBit_lt_two_pow (Nat.lt_of_lt_of_le h1 (Nat.pow_le_pow_right (by decide) (by omega)))]
      simp
    rw [z, List.append_nil]
  rw [hsplit]
  unfold Aa3.f
  refine Ev.up (fun i k => Aa3.l0 k (s : Int) (ints (elems i s)) (i : Int)) t ?_ ?_
  · intro i hi h
    refine Ev.step (fun _ => rfl) ?_
    have e1 : shr .i64 (s : Int) (i : Int) > 0 := by rw [shr_nat s i (by omega)]; have := hgt i hi; omega
    have hlen := elems_length_le i s
    have e2 : elems (i + 1) s = elems i s ++ (if s.testBit i then [i] else []) := by
      unfold elems
      rw [List.range_succ, List.filter_append]
      congr 1
      cases hb2 : s.testBit i <;> simp [hb2]
    simp only [Aa3.l0, if_pos (show (0 : Int) ≤ (i : Int) by omega), if_pos e1, orHas_eq s i (by omega), Option.bind_some, next64 i t hi (by omega)]
    rw [e2] at h
    cases hb : s.testBit i with
    | true =>
      simp only [if_true, ints_length, if_pos (show (elems i s).length < 17592186044416 by omega)]
      rw [hb] at h
      simpa [ints] using h
    | false =>
      rw [hb] at h
      simpa [ints] using h
  · refine Ev.step (fun _ => rfl) ?_
    have e1 : ¬ shr .i64 (s : Int) (t : Int) > 0 := by rw [shr_nat s t (by omega)]; omega
    simp only [Aa3.l0, if_pos (show (0 : Int) ≤ (t : Int) by omega), if_neg e1]
    exact Ev.now _
end Go.Proofs.YtimjblnglhmakaaDoor.M
namespace Go.Proofs.YtimjblnglhmakaaDoor.M
open Go.RowKit Go.Proofs.YtimjblnglhmakaaDoorW.PrintMore Go.Proofs.YtimjblnglhmakaaDoorW.PrintLast Go.Proofs.YtimjblnglhmakaaDoorW.PrintWords Go.Proofs.YtimjblnglhmakaaDoor.P
def isRel (n : Int) (l : List Int) : Bool := decide (0 ≤ n ∧ n ≤ 10 ∧ (l.length : Int) = n ∧ ∀ x ∈ l, 0 ≤ x ∧ x ≤ ((2 ^ n.toNat : Nat) : Int) - 1)
def row (l : List Int) (i : Nat) : Nat := (l.getD i 0).toNat
def B (l : List Int) (i j : Nat) : Bool := (row l i).testBit j
structure Rel (n : Nat) (l : List Int) : Prop where
  le : n ≤ 10
  len : l.length = n
  mem : ∀ x ∈ l, 0 ≤ x ∧ x ≤ ((2 ^ n : Nat) : Int) - 1
theorem isRel_iff {n : Int} {l : List Int} : isRel n l = true ↔ ∃ m : Nat, n = m ∧ Rel m l := by
  unfold isRel
  rw [decide_eq_true_iff]
  constructor
  · rintro ⟨h0, h1, h2, h3⟩
    obtain ⟨m, rfl⟩ := Int.eq_ofNat_of_zero_le h0
    exact ⟨m, rfl, by omega, by omega, by simpa using h3⟩
  · rintro ⟨m, rfl, h⟩
    refine ⟨by omega, by have := h.le; omega, by have := h.len; omega, by simpa using h.mem⟩
section
variable {n : Nat} {l : List Int}
theorem Rel.getD (h : Rel n l) (i : Nat) : l.getD i 0 = ((row l i : Nat) : Int) := by
  unfold row
  by_cases hi : i < l.length
  · have := (h.mem l[i] (List.getElem_mem hi)).1
    rw [show l.getD i 0 = l[i] by simp [hi]]
    omega
  · rw [show l.getD i 0 = 0 by simp [Nat.not_lt.1 hi]]
    rfl
theorem Rel.row_lt (h : Rel n l) (i : Nat) : row l i < 2 ^ n := by
  have hp : 0 < 2 ^ n := Nat.two_pow_pos n
  by_cases hi : i < l.length
  · have h1 := h.mem l[i] (List.getElem_mem hi)
    have h2 := h.getD i
    rw [show l.getD i 0 = l[i] by simp [hi]] at h2
    omega
  · unfold row
    rw [show l.getD i 0 = 0 by simp [Nat.not_lt.1 hi]]
    simpa using hp
theorem Rel.row_62 (h : Rel n l) (i : Nat) : row l i < 9223372036854775808 := lt62 (h.row_lt i) (by have := h.le; omega)
theorem Rel.B_lt (h : Rel n l) {i j : Nat} (hb : B l i j = true) : j < n := by
  apply Nat.lt_of_not_le
  intro hle
  unfold B at hb
  rw [Nat.testBit_lt_two_pow (Nat.lt_of_lt_of_le (h.row_lt i) (Nat.pow_le_pow_right (by decide) hle))] at hb
  cases hb
theorem Rel.B_lt' (h : Rel n l) {i j : Nat} (hb : B l i j = true) : i < n := by
  apply Nat.lt_of_not_le
  intro hle
  unfold B row at hb
  rw [show l.getD i 0 = 0 by simp [h.len, hle]] at hb
  simp at hb
theorem Rel.rd (h : Rel n l) (i : Nat) : rd l (i : Int) = ((row l i : Nat) : Int) := by rw [rd_nat, h.getD]
theorem Rel.bit (h : Rel n l) (i j : Nat) : M.bit (Go.Proofs.YtimjblnglhmakaaDoorW.PrintWords.rd l (i : Int)) j = B l i j := by rw [h.rd, bit_cast]; rfl
end
def relL (n : Nat) (p : Nat → Nat → Bool) : List Int := (List.range n).map fun i => ((setOf n (p i) : Nat) : Int)
theorem relL_length (n : Nat) (p : Nat → Nat → Bool) : (relL n p).length = n := by simp [relL]
theorem relL_row (n : Nat) (p : Nat → Nat → Bool) (i : Nat) (h : i < n) : row (relL n p) i = setOf n (p i) := by
  simp [row, relL, h]
theorem relL_B (n : Nat) (p : Nat → Nat → Bool) (i j : Nat) : B (relL n p) i j = (decide (i < n) && (decide (j < n) && p i j)) := by
  unfold B
  by_cases h : i < n
  · rw [relL_row n p i h, testBit_setOf]; simp [h]
  · have : row (relL n p) i = 0 := by simp [row, relL, h]
    rw [this]; simp [h]
theorem relL_rel (n : Nat) (hn : n ≤ 10) (p : Nat → Nat → Bool) : Rel n (relL n p) where
  le := hn
  len := relL_length n p
  mem := by
    intro x hx
    simp only [relL, List.mem_map, List.mem_range] at hx
    obtain ⟨i, _, rfl⟩ := hx
    have := setOf_lt n (p i)
    omega
theorem within_eq (a b c : Int) : Aba.f a b c = some (decide (b ≤ a ∧ a ≤ c)) := by
  unfold Aba.f
  by_cases h : a ≥ b
  · rw [if_pos h]; simp [h]
  · rw [if_neg h]; simp; omega
theorem l1In_eq (a b c : Int) : Abf.f a b c = some (decide (b ≤ a ∧ a ≤ c)) := by
  unfold Abf.f
  by_cases h : a ≥ b
  · rw [if_pos h]; simp [h]
  · rw [if_neg h]; simp; omega
def allIn (l : List Int) (a b : Int) : Bool := decide (∀ x ∈ l, a ≤ x ∧ x ≤ b)
theorem allIn_eq (l : List Int) (a b : Int) : allIn l a b = allB l.length fun i => decide (a ≤ l.getD i 0 ∧ l.getD i 0 ≤ b) := by
  rw [Bool.eq_iff_iff, allB_iff]
  simp only [allIn, decide_eq_true_iff]
  constructor
  · intro h i hi
    have := h l[i] (List.getElem_mem hi)
    simpa [hi] using this
  · intro h x hx
    obtain ⟨i, hi, rfl⟩ := List.getElem_of_mem hx
    have := h i hi
    simpa [hi] using this
theorem allWithin_ev (l : List Int) (a b : Int) (hl : l.length ≤ 140737488355328) : Ev (fun k => Aay.f k l a b) (allIn l a b) := by
  rw [allIn_eq]
  unfold Aay.f
  refine Ev.all (fun i k => Aay.l0 k a b l (l.length : Int) (i : Int)) l.length _ ?_ ?_ ?_
  · intro i r hi hp h
    refine Ev.step (fun _ => rfl) ?_
    rw [decide_eq_true_iff] at hp
    simp only [Aay.l0, if_pos (show (i : Int) < (l.length : Int) by omega), if_pos (show (0 : Int) ≤ (i : Int) by omega), within_eq, rd_nat, Option.bind_some, decide_eq_true hp, if_true, next64 i l.length hi hl]
    exact h
  · intro i hi hp
    refine Ev.step (fun _ => rfl) ?_
    rw [decide_eq_false_iff_not] at hp
    simp only [Aay.l0, if_pos (show (i : Int) < (l.length : Int) by omega), if_pos (show (0 : Int) ≤ (i : Int) by omega), within_eq, rd_nat, Option.bind_some, decide_eq_false hp, Bool.false_eq_true, if_false]
    exact Ev.now _
  · refine Ev.step (fun _ => rfl) ?_
    simp only [Aay.l0, if_neg (show ¬ (l.length : Int) < (l.length : Int) by omega)]
    exact Ev.now _
theorem l1All_ev (l : List Int) (a b : Int) (hl : l.length ≤ 140737488355328) : Ev (fun k => Abd.f k l a b) (allIn l a b) := by
  rw [allIn_eq]
  unfold Abd.f
  refine Ev.all (fun i k => Abd.l0 k a b l (l.length : Int) (i : Int)) l.length _ ?_ ?_ ?_
  · intro i r hi hp h
    refine Ev.step (fun _ => rfl) ?_
    rw [decide_eq_true_iff] at hp
    simp only [Abd.l0, if_pos (show (i : Int) < (l.length : Int) by omega), if_pos (show (0 : Int) ≤ (i : Int) by omega), l1In_eq, rd_nat, Option.bind_some, decide_eq_true hp, if_true, next64 i l.length hi hl]
    exact h
  · intro i hi hp
    refine Ev.step (fun _ => rfl) ?_
    rw [decide_eq_false_iff_not] at hp
    simp only [Abd.l0, if_pos (show (i : Int) < (l.length : Int) by omega), if_pos (show (0 : Int) ≤ (i : Int) by omega), l1In_eq, rd_nat, Option.bind_some, decide_eq_false hp, Bool.false_eq_true, if_false]
    exact Ev.now _
  · refine Ev.step (fun _ => rfl) ?_
    simp only [Abd.l0, if_neg (show ¬ (l.length : Int) < (l.length : Int) by omega)]
    exact Ev.now _
theorem pow_of (n : Int) (h0 : 0 ≤ n) (h1 : n ≤ 10) : wrap64 (shl .i64 1 n - 1) = ((2 ^ n.toNat : Nat) : Int) - 1 := by
  obtain ⟨m, rfl⟩ := Int.eq_ofNat_of_zero_le h0
  rw [shl1 m (by omega), Int.toNat_natCast]
  have h2 : (2 : Nat) ^ m ≤ 2 ^ 10 := Nat.pow_le_pow_right (by decide) (by omega)
  have h3 : 0 < (2 : Nat) ^ m := Nat.two_pow_pos m
  exact wrap64_id _ (by omega) (by omega)
theorem isRel_parts (n : Int) (l : List Int) : isRel n l = (decide (0 ≤ n ∧ n ≤ 10) && (decide ((l.length : Int) = n) && allIn l 0 (((2 ^ n.toNat : Nat) : Int) - 1))) := by
  rw [Bool.eq_iff_iff]
  simp only [isRel, allIn, Bool.and_eq_true, decide_eq_true_iff]
  exact ⟨fun ⟨a, b, c, d⟩ => ⟨⟨a, b⟩, c, d⟩, fun ⟨⟨a, b⟩, c, d⟩ => ⟨a, b, c, d⟩⟩
theorem IsRelation_ev (n : Int) (l : List Int) (hl : l.length ≤ 140737488355328) : Ev (fun k => Abg.f k n l) (isRel n l) := by
  unfold Abg.f
  simp only [within_eq, Option.bind_some]
  rw [isRel_parts]
  by_cases h1 : 0 ≤ n ∧ n ≤ 10
  · by_cases h2 : (l.length : Int) = n
    · simp only [decide_eq_true h1, if_true, if_pos h2, if_pos h1.1, pow_of n h1.1 h1.2, decide_eq_true h2, Bool.true_and]
      exact Ev.bind (allWithin_ev l _ _ hl) (Ev.now _)
    · simp only [decide_eq_true h1, if_true, if_neg h2, decide_eq_false h2, Bool.false_and, Bool.and_false]
      exact Ev.now _
  · simp only [decide_eq_false h1, Bool.false_eq_true, if_false, Bool.false_and]
    exact Ev.now _
theorem orRelation_ev (n : Int) (l : List Int) (hl : l.length ≤ 140737488355328) : Ev (fun k => Abn.f k n l) (isRel n l) := by
  unfold Abn.f
  simp only [l1In_eq, Option.bind_some]
  rw [isRel_parts]
  by_cases h1 : 0 ≤ n ∧ n ≤ 10
  · by_cases h2 : (l.length : Int) = n
    · simp only [decide_eq_true h1, if_true, if_pos h2, if_pos h1.1, pow_of n h1.1 h1.2, decide_eq_true h2, Bool.true_and]
      exact Ev.bind (l1All_ev l _ _ hl) (Ev.now _)
    · simp only [decide_eq_true h1, if_true, if_neg h2, decide_eq_false h2, Bool.false_and, Bool.and_false]
      exact Ev.now _
  · simp only [decide_eq_false h1, Bool.false_eq_true, if_false, Bool.false_and]
    exact Ev.now _
def closedAt (n : Nat) (l : List Int) (i : Nat) : Bool := allB (elems n (row l i)).length fun q => diff (row l ((elems n (row l i)).getD q 0)) (row l i) == 0
def isOrd (n : Int) (l : List Int) : Bool := isRel n l && allB l.length fun i => !B l i i && closedAt l.length l i
theorem better_eq {n : Nat} {l : List Int} (h : Rel n l) (m : Int) (i j : Nat) (hi : i < n) (hj : j ≤ 62) : Aak.f m l (i : Int) (j : Int) = some (B l i j) := by
  unfold Aak.f
  rw [if_pos (by omega), if_pos (by rw [h.len]; omega), if_pos (by omega), has_and _ _ (by rw [h.rd]; omega) (by rw [h.rd]; have := h.row_62 i; omega) (by omega), h.bit]
theorem diff_zero (a b : Nat) : (diff a b = 0) ↔ ∀ j, a.testBit j = true → b.testBit j = true := by
  constructor
  · intro h j hj
    have := testBit_diff a b j
    rw [h, hj] at this
    simpa using this.symm
  · intro h
    apply Nat.eq_of_testBit_eq
    intro j
    rw [testBit_diff]
    cases hj : a.testBit j with
    | false => simp
    | true => simp [h j hj]
theorem ints_getD (l : List Nat) (q : Nat) (h : q < l.length) : (ints l).getD q 0 = ((l.getD q 0 : Nat) : Int) := by simp [ints, h]
theorem closed_iff {n : Nat} {l : List Int} (h : Rel n l) (i : Nat) : closedAt n l i = true ↔ ∀ j k, B l i j = true → B l j k = true → B l i k = true := by
  unfold closedAt
  rw [allB_iff]
  constructor
  · intro H j k hij hjk
    have hm : j ∈ elems n (row l i) := mem_elems.2 ⟨h.B_lt hij, hij⟩
    obtain ⟨q, hq, e⟩ := List.getElem_of_mem hm
    have := H q hq
    rw [show (elems n (row l i)).getD q 0 = j by simp [hq, e], beq_iff_eq, diff_zero] at this
    exact this k hjk
  · intro H q hq
    rw [beq_iff_eq, diff_zero]
    intro k hk
    have hm : (elems n (row l i)).getD q 0 ∈ elems n (row l i) := by simp [hq]
    exact H _ k (mem_elems.1 hm).2 hk
structure Ord (n : Nat) (l : List Int) : Prop extends Rel n l where
  irr : ∀ i, B l i i = false
  trans : ∀ i j k, B l i j = true → B l j k = true → B l i k = true
theorem isOrd_iff {n : Int} {l : List Int} : isOrd n l = true ↔ ∃ m : Nat, n = m ∧ Ord m l := by
  unfold isOrd
  rw [Bool.and_eq_true, isRel_iff, allB_iff]
  constructor
  · rintro ⟨⟨m, rfl, h⟩, H⟩
    rw [h.len] at H
    refine ⟨m, rfl, h, fun i => ?_, fun i j k hij hjk => ?_⟩
    · cases hc : B l i i with
      | false => rfl
      | true =>
        have := H i (h.B_lt hc)
        rw [hc] at this
        simp at this
    · have := H i (h.B_lt' hij)
      rw [Bool.and_eq_true] at this
      exact (closed_iff h i).1 this.2 j k hij hjk
  · rintro ⟨m, rfl, h⟩
    refine ⟨⟨m, rfl, h.toRel⟩, fun i _ => ?_⟩
    rw [h.irr i, h.len, (closed_iff h.toRel i).2 (h.trans i)]
    rfl
theorem IsOrder_ev (n : Int) (l : List Int) (hl : l.length ≤ 140737488355328) : Ev (fun k => Aau.f k n l) (isOrd n l) := by
  unfold Aau.f isOrd
  refine Ev.bind (IsRelation_ev n l hl) ?_
  cases hr : isRel n l with
  | false => simp only [Bool.false_eq_true, if_false, Bool.false_and]; exact Ev.now _
  | true =>
    obtain ⟨m, rfl, h⟩ := isRel_iff.1 hr
    have hlen := h.len
    have h10 := h.le
    simp only [if_true, Bool.true_and]
    refine Ev.all (fun i k => Aau.l0 k l (l.length : Int) (i : Int) (m : Int) l) l.length _ ?_ ?_ ?_
    · intro i r hi hp hrest
      rw [Bool.and_eq_true] at hp
      have hB : B l i i = false := by simpa using hp.1
      refine Ev.step (fun _ => rfl) ?_
      simp only [Aau.l0, if_pos (show (i : Int) < (l.length : Int) by omega), if_pos (show (0 : Int) ≤ (i : Int) by omega), better_eq h _ i i (by omega) (by omega), Option.bind_some, hB, Bool.false_eq_true, if_false, h.rd]
      refine Ev.bind (members_ev m (by omega) (row l i) (h.row_lt i)) ?_
      have hE := elems_length_le m (row l i)
      rw [ints_length]
      refine Ev.up (fun q k => Aau.l1 k ((row l i : Nat) : Int) l (l.length : Int) (i : Int) (ints (elems m (row l i))) ((elems m (row l i)).length : Int) (q : Int) (m : Int) l) (elems m (row l i)).length ?_ ?_
      · intro q hq hn
        refine Ev.step (fun _ => rfl) ?_
        have hmem : (elems m (row l i)).getD q 0 ∈ elems m (row l i) := by simp [hq]
        have hlt := (mem_elems.1 hmem).1
        have e0 : rd (ints (elems m (row l i))) (q : Int) = (((elems m (row l i)).getD q 0 : Nat) : Int) := by rw [rd_nat, ints_getD _ _ hq]
        have hd : diff (row l ((elems m (row l i)).getD q 0)) (row l i) = 0 := by
          have hc := hp.2
          unfold closedAt at hc
          rw [allB_iff, hlen] at hc
          exact beq_iff_eq.1 (hc q hq)
        simp only [Aau.l1, if_pos (show (q : Int) < ((elems m (row l i)).length : Int) by omega), if_pos (show (0 : Int) ≤ (q : Int) by omega), ints_length, e0, if_pos (show (0 : Int) ≤ (((elems m (row l i)).getD q 0 : Nat) : Int) by omega), if_pos (show (((elems m (row l i)).getD q 0 : Nat) : Int) < (l.length : Int) by omega), h.rd, andNot_i64 _ _ (h.row_62 _) (h.row_62 _), hd, Int.natCast_zero, if_true, next64 q _ hq (by omega)]
        exact hn
      · refine Ev.step (fun _ => rfl) ?_
        simp only [Aau.l1, if_neg (show ¬ ((elems m (row l i)).length : Int) < ((elems m (row l i)).length : Int) by omega), next64 i l.length hi (by omega)]
        exact hrest
    · intro i hi hp
      refine Ev.step (fun _ => rfl) ?_
      simp only [Aau.l0, if_pos (show (i : Int) < (l.length : Int) by omega), if_pos (show (0 : Int) ≤ (i : Int) by omega), better_eq h _ i i (by omega) (by omega), Option.bind_some]
      cases hB : B l i i with
      | true => simp only [if_true]; exact Ev.now _
      | false =>
        rw [hB] at hp
        have hc : closedAt l.length l i = false := by simpa using hp
        unfold closedAt at hc
        rw [hlen] at hc
        obtain ⟨j, hj, hbad, hless⟩ := least_false (allB_false.1 hc)
        simp only [Bool.false_eq_true, if_false, h.rd]
        refine Ev.bind (members_ev m (by omega) (row l i) (h.row_lt i)) ?_
        have hE := elems_length_le m (row l i)
        rw [ints_length]
        refine Ev.up (fun q k => Aau.l1 k ((row l i : Nat) : Int) l (l.length : Int) (i : Int) (ints (elems m (row l i))) ((elems m (row l i)).length : Int) (q : Int) (m : Int) l) j ?_ ?_
        · intro q hq hn
          refine Ev.step (fun _ => rfl) ?_
          have hmem : (elems m (row l i)).getD q 0 ∈ elems m (row l i) := by simp [show q < (elems m (row l i)).length by omega]
          have hlt := (mem_elems.1 hmem).1
          have e0 : rd (ints (elems m (row l i))) (q : Int) = (((elems m (row l i)).getD q 0 : Nat) : Int) := by rw [rd_nat, ints_getD _ _ (by omega)]
          have hd : diff (row l ((elems m (row l i)).getD q 0)) (row l i) = 0 := beq_iff_eq.1 (hless q hq)
          simp only [Aau.l1, if_pos (show (q : Int) < ((elems m (row l i)).length : Int) by omega), if_pos (show (0 : Int) ≤ (q : Int) by omega), ints_length, e0, if_pos (show (0 : Int) ≤ (((elems m (row l i)).getD q 0 : Nat) : Int) by omega), if_pos (show (((elems m (row l i)).getD q 0 : Nat) : Int) < (l.length : Int) by omega), h.rd, andNot_i64 _ _ (h.row_62 _) (h.row_62 _), hd, Int.natCast_zero, if_true, next64 q _ (show q < (elems m (row l i)).length by omega) (by omega)]
          exact hn
        · refine Ev.step (fun _ => rfl) ?_
          have hmem : (elems m (row l i)).getD j 0 ∈ elems m (row l i) := by simp [hj]
          have hlt := (mem_elems.1 hmem).1
          have e0 : rd (ints (elems m (row l i))) (j : Int) = (((elems m (row l i)).getD j 0 : Nat) : Int) := by rw [rd_nat, ints_getD _ _ (by omega)]
          have hd : ¬ ((diff (row l ((elems m (row l i)).getD j 0)) (row l i) : Nat) : Int) = 0 := by
            have := beq_eq_false_iff_ne.1 hbad
            omega
          simp only [Aau.l1, if_pos (show (j : Int) < ((elems m (row l i)).length : Int) by omega), if_pos (show (0 : Int) ≤ (j : Int) by omega), ints_length, e0, if_pos (show (0 : Int) ≤ (((elems m (row l i)).getD j 0 : Nat) : Int) by omega), if_pos (show (((elems m (row l i)).getD j 0 : Nat) : Int) < (l.length : Int) by omega), h.rd, andNot_i64 _ _ (h.row_62 _) (h.row_62 _), if_neg hd]
          exact Ev.now _
    · refine Ev.step (fun _ => rfl) ?_
      simp only [Aau.l0, if_neg (show ¬ (l.length : Int) < (l.length : Int) by omega)]
      exact Ev.now _
end Go.Proofs.YtimjblnglhmakaaDoor.M
namespace Go.Proofs.YtimjblnglhmakaaDoor.M
open Go.RowKit Go.Proofs.YtimjblnglhmakaaDoorW.PrintMore Go.Proofs.YtimjblnglhmakaaDoorW.PrintLast Go.Proofs.YtimjblnglhmakaaDoorW.PrintWords Go.Proofs.YtimjblnglhmakaaDoor.P
theorem orGood_ev (n : Int) (l : List Int) (hl : l.length ≤ 140737488355328) : Ev (fun k => Aax.f k n l) (isOrd n l) := by
  unfold Aax.f isOrd
  refine Ev.bind (orRelation_ev n l hl) ?_
  cases hr : isRel n l with
  | false => simp only [Bool.false_eq_true, if_false, Bool.false_and]; exact Ev.now _
  | true =>
    obtain ⟨m, rfl, h⟩ := isRel_iff.1 hr
    have hlen := h.len
    have h10 := h.le
    simp only [if_true, Bool.true_and]
    refine Ev.all (fun i k => Aax.l0 k l (l.length : Int) (i : Int) (m : Int) l) l.length _ ?_ ?_ ?_
    · intro i r hi hp hrest
      rw [Bool.and_eq_true] at hp
      have hB : B l i i = false := by simpa using hp.1
      refine Ev.step (fun _ => rfl) ?_
      simp only [Aax.l0, if_pos (show (i : Int) < (l.length : Int) by omega), if_pos (show (0 : Int) ≤ (i : Int) by omega), h.rd, orHas_eq (row l i) i (by omega), show (row l i).testBit i = B l i i from rfl, Option.bind_some, hB, Bool.false_eq_true, if_false]
      refine Ev.bind (orList_ev m (by omega) (row l i) (h.row_lt i)) ?_
      have hE := elems_length_le m (row l i)
      rw [ints_length]
      refine Ev.up (fun q k => Aax.l1 k ((row l i : Nat) : Int) l (l.length : Int) (i : Int) (ints (elems m (row l i))) ((elems m (row l i)).length : Int) (q : Int) (m : Int) l) (elems m (row l i)).length ?_ ?_
      · intro q hq hn
        refine Ev.step (fun _ => rfl) ?_
        have hmem : (elems m (row l i)).getD q 0 ∈ elems m (row l i) := by simp [hq]
        have hlt := (mem_elems.1 hmem).1
        have e0 : rd (ints (elems m (row l i))) (q : Int) = (((elems m (row l i)).getD q 0 : Nat) : Int) := by rw [rd_nat, ints_getD _ _ hq]
        have hd : diff (row l ((elems m (row l i)).getD q 0)) (row l i) = 0 := by
          have hc := hp.2
          unfold closedAt at hc
          rw [allB_iff, hlen] at hc
          exact beq_iff_eq.1 (hc q hq)
        simp only [Aax.l1, if_pos (show (q : Int) < ((elems m (row l i)).length : Int) by omega), if_pos (show (0 : Int) ≤ (q : Int) by omega), ints_length, e0, if_pos (show (0 : Int) ≤ (((elems m (row l i)).getD q 0 : Nat) : Int) by omega), if_pos (show (((elems m (row l i)).getD q 0 : Nat) : Int) < (l.length : Int) by omega), h.rd, andNot_i64 _ _ (h.row_62 _) (h.row_62 _), hd, Int.natCast_zero, if_true, next64 q _ hq (by omega)]
        exact hn
      · refine Ev.step (fun _ => rfl) ?_
        simp only [Aax.l1, if_neg (show ¬ ((elems m (row l i)).length : Int) < ((elems m (row l i)).length : Int) by omega), next64 i l.length hi (by omega)]
        exact hrest
    · intro i hi hp
      refine Ev.step (fun _ => rfl) ?_
      simp only [Aax.l0, if_pos (show (i : Int) < (l.length : Int) by omega), if_pos (show (0 : Int) ≤ (i : Int) by omega), h.rd, orHas_eq (row l i) i (by omega), show (row l i).testBit i = B l i i from rfl, Option.bind_some]
      cases hB : B l i i with
      | true => simp only [if_true]; exact Ev.now _
      | false =>
        rw [hB] at hp
        have hc : closedAt l.length l i = false := by simpa using hp
        unfold closedAt at hc
        rw [hlen] at hc
        obtain ⟨j, hj, hbad, hless⟩ := least_false (allB_false.1 hc)
        simp only [Bool.false_eq_true, if_false]
        refine Ev.bind (orList_ev m (by omega) (row l i) (h.row_lt i)) ?_
        have hE := elems_length_le m (row l i)
        rw [ints_length]
        refine Ev.up (fun q k => Aax.l1 k ((row l i : Nat) : Int) l (l.length : Int) (i : Int) (ints (elems m (row l i))) ((elems m (row l i)).length : Int) (q : Int) (m : Int) l) j ?_ ?_
        · intro q hq hn
          refine Ev.step (fun _ => rfl) ?_
          have hmem : (elems m (row l i)).getD q 0 ∈ elems m (row l i) := by simp [show q < (elems m (row l i)).length by omega]
          have hlt := (mem_elems.1 hmem).1
          have e0 : rd (ints (elems m (row l i))) (q : Int) = (((elems m (row l i)).getD q 0 : Nat) : Int) := by rw [rd_nat, ints_getD _ _ (by omega)]
          have hd : diff (row l ((elems m (row l i)).getD q 0)) (row l i) = 0 := beq_iff_eq.1 (hless q hq)
          simp only [Aax.l1, if_pos (show (q : Int) < ((elems m (row l i)).length : Int) by omega), if_pos (show (0 : Int) ≤ (q : Int) by omega), ints_length, e0, if_pos (show (0 : Int) ≤ (((elems m (row l i)).getD q 0 : Nat) : Int) by omega), if_pos (show (((elems m (row l i)).getD q 0 : Nat) : Int) < (l.length : Int) by omega), h.rd, andNot_i64 _ _ (h.row_62 _) (h.row_62 _), hd, Int.natCast_zero, if_true, next64 q _ (show q < (elems m (row l i)).length by omega) (by omega)]
          exact hn
        · refine Ev.step (fun _ => rfl) ?_
          have hmem : (elems m (row l i)).getD j 0 ∈ elems m (row l i) := by simp [hj]
          have hlt := (mem_elems.1 hmem).1
          have e0 : rd (ints (elems m (row l i))) (j : Int) = (((elems m (row l i)).getD j 0 : Nat) : Int) := by rw [rd_nat, ints_getD _ _ (by omega)]
          have hd : ¬ ((diff (row l ((elems m (row l i)).getD j 0)) (row l i) : Nat) : Int) = 0 := by
            have := beq_eq_false_iff_ne.1 hbad
            omega
          simp only [Aax.l1, if_pos (show (j : Int) < ((elems m (row l i)).length : Int) by omega), if_pos (show (0 : Int) ≤ (j : Int) by omega), ints_length, e0, if_pos (show (0 : Int) ≤ (((elems m (row l i)).getD j 0 : Nat) : Int) by omega), if_pos (show (((elems m (row l i)).getD j 0 : Nat) : Int) < (l.length : Int) by omega), h.rd, andNot_i64 _ _ (h.row_62 _) (h.row_62 _), if_neg hd]
          exact Ev.now _
    · refine Ev.step (fun _ => rfl) ?_
      simp only [Aax.l0, if_neg (show ¬ (l.length : Int) < (l.length : Int) by omega)]
      exact Ev.now _
theorem setOf_bit_or (q : Nat → Bool) (j : Nat) : setOf (j + 1) q = if q j then setOf j q ||| 2 ^ j else setOf j q := by
  show setOf j q ||| (if q j then 2 ^ j else 0) = _
  cases q j <;> simp
def part (n : Nat) (p : Nat → Nat → Bool) (i j : Nat) : List Int := (List.range n).map fun a => ((setOf (if a < i then n else if a = i then j else 0) (p a) : Nat) : Int)
theorem part_length (n : Nat) (p : Nat → Nat → Bool) (i j : Nat) : (part n p i j).length = n := by simp [part]
theorem part_getD (n : Nat) (p : Nat → Nat → Bool) (i j a : Nat) (h : a < n) : (part n p i j).getD a 0 = ((setOf (if a < i then n else if a = i then j else 0) (p a) : Nat) : Int) := by simp [part, h]
theorem part_next (n : Nat) (p : Nat → Nat → Bool) (i : Nat) : part n p i n = part n p (i + 1) 0 := by
  unfold part
  apply List.map_congr_left
  intro a _
  by_cases h1 : a < i
  · rw [if_pos h1, if_pos (by omega)]
  · rw [if_neg h1]
    by_cases h2 : a = i
    · rw [if_pos h2, if_pos (by omega)]
    · rw [if_neg h2, if_neg (by omega)]
      by_cases h3 : a = i + 1
      · rw [if_pos h3]
      · rw [if_neg h3]
theorem part_no (n : Nat) (p : Nat → Nat → Bool) (i j : Nat) (hi : i < n) (h : p i j = false) : part n p i j = part n p i (j + 1) := by
  unfold part
  apply List.map_congr_left
  intro a _
  by_cases h2 : a = i
  · subst h2
    rw [if_neg (Nat.lt_irrefl _), if_pos rfl, if_neg (Nat.lt_irrefl _), if_pos rfl, setOf_bit_or, h]
    rfl
  · rw [if_neg h2, if_neg h2]
theorem part_yes (n : Nat) (p : Nat → Nat → Bool) (i j : Nat) (hi : i < n) (h : p i j = true) : (part n p i j).set i ((setOf j (p i) ||| 2 ^ j : Nat) : Int) = part n p i (j + 1) := by
  apply list_ext_getD (by simp [part_length])
  intro a ha
  have ha : a < n := by simpa [part_length] using ha
  rw [part_getD n p i (j + 1) a ha]
  by_cases h2 : a = i
  · subst h2
    rw [if_neg (Nat.lt_irrefl _), if_pos rfl, setOf_bit_or, h]
    rw [List.getD_eq_getElem?_getD, List.getElem?_set_self (by rw [part_length]; exact hi)]
    rfl
  · have e : ((part n p i j).set i ((setOf j (p i) ||| 2 ^ j : Nat) : Int)).getD a 0 = (part n p i j).getD a 0 := by
      simp [List.getD, Ne.symm h2]
    rw [e, part_getD n p i j a ha, if_neg h2, if_neg h2]
theorem part_zero (n : Nat) (p : Nat → Nat → Bool) : part n p 0 0 = List.replicate n 0 := by
  apply list_ext_getD (by simp [part_length])
  intro a ha
  have ha : a < n := by simpa [part_length] using ha
  rw [part_getD n p 0 0 a ha, if_neg (Nat.not_lt_zero _)]
  have : (if a = 0 then 0 else 0) = 0 := by split <;> rfl
  rw [this]
  simp [setOf, ha]
theorem part_all (n : Nat) (p : Nat → Nat → Bool) : part n p n 0 = relL n p := by
  unfold part relL
  apply List.map_congr_left
  intro a ha
  rw [List.mem_range] at ha
  rw [if_pos ha]
theorem relation_ev (n : Nat) (hn : n ≤ 62) (g : Nat → Int → Int → Option Bool) (p : Nat → Nat → Bool) (hg : ∀ i j, i < n → j < n → Ev (fun k => g k (i : Int) (j : Int)) (p i j)) :
    Ev (fun k => Aai.f k (n : Int) (g k)) ((n : Int), relL n p) := by
  -- the tests all come to their answers from one number of rounds on
  obtain ⟨K, hK⟩ : ∃ K, ∀ k, K ≤ k → ∀ i j, i < n → j < n → g k (i : Int) (j : Int) = some (p i j) := by
    have one : ∀ m, ∃ K, ∀ k, K ≤ k → ∀ i j, i < n → j < n → i * n + j < m → g k (i : Int) (j : Int) = some (p i j) := by
      intro m
      induction m with
      | zero => exact ⟨0, fun k _ i j _ _ h => absurd h (Nat.not_lt_zero _)⟩
      | succ m ih =>
        obtain ⟨K, hK⟩ := ih
        by_cases hx : ∃ i j, i < n ∧ j < n ∧ i * n + j = m
        · obtain ⟨i, j, hi, hj, hm⟩ := hx
          obtain ⟨K', hK'⟩ := hg i j hi hj
          refine ⟨max K K', fun k hk i' j' hi' hj' h => ?_⟩
          by_cases he : i' * n + j' = m
          · have e1 : i' = i := by
              have a1 : (i' * n + j') / n = i' := by rw [Nat.mul_comm, Nat.mul_add_div (by omega), Nat.div_eq_of_lt hj', Nat.add_zero]
              have a2 : (i * n + j) / n = i := by rw [Nat.mul_comm, Nat.mul_add_div (by omega), Nat.div_eq_of_lt hj, Nat.add_zero]
              rw [← a1, ← a2, he, hm]
            subst e1
            have e2 : j' = j := by omega
            subst e2
            exact hK' k (by omega)
          · exact hK k (by omega) i' j' hi' hj' (by omega)
        · exact ⟨K, fun k hk i j hi hj h => hK k hk i j hi hj (by
            rcases Nat.lt_or_ge (i * n + j) m with h1 | h1
            · exact h1
            · exact absurd ⟨i, j, hi, hj, by omega⟩ hx)⟩
    obtain ⟨K, h⟩ := one (n * n + n)
    refine ⟨K, fun k hk i j hi hj => h k hk i j hi hj ?_⟩
    have : i * n ≤ n * n := Nat.mul_le_mul_right n (by omega)
    omega
  -- with the tests as' at one number
  have main : ∀ is : Int → Int → Option Bool, (∀ i j, i < n → j < n → is (i : Int) (j : Int) = some (p i j)) → Ev (fun k => Aai.f k (n : Int) is) ((n : Int), relL n p) := by
    intro is his
    unfold Aai.f
    simp only [if_pos (show (0 : Int) ≤ (n : Int) by omega), Int.toNat_natCast, if_pos (show n ≤ 35184372088832 by omega)]
    rw [← part_zero n p]
    refine Ev.up (fun i k => Aai.l0 is k (n : Int) (n : Int) (i : Int) (n : Int) (part n p i 0)) n ?_ ?_
    · intro i hi h
      refine Ev.step (fun _ => rfl) ?_
      simp only [Aai.l0, if_pos (show (i : Int) < (n : Int) by omega)]
      refine Ev.up (fun j k => Aai.l1 is k (n : Int) (i : Int) (n : Int) (i : Int) (n : Int) (j : Int) (n : Int) (part n p i j)) n ?_ ?_
      · intro j hj h
        refine Ev.step (fun _ => rfl) ?_
        simp only [Aai.l1, if_pos (show (j : Int) < (n : Int) by omega), his i j hi hj, Option.bind_some, next64 j n hj (by omega)]
        cases hp : p i j with
        | false =>
          simp only [Bool.false_eq_true, if_false]
          rw [part_no n p i j hi hp]
          exact h
        | true =>
          have hs : setOf j (p i) < 9223372036854775808 := setOf_62 _ _ (by omega)
          have h2 : (2 : Nat) ^ j < 9223372036854775808 := Nat.lt_of_le_of_lt (Nat.pow_le_pow_right (by decide) (by omega : j ≤ 62)) (by decide)
          have e1 : rd (part n p i j) (i : Int) = ((setOf j (p i) : Nat) : Int) := by
            rw [rd_nat, part_getD n p i j i hi, if_neg (Nat.lt_irrefl _), if_pos rfl]
          simp only [if_true, if_pos (show (0 : Int) ≤ (i : Int) by omega), part_length, if_pos (show (i : Int) < (n : Int) by omega), if_pos (show (0 : Int) ≤ (j : Int) by omega), e1, shl1 j (by omega), or_i64 _ _ hs h2, Int.toNat_natCast]
          rw [part_yes n p i j hi hp]
          exact h
      · refine Ev.step (fun _ => rfl) ?_
        simp only [Aai.l1, if_neg (show ¬ (n : Int) < (n : Int) by omega), next64 i n hi (by omega)]
        rw [part_next]
        exact h
    · refine Ev.step (fun _ => rfl) ?_
      simp only [Aai.l0, if_neg (show ¬ (n : Int) < (n : Int) by omega)]
      rw [part_all]
      exact Ev.now _
  -- the least test that answers so
  have h0 := main (fun x y => if 0 ≤ x ∧ x < n ∧ 0 ≤ y ∧ y < n then some (p x.toNat y.toNat) else none) (fun i j hi hj => by
    show (if _ then _ else _) = _
    rw [if_pos ⟨by omega, by omega, by omega, by omega⟩, Int.toNat_natCast, Int.toNat_natCast])
  obtain ⟨K', hK'⟩ := h0
  refine ⟨max K K' + 1, fun k hk => ?_⟩
  obtain ⟨d, rfl⟩ : ∃ d, k = d + 1 := ⟨k - 1, by omega⟩
  refine Aai.mono2 (is := fun x y => if 0 ≤ x ∧ x < n ∧ 0 ≤ y ∧ y < n then some (p x.toNat y.toNat) else none) (is' := g (d + 1)) (fun x y r hr => ?_) (n : Int) d _ (hK' d (by omega))
  by_cases hxy : 0 ≤ x ∧ x < n ∧ 0 ≤ y ∧ y < n
  · rw [if_pos hxy] at hr
    obtain ⟨i, rfl⟩ := Int.eq_ofNat_of_zero_le hxy.1
    obtain ⟨j, rfl⟩ := Int.eq_ofNat_of_zero_le hxy.2.2.1
    rw [Int.toNat_natCast, Int.toNat_natCast] at hr
    rw [hK (d + 1) (by omega) i j (by omega) (by omega)]
    exact hr
  · rw [if_neg hxy] at hr
    cases hr
end Go.Proofs.YtimjblnglhmakaaDoor.M
namespace Go.Proofs.YtimjblnglhmakaaDoor.M
open Go.RowKit Go.Proofs.YtimjblnglhmakaaDoorW.PrintMore Go.Proofs.YtimjblnglhmakaaDoorW.PrintLast Go.Proofs.YtimjblnglhmakaaDoorW.PrintWords Go.Proofs.YtimjblnglhmakaaDoor.P
def Tot {α : Type} (g : Nat → Option α) (Q : α → Prop) : Prop := ∃ r, Ev g r ∧ Q r
section
variable {α β : Type} {Q : α → Prop} {R : β → Prop}
theorem Tot.now {r : α} (h : Q r) : Tot (fun _ => some r) Q := ⟨r, Ev.now r, h⟩
theorem Tot.step {g f : Nat → Option α} (h : ∀ k, g (k + 1) = f k) (k : Tot f Q) : Tot g Q := by obtain ⟨r, k, hq⟩ := k; exact ⟨r, Ev.step h k, hq⟩
theorem Tot.bind {g : Nat → Option α} {f : Nat → α → Option β} (h : Tot g Q) (k : ∀ a, Q a → Tot (fun n => f n a) R) : Tot (fun n => (g n).bind (f n)) R := by
  obtain ⟨a, h, hq⟩ := h
  obtain ⟨r, k, hr⟩ := k a hq
  exact ⟨r, Ev.bind h k, hr⟩
theorem Tot.ebind {g : Nat → Option α} {f : Nat → α → Option β} {a : α} (h : Ev g a) (k : Tot (fun n => f n a) R) : Tot (fun n => (g n).bind (f n)) R := by
  obtain ⟨r, k, hr⟩ := k
  exact ⟨r, Ev.bind h k, hr⟩
theorem Tot.obind {x : Option α} {f : Nat → α → Option β} (h : ∃ r, x = some r ∧ Q r) (k : ∀ a, Q a → Tot (fun n => f n a) R) : Tot (fun n => x.bind (f n)) R := by
  obtain ⟨a, rfl, hq⟩ := h
  exact k a hq
theorem Tot.ite {c : Prop} [Decidable c] {f g : Nat → Option α} (h1 : c → Tot f Q) (h2 : ¬ c → Tot g Q) : Tot (fun k => if c then f k else g k) Q := by
  by_cases h : c
  · simp only [if_pos h]; exact h1 h
  · simp only [if_neg h]; exact h2 h
theorem Tot.up {S : Type} (G : Nat → S → Nat → Option α) (n : Nat) (Inv : Nat → S → Prop)
    (step : ∀ i s, i < n → Inv i s → (∀ s', Inv (i + 1) s' → Tot (G (i + 1) s') Q) → Tot (G i s) Q) (stop : ∀ s, Inv n s → Tot (G n s) Q) (i : Nat) (hi : i ≤ n) (s : S) (hs : Inv i s) : Tot (G i s) Q := by
  obtain ⟨d, rfl⟩ : ∃ d, n = i + d := ⟨n - i, by omega⟩
  clear hi
  induction d generalizing i s with
  | zero => exact stop s hs
  | succ d ih =>
    refine step i s (by omega) hs fun s' h' => ?_
    exact ih (i + 1) s' h' (fun a b ha => step a b (by omega)) (by rw [show i + 1 + d = i + (d + 1) by omega]; exact stop)
end
def By (l : List Int) : Prop := ∀ x ∈ l, 0 ≤ x ∧ x ≤ 255
theorem by_wf {l : List Int} (h : ∀ x ∈ l, (Lit.int .u8 x).wf = true) : By l := by
  intro x hx
  have := h x hx
  simp [Lit.wf, IntKind.min, IntKind.max, IntKind.signed, IntKind.bits] at this
  omega
theorem By.rd {l : List Int} (h : By l) (i : Nat) : 0 ≤ rd l (i : Int) ∧ rd l (i : Int) ≤ 255 := by
  rw [rd_nat]
  by_cases hi : i < l.length
  · have := h l[i] (List.getElem_mem hi)
    simpa [hi] using this
  · simp [Nat.not_lt.1 hi]
theorem and_255 (x : Int) : 0 ≤ Go.bits .and .u64 x 255 ∧ Go.bits .and .u64 x 255 ≤ 255 := by
  have e : Go.bits .and .u64 x 255 = IntKind.u64.wrap (((BitVec.ofInt 64 x).toNat &&& 255 : Nat) : Int) := by
    show IntKind.u64.wrap ((BitVec.ofInt 64 x &&& BitVec.ofInt 64 255).toNat : Int) = _
    rw [BitVec.toNat_and]; rfl
  have h : (BitVec.ofInt 64 x).toNat &&& 255 ≤ 255 := Nat.and_le_right
  rw [e, u64_small _ (by omega)]
  omega
theorem wrap64_in (x : Int) (h0 : -9223372036854775808 ≤ x) (h1 : x ≤ 9223372036854775807) : wrap64 x = x := by unfold wrap64; omega
theorem next_ok {l : List Int} (hb : By l) (p h : Int) (hp : 0 ≤ p) (hp2 : p ≤ 1000000) : ∃ r, Abm.f l p h = some r ∧ 0 ≤ r.1 ∧ r.1 ≤ 255 ∧ r.2.1 = p + 1 := by
  unfold Abm.f
  obtain ⟨i, rfl⟩ := Int.eq_ofNat_of_zero_le hp
  have h1 := hb.rd i
  rw [wrap64_in ((i : Int) + 1) (by omega) (by omega)]
  have ha := fun x => and_255 x
  by_cases h0 : (i : Int) < (l.length : Int)
  · rw [if_pos h0, if_pos hp, if_pos (show (i : Int) + 1 ≤ (l.length : Int) by omega)]
    exact ⟨_, rfl, by rw [wrap64_in _ (by omega) (by omega)]; omega, by rw [wrap64_in _ (by omega) (by omega)]; omega, rfl⟩
  · rw [if_neg h0, if_neg (show ¬ (i : Int) + 1 ≤ (l.length : Int) by omega)]
    refine ⟨_, rfl, ?_, ?_, rfl⟩
    · have := ha ((IntKind.u64.wrap (IntKind.u64.wrap (IntKind.u64.wrap (h * 6364136223846793005)) + 1442695040888963407)) / 1099511627776)
      rw [wrap64_in _ (by omega) (by omega)]; exact this.1
    · have := ha ((IntKind.u64.wrap (IntKind.u64.wrap (IntKind.u64.wrap (h * 6364136223846793005)) + 1442695040888963407)) / 1099511627776)
      rw [wrap64_in _ (by omega) (by omega)]; exact this.2
theorem pick_ok {l : List Int} (hb : By l) (p h a : Int) (hp : 0 ≤ p) (hp2 : p ≤ 999990) : ∃ r, Aah.f l p h a = some r ∧ 0 ≤ r.1 ∧ (r.1 = 0 ∨ r.1 < a) ∧ p ≤ r.2.1 ∧ r.2.1 ≤ p + 2 := by
  unfold Aah.f
  by_cases h1 : a ≤ 1
  · rw [if_pos h1]; exact ⟨_, rfl, by simp, by simp, by simp, by simp; omega⟩
  · rw [if_neg h1]
    obtain ⟨⟨v, p1, h'⟩, e, a1, a2, a3⟩ := next_ok hb p h hp (by omega)
    simp only at a1 a2 a3
    subst a3
    rw [e, Option.bind_some]
    by_cases h2 : a > 200
    · rw [if_pos h2]
      obtain ⟨⟨v2, p2, h''⟩, e2, b1, b2, b3⟩ := next_ok hb (p + 1) h' (by omega) (by omega)
      simp only at b1 b2 b3
      subst b3
      rw [e2, Option.bind_some, if_neg (by omega)]
      refine ⟨_, rfl, ?_, ?_, by simp; omega, by simp; omega⟩
      all_goals
        simp only
        rw [wrap64_in (v * 256) (by omega) (by omega), wrap64_in (v * 256 + v2) (by omega) (by omega), Int.tmod_eq_emod_of_nonneg (by omega)]
      · exact Int.emod_nonneg _ (by omega)
      · exact .inr (Int.emod_lt_of_pos _ (by omega))
    · rw [if_neg h2, if_neg (by omega)]
      refine ⟨_, rfl, ?_, ?_, by simp only; omega, by simp only; omega⟩
      all_goals
        simp only
        rw [Int.tmod_eq_emod_of_nonneg (by omega)]
      · exact Int.emod_nonneg _ (by omega)
      · exact .inr (Int.emod_lt_of_pos _ (by omega))
theorem one_ok {l : List Int} (hb : By l) (p h a : Int) (hp : 0 ≤ p) (hp2 : p ≤ 999990) : ∃ r, Aa7.f l p h a = some r ∧ p ≤ r.2.1 ∧ r.2.1 ≤ p + 2 := by
  obtain ⟨r, e, h1⟩ := pick_ok hb p h a hp hp2
  unfold Aa7.f
  rw [e]
  exact ⟨_, rfl, h1.2.2.1, h1.2.2.2⟩
theorem among_ok {l : List Int} (hb : By l) (p h : Int) (z : List Int) (hz : z ≠ []) (hp : 0 ≤ p) (hp2 : p ≤ 999990) : ∃ r, Aaw.f l p h z = some r ∧ r.1 ∈ z ∧ p ≤ r.2.1 ∧ r.2.1 ≤ p + 2 := by
  obtain ⟨r, e, h1, h2, h3⟩ := pick_ok hb p h (z.length : Int) hp hp2
  have hz' := List.length_pos_iff.2 hz
  unfold Aaw.f
  rw [e, Option.bind_some, if_pos h1, if_pos (by omega)]
  refine ⟨_, rfl, ?_, h3⟩
  obtain ⟨i, hi⟩ := Int.eq_ofNat_of_zero_le h1
  simp only [hi]
  rw [rd_get z i (by omega)]
  exact List.getElem_mem _
theorem orHas_ok (s j : Int) (hj : 0 ≤ j) : ∃ r, Aas.f s j = some r ∧ True := by unfold Aas.f; rw [if_pos hj]; exact ⟨_, rfl, trivial⟩
theorem l1Own_eq (l : List Int) (h : l.length < 17592186044416) : Ab6.f l = some l := by
  unfold Ab6.f
  simp [h]
theorem close_tot (n : Int) (l : List Int) (hl : l.length ≤ 140737488355328) : Tot (fun k => Aaf.f k n l) (fun r => 0 ≤ r.1 ∧ (r.1 = 0 ∨ r.1 = n) ∧ r.1 ≤ 10 ∧ (r.2.1.length : Int) = r.1 ∧ r.2.2 = isRel n l) := by
  unfold Aaf.f
  refine Tot.ebind (orRelation_ev n l hl) ?_
  cases hr : isRel n l with
  | false => simp only [Bool.false_eq_true, if_false]; exact Tot.now (by simp)
  | true =>
    obtain ⟨m, rfl, h⟩ := isRel_iff.1 hr
    have hlen := h.len
    have h10 := h.le
    simp only [if_true, l1Own_eq l (by omega), Option.bind_some, hlen]
    refine Tot.up (fun i s k => Aaf.l0 k (m : Int) (i : Int) (m : Int) s) m (fun _ s => s.length = m) ?_ ?_ 0 (Nat.zero_le _) l hlen
    · intro i s hi hs next
      refine Tot.step (fun _ => rfl) ?_
      simp only [Aaf.l0, if_pos (show (i : Int) < (m : Int) by omega), hs]
      refine Tot.up (fun j s k => Aaf.l1 k (i : Int) (m : Int) (i : Int) (m : Int) (j : Int) (m : Int) s) m (fun _ s => s.length = m) ?_ ?_ 0 (Nat.zero_le _) s hs
      · intro j s hj hs next
        refine Tot.step (fun _ => rfl) ?_
        simp only [Aaf.l1, hs, if_pos (show (j : Int) < (m : Int) by omega), if_pos (show (i : Int) < (m : Int) by omega), if_pos (show (0 : Int) ≤ (i : Int) by omega), if_pos (show (0 : Int) ≤ (j : Int) by omega), next64 j m hj (by omega)]
        refine Tot.obind (orHas_ok _ _ (by omega)) fun b _ => ?_
        refine Tot.ite (fun _ => ?_) (fun _ => ?_)
        · exact next _ (by simpa using hs)
        · exact next _ hs
      · intro s hs
        refine Tot.step (fun _ => rfl) ?_
        simp only [Aaf.l1, if_neg (show ¬ (m : Int) < (m : Int) by omega), next64 i m hi (by omega)]
        exact next _ hs
    · intro s hs
      refine Tot.step (fun _ => rfl) ?_
      simp only [Aaf.l0, if_neg (show ¬ (m : Int) < (m : Int) by omega)]
      exact Tot.now (by simp [hs]; omega)
theorem order_tot {l : List Int} (hb : By l) (p h a : Int) (hp : 0 ≤ p) (hp2 : p ≤ 999000) (ha0 : 0 ≤ a) (ha : a ≤ 10) :
    Tot (fun k => Aac.f k l p h a) (fun r => 0 ≤ r.1 ∧ r.1 ≤ a ∧ (r.2.1.length : Int) = r.1 ∧ p ≤ r.2.2.1 ∧ r.2.2.1 ≤ p + 400) := by
  unfold Aac.f
  rw [wrap64_in (a + 1) (by omega) (by omega)]
  refine Tot.obind (pick_ok hb p h (a + 1) hp (by omega)) ?_
  rintro ⟨n, p1, h1⟩ ⟨n0, n1, n2, n3⟩
  simp only at n0 n1 n2 n3
  simp only [if_pos n0]
  obtain ⟨m, rfl⟩ := Int.eq_ofNat_of_zero_le n0
  have hm : m ≤ 10 := by omega
  rw [Int.toNat_natCast]
  simp only [if_pos (show m ≤ 35184372088832 by omega)]
  refine Tot.obind (pick_ok hb p1 h1 3 (by omega) (by omega)) ?_
  rintro ⟨kd, p2, h2⟩ ⟨k0, k1, k2, k3⟩
  simp only at k0 k1 k2 k3
  refine Tot.up (fun i (s : List Int × List Int × Int × Int) k => Aac.l0 k (m : Int) kd s.1 s.2.1 (i : Int) l s.2.2.1 s.2.2.2 (m : Int) (List.replicate m 0)) m
    (fun i s => s.1.length = i ∧ s.2.1.length = i ∧ p ≤ s.2.2.1 ∧ s.2.2.1 ≤ p + 4 + 4 * (i : Int)) ?_ ?_ 0 (Nat.zero_le _) ([], [], p2, h2) ⟨rfl, rfl, by simp only; omega, by simp only; omega⟩
  · rintro i ⟨x8, x9, p3, h3⟩ hi ⟨s1, s2, s3, s4⟩ next
    simp only at s1 s2 s3 s4
    refine Tot.step (fun _ => rfl) ?_
    simp only [Aac.l0, if_pos (show (i : Int) < (m : Int) by omega), s1, s2, if_pos (show i < 17592186044416 by omega), next64 i m hi (by omega)]
    refine Tot.obind (pick_ok hb p3 h3 8 (by omega) (by omega)) ?_
    rintro ⟨v, p4, h4⟩ ⟨v0, v1, v2, v3⟩
    simp only at v0 v1 v2 v3
    simp only [Option.bind_some]
    refine Tot.ite (fun _ => ?_) (fun _ => ?_)
    · refine Tot.obind (pick_ok hb p4 h4 4 (by omega) (by omega)) ?_
      rintro ⟨v', p5, h5⟩ ⟨u0, u1, u2, u3⟩
      simp only at u0 u1 u2 u3
      exact next (_, _, _, _) ⟨by simp [s1], by simp [s2], by simp only; omega, by simp only; omega⟩
    · exact next (_, _, _, _) ⟨by simp [s1], by simp [s2], by simp only; omega, by simp only; omega⟩
  · rintro ⟨x8, x9, p3, h3⟩ ⟨s1, s2, s3, s4⟩
    simp only at s1 s2 s3 s4
    refine Tot.step (fun _ => rfl) ?_
    simp only [Aac.l0, if_neg (show ¬ (m : Int) < (m : Int) by omega)]
    refine Tot.up (fun i (s : Int × Int × List Int) k => Aac.l1 k (m : Int) kd x8 x9 (i : Int) l s.1 s.2.1 (m : Int) s.2.2) m
      (fun i s => p ≤ s.1 ∧ s.1 ≤ p + 44 + 22 * (i : Int) ∧ s.2.2.length = m) ?_ ?_ 0 (Nat.zero_le _) (p3, h3, List.replicate m 0) ⟨by simp only; omega, by simp only; omega, by simp⟩
    · rintro i ⟨p4, h4, z⟩ hi ⟨t1, t2, t3⟩ next
      simp only at t1 t2 t3
      refine Tot.step (fun _ => rfl) ?_
      simp only [Aac.l1, if_pos (show (i : Int) < (m : Int) by omega)]
      refine Tot.up (fun j (s : Int × Int × List Int) k => Aac.l2 k (m : Int) kd x8 x9 (i : Int) (j : Int) l s.1 s.2.1 (m : Int) s.2.2) m
        (fun j s => p ≤ s.1 ∧ s.1 ≤ p + 44 + 22 * (i : Int) + 2 * (j : Int) ∧ s.2.2.length = m) ?_ ?_ 0 (Nat.zero_le _) (p4, h4, z) ⟨by simp only; omega, by simp only; omega, t3⟩
      · rintro j ⟨p5, h5, z⟩ hj ⟨q1, q2, q3⟩ next
        simp only at q1 q2 q3
        have hone : ∀ v p' h' , p ≤ p' → p' ≤ p5 + 2 → Tot (fun k => Aac.l2 k (m : Int) kd x8 x9 (i : Int) ((j + 1 : Nat) : Int) l p' h' (m : Int) (z.set i v)) _ := fun v p' h' a1 a2 => next (p', h', z.set i v) ⟨a1, by simp only; omega, by simpa using q3⟩
        have hno : ∀ p' h' , p ≤ p' → p' ≤ p5 + 2 → Tot (fun k => Aac.l2 k (m : Int) kd x8 x9 (i : Int) ((j + 1 : Nat) : Int) l p' h' (m : Int) z) _ := fun p' h' a1 a2 => next (p', h', z) ⟨a1, by simp only; omega, q3⟩
        refine Tot.step (fun _ => rfl) ?_
        simp only [Aac.l2, if_pos (show (j : Int) < (m : Int) by omega), s1, s2, q3, if_pos (show (i : Int) < (m : Int) by omega), if_pos (show (0 : Int) ≤ (i : Int) by omega), if_pos (show (0 : Int) ≤ (j : Int) by omega), next64 j m hj (by omega), Int.toNat_natCast]
        refine Tot.ite (fun _ => ?_) (fun _ => ?_)
        · refine Tot.ite (fun _ => ?_) (fun _ => ?_)
          · exact hone _ _ _ (by omega) (by omega)
          · refine Tot.ite (fun _ => ?_) (fun _ => hno _ _ (by omega) (by omega))
            refine Tot.ite (fun _ => ?_) (fun _ => hno _ _ (by omega) (by omega))
            refine Tot.obind (one_ok hb p5 h5 3 (by omega) (by omega)) ?_
            rintro ⟨v, p6, h6⟩ ⟨u2, u3⟩
            simp only at u2 u3
            dsimp only
            exact Tot.ite (fun _ => hone _ _ _ (by omega) (by omega)) (fun _ => hno _ _ (by omega) (by omega))
        · refine Tot.ite (fun _ => ?_) (fun _ => hno _ _ (by omega) (by omega))
          refine Tot.ite (fun _ => ?_) (fun _ => hno _ _ (by omega) (by omega))
          refine Tot.obind (one_ok hb p5 h5 3 (by omega) (by omega)) ?_
          rintro ⟨v, p6, h6⟩ ⟨u2, u3⟩
          simp only at u2 u3
          dsimp only
          exact Tot.ite (fun _ => hone _ _ _ (by omega) (by omega)) (fun _ => hno _ _ (by omega) (by omega))
      · rintro ⟨p5, h5, z⟩ ⟨q1, q2, q3⟩
        simp only at q1 q2 q3
        refine Tot.step (fun _ => rfl) ?_
        simp only [Aac.l2, if_neg (show ¬ (m : Int) < (m : Int) by omega), next64 i m hi (by omega)]
        exact next (p5, h5, z) ⟨q1, by simp only; omega, q3⟩
    · rintro ⟨p4, h4, z⟩ ⟨t1, t2, t3⟩
      simp only at t1 t2 t3
      refine Tot.step (fun _ => rfl) ?_
      simp only [Aac.l1, if_neg (show ¬ (m : Int) < (m : Int) by omega)]
      refine Tot.ite (fun _ => Tot.now ⟨by simp only; omega, by simp only; omega, by simp only; omega, by simp only; omega, by simp only; omega⟩) (fun _ => ?_)
      refine Tot.bind (close_tot (m : Int) z (by omega)) ?_
      rintro ⟨a1, a2, a3⟩ ⟨c1, c2, c3, c4⟩
      exact Tot.now ⟨by simp only; omega, by simp only at c2 ⊢; omega, by simp only at c4 ⊢; omega, by simp only; omega, by simp only; omega⟩
theorem relation_tot {l : List Int} (hb : By l) (p h a : Int) (hp : 0 ≤ p) (hp2 : p ≤ 999000) (ha0 : 0 ≤ a) (ha : a ≤ 10) :
    Tot (fun k => Aal.f k l p h a) (fun r => 0 ≤ r.1 ∧ r.1 ≤ a ∧ (r.2.1.length : Int) = r.1 ∧ p ≤ r.2.2.1 ∧ r.2.2.1 ≤ p + 400) := by
  unfold Aal.f
  rw [wrap64_in (a + 1) (by omega) (by omega)]
  refine Tot.obind (pick_ok hb p h (a + 1) hp (by omega)) ?_
  rintro ⟨n, p1, h1⟩ ⟨n0, n1, n2, n3⟩
  simp only at n0 n1 n2 n3
  obtain ⟨m, rfl⟩ := Int.eq_ofNat_of_zero_le n0
  have hm : m ≤ 10 := by omega
  refine Tot.up (fun i (s : Int × Int × List Int) k => Aal.l0 k l s.1 s.2.1 (m : Int) s.2.2) m
    (fun i s => p ≤ s.1 ∧ s.1 ≤ p + 2 + 20 * (i : Int) ∧ s.2.2.length = i) ?_ ?_ 0 (Nat.zero_le _) (p1, h1, []) ⟨by simp only; omega, by simp only; omega, rfl⟩
  · rintro i ⟨p2, h2, z⟩ hi ⟨s1, s2, s3⟩ next
    simp only at s1 s2 s3
    refine Tot.step (fun _ => rfl) ?_
    simp only [Aal.l0, s3, if_pos (show (i : Int) < (m : Int) by omega)]
    refine Tot.up (fun j (s : Int × Int × Int) k => Aal.l1 k s.1 (j : Int) l s.2.1 s.2.2 (m : Int) z) m
      (fun j s => p ≤ s.2.1 ∧ s.2.1 ≤ p + 2 + 20 * (i : Int) + 2 * (j : Int)) ?_ ?_ 0 (Nat.zero_le _) (0, p2, h2) ⟨by simp only; omega, by simp only; omega⟩
    · rintro j ⟨x, p3, h3⟩ hj ⟨q1, q2⟩ next
      simp only at q1 q2
      refine Tot.step (fun _ => rfl) ?_
      simp only [Aal.l1, if_pos (show (j : Int) < (m : Int) by omega), if_pos (show (0 : Int) ≤ (j : Int) by omega), next64 j m hj (by omega)]
      refine Tot.obind (one_ok hb p3 h3 4 (by omega) (by omega)) ?_
      rintro ⟨v, p6, h6⟩ ⟨u2, u3⟩
      simp only at u2 u3
      dsimp only
      exact Tot.ite (fun _ => next (_, p6, h6) ⟨by simp only; omega, by simp only; omega⟩) (fun _ => next (_, p6, h6) ⟨by simp only; omega, by simp only; omega⟩)
    · rintro ⟨x, p3, h3⟩ ⟨q1, q2⟩
      simp only at q1 q2
      refine Tot.step (fun _ => rfl) ?_
      simp only [Aal.l1, if_neg (show ¬ (m : Int) < (m : Int) by omega), s3, if_pos (show i < 17592186044416 by omega)]
      exact next (p3, h3, z ++ [x]) ⟨q1, by simp only; omega, by simp [s3]⟩
  · rintro ⟨p2, h2, z⟩ ⟨s1, s2, s3⟩
    simp only at s1 s2 s3
    refine Tot.step (fun _ => rfl) ?_
    simp only [Aal.l0, s3, if_neg (show ¬ (m : Int) < (m : Int) by omega)]
    exact Tot.now ⟨by simp only; omega, by simp only; omega, by simp only; omega, by simp only; omega, by simp only; omega⟩
theorem anyOrder_tot {l : List Int} (hb : By l) (p h a : Int) (hp : 0 ≤ p) (hp2 : p ≤ 998000) (ha0 : 0 ≤ a) (ha : a ≤ 10) :
    Tot (fun k => Aa5.f k l p h a) (fun r => r.2.1.length ≤ 10 ∧ p ≤ r.2.2.1 ∧ r.2.2.1 ≤ p + 900) := by
  unfold Aa5.f
  refine Tot.bind (order_tot hb p h a hp (by omega) ha0 ha) ?_
  rintro ⟨n, z, p1, h1⟩ ⟨n0, n1, n2, n3, n4⟩
  simp only at n0 n1 n2 n3 n4
  refine Tot.obind (pick_ok hb p1 h1 14 (by omega) (by omega)) ?_
  rintro ⟨c, p2, h2⟩ ⟨k0, k1, k2, k3⟩
  simp only at k0 k1 k2 k3
  simp only []
  refine Tot.ite (fun _ => ?_) (fun _ => Tot.ite (fun _ => ?_) (fun _ => Tot.ite (fun _ => ?_) (fun _ => Tot.ite (fun _ => ?_) (fun _ => ?_))))
  · refine Tot.bind (relation_tot hb p2 h2 a (by omega) (by omega) ha0 ha) ?_
    rintro ⟨n', z', p', h'⟩ ⟨m0, m1, m2, m3, m4⟩
    simp only at m0 m1 m2 m3 m4
    exact Tot.now ⟨by simp only; omega, by simp only; omega, by simp only; omega⟩
  · refine Tot.obind (among_ok hb p2 h2 _ (by simp) (by omega) (by omega)) ?_
    rintro ⟨v, p', h'⟩ ⟨_, m3, m4⟩
    simp only at m3 m4
    exact Tot.now ⟨by simp only; omega, by simp only; omega, by simp only; omega⟩
  · refine Tot.ite (fun hz => ?_) (fun _ => Tot.now ⟨by simp only; omega, by simp only; omega, by simp only; omega⟩)
    refine Tot.obind (pick_ok hb p2 h2 _ (by omega) (by omega)) ?_
    rintro ⟨v, p', h'⟩ ⟨v0, v1, m3, m4⟩
    simp only at v0 v1 m3 m4
    simp only [if_pos n0]
    refine Tot.obind (among_ok hb p' h' _ (by simp) (by omega) (by omega)) ?_
    rintro ⟨v', p'', h''⟩ ⟨_, m5, m6⟩
    simp only at m5 m6
    simp only [if_pos v0]
    rw [if_pos (show v < (z.length : Int) by omega)]
    exact Tot.now ⟨by simp only [List.length_set]; omega, by simp only; omega, by simp only; omega⟩
  · refine Tot.bind (order_tot hb p2 h2 10 (by omega) (by omega) (by omega) (by omega)) ?_
    rintro ⟨n', z', p', h'⟩ ⟨m0, m1, m2, m3, m4⟩
    simp only at m0 m1 m2 m3 m4
    exact Tot.now ⟨by simp only; omega, by simp only; omega, by simp only; omega⟩
  · exact Tot.now ⟨by simp only; omega, by simp only; omega, by simp only; omega⟩
end Go.Proofs.YtimjblnglhmakaaDoor.M
namespace Go.Proofs.YtimjblnglhmakaaDoor.P
open Go.RowKit Go.Proofs.YtimjblnglhmakaaDoorW.PrintWords Go.Proofs.YtimjblnglhmakaaDoorW.PrintLast Go.Proofs.YtimjblnglhmakaaDoorW.PrintMore
open Bool renaming true → T, false → F
open List renaming setIfInBounds_toArray → L_, set_cons_zero → M_, set_cons_succ → N_, map_toArray → P_, map_cons → Q_, map_nil → R_, length_drop → S_, length_take → U_
open Aside0 renaming mk → A_
attribute [local go_sem] max2_int min2_int max_two min_two max_three min_three max_four min_four
set_option linter.unusedVariables false
set_option linter.unusedSimpArgs false
attribute [local go_sem] fldOrder_0 fldOrder_1
end Go.Proofs.YtimjblnglhmakaaDoor.P
namespace Go.Proofs.YtimjblnglhmakaaDoor.P
open Go.RowKit Go.Proofs.YtimjblnglhmakaaDoorW.PrintWords Go.Proofs.YtimjblnglhmakaaDoorW.PrintLast Go.Proofs.YtimjblnglhmakaaDoorW.PrintMore
open Bool renaming true → T, false → F
open List renaming setIfInBounds_toArray → L_, set_cons_zero → M_, set_cons_succ → N_, map_toArray → P_, map_cons → Q_, map_nil → R_, length_drop → S_, length_take → U_
open Aside0 renaming mk → A_
attribute [local go_sem] max2_int min2_int max_two min_two max_three min_three max_four min_four
set_option linter.unusedVariables false
set_option linter.unusedSimpArgs false
attribute [local go_sem] fldOrder_0 fldOrder_1
end Go.Proofs.YtimjblnglhmakaaDoor.P
namespace Go.Proofs.YtimjblnglhmakaaDoor.M
open Go.RowKit Go.Proofs.YtimjblnglhmakaaDoorW.PrintMore Go.Proofs.YtimjblnglhmakaaDoorW.PrintLast Go.Proofs.YtimjblnglhmakaaDoorW.PrintWords Go.Proofs.YtimjblnglhmakaaDoor.P
def mir (n : Nat) (l : List Int) : List Int := relL n fun i j => B l j i
theorem mir_rel {n : Nat} {l : List Int} (h : Rel n l) : Rel n (mir n l) := relL_rel n h.le _
theorem mir_B {n : Nat} {l : List Int} (h : Rel n l) (i j : Nat) : B (mir n l) i j = B l j i := by
  unfold mir
  rw [relL_B]
  cases hb : B l j i with
  | false => simp
  | true => simp [h.B_lt hb, h.B_lt' hb]
theorem mirror_ev {n : Nat} {l : List Int} (h : Rel n l) : Ev (fun k => Abi.f k (n : Int) l) ((n : Int), mir n l) := by
  have hn := h.le
  unfold Abi.f
  refine Ev.bind (relation_ev n (by omega) (fun _ x y => Abr.f x y (n : Int) l) (fun i j => B l j i) ?_) (Ev.now _)
  intro i j hi hj
  refine Ev.const ?_
  unfold Abr.f
  rw [better_eq h n j i hj (by omega)]
  rfl
theorem orBelow_ev {n : Nat} {l : List Int} (h : Rel n l) (z : Int) (i : Nat) (hi : i ≤ 62) : Ev (fun k => Aa0.f k z l (i : Int)) ((setOf n fun j => B l j i : Nat) : Int) := by
  have hlen := h.len
  have hn := h.le
  unfold Aa0.f
  rw [hlen]
  refine Ev.up (fun j k => Aa0.l0 k (i : Int) ((setOf j fun j => B l j i : Nat) : Int) l (n : Int) (j : Int)) n ?_ ?_
  · intro j hj next
    refine Ev.step (fun _ => rfl) ?_
    rw [setOf_bit_or] at next
    simp only [Aa0.l0, if_pos (show (j : Int) < (n : Int) by omega), if_pos (show (0 : Int) ≤ (j : Int) by omega), hlen, h.rd, orHas_eq _ i (by omega), Option.bind_some, next64 j n hj (by omega)]
    rw [show (row l j).testBit i = B l j i from rfl]
    cases hb : B l j i with
    | false =>
      rw [hb] at next
      simpa using next
    | true =>
      rw [hb] at next
      have h2 : (2 : Nat) ^ j < 9223372036854775808 := Nat.lt_of_le_of_lt (Nat.pow_le_pow_right (by decide) (by omega : j ≤ 62)) (by decide)
      simp only [if_true]
      rw [shl1 j (by omega), or_i64 (setOf j fun j => B l j i) (2 ^ j) (setOf_62 _ _ (by omega)) h2]
      simpa using next
  · refine Ev.step (fun _ => rfl) ?_
    simp only [Aa0.l0, if_neg (show ¬ (n : Int) < (n : Int) by omega)]
    exact Ev.now _
def indif (n : Nat) (l : List Int) (i : Nat) : Nat := setOf n fun j => !B l i j && (!B l j i && decide (j ≠ i))
theorem all_eq (n : Nat) (l : List Int) (hn : n ≤ 10) : Ab9.f (n : Int) l = some ((2 ^ n - 1 : Nat) : Int) := by
  unfold Ab9.f
  rw [if_pos (by omega), pow_of n (by omega) (by omega), Int.toNat_natCast]
  have := Nat.two_pow_pos n
  congr 1
  omega
theorem indifs_ev {n : Nat} {l : List Int} (h : Rel n l) : Ev (fun k => Aag.f k (n : Int) l) ((List.range n).map fun i => ((indif n l i : Nat) : Int)) := by
  have hlen := h.len
  have hn := h.le
  have hm := mir_rel h
  unfold Aag.f
  refine Ev.bind (mirror_ev h) ?_
  refine Ev.up (fun i k => Aag.l0 k ((List.range i).map fun i => ((indif n l i : Nat) : Int)) (n : Int) (i : Int) (n : Int) l (n : Int) (mir n l)) n ?_ ?_
  · intro i hi next
    refine Ev.step (fun _ => rfl) ?_
    have hp : (2 : Nat) ^ n - 1 < 9223372036854775808 := by
      have : (2 : Nat) ^ n ≤ 2 ^ 10 := Nat.pow_le_pow_right (by decide) hn
      omega
    have h2 : (2 : Nat) ^ i < 9223372036854775808 := Nat.lt_of_le_of_lt (Nat.pow_le_pow_right (by decide) (by omega : i ≤ 62)) (by decide)
    have le1 : ∀ a b, diff a b ≤ a := fun a b => Nat.and_le_left
    have e : diff (diff (diff (2 ^ n - 1) (row l i)) (row (mir n l) i)) (2 ^ i) = indif n l i := by
      apply Nat.eq_of_testBit_eq
      intro j
      unfold indif
      rw [testBit_setOf, testBit_diff, testBit_diff, testBit_diff, Nat.testBit_two_pow_sub_one, Nat.testBit_two_pow, show (row l i).testBit j = B l i j from rfl, show (row (mir n l) i).testBit j = B (mir n l) i j from rfl, mir_B h, Bool.and_assoc, Bool.and_assoc]
      by_cases hj : i = j
      · simp [hj]
      · simp [hj, Ne.symm hj]
    have g1 := le1 (2 ^ n - 1) (row l i)
    have g2 := le1 (diff (2 ^ n - 1) (row l i)) (row (mir n l) i)
    simp only [Aag.l0, if_pos (show (i : Int) < (n : Int) by omega), all_eq n l hn, Option.bind_some, if_pos (show (0 : Int) ≤ (i : Int) by omega), hlen, hm.len, List.length_map, List.length_range, if_pos (show i < 17592186044416 by omega), h.rd, hm.rd, shl1 i (by omega), andNot_i64 _ _ hp (h.row_62 i), andNot_i64 _ _ (show diff (2 ^ n - 1) (row l i) < 9223372036854775808 by omega) (hm.row_62 i),
      andNot_i64 _ _ (show diff (diff (2 ^ n - 1) (row l i)) (row (mir n l) i) < 9223372036854775808 by omega) h2, e, next64 i n hi (by omega)]
    simpa [List.range_succ] using next
  · refine Ev.step (fun _ => rfl) ?_
    simp only [Aag.l0, if_neg (show ¬ (n : Int) < (n : Int) by omega)]
    exact Ev.now _
theorem has_one {n : Nat} (l : List Int) (i : Nat) (hi : i < n) (hn : n ≤ 10) : Ev (fun k => Abs.f k (n : Int) l [(i : Int)]) true := by
  unfold Abs.f
  rw [wrap64_in _ (by omega) (by omega)]
  refine Ev.bind (Ev.to (allWithin_ev _ _ _ (by simp)) ?_) (Ev.now _)
  simp only [allIn, decide_eq_true_iff]
  intro x hx
  simp at hx
  omega
theorem rel_is {n : Nat} {l : List Int} (h : Rel n l) : isRel n l = true := isRel_iff.2 ⟨n, rfl, h⟩
theorem IsRelation_true {n : Nat} {l : List Int} (h : Rel n l) : Ev (fun k => Abg.f k (n : Int) l) true := Ev.to (IsRelation_ev n l (by have := h.len; have := h.le; omega)) (rel_is h)
theorem IndifferentTo_ev {n : Nat} {l : List Int} (h : Rel n l) (i : Nat) (hi : i < n) : Ev (fun k => Abt.f k (n : Int) l (i : Int)) (((indif n l i : Nat) : Int), true) := by
  have hn := h.le
  unfold Abt.f
  refine Ev.bind (IsRelation_true h) ?_
  simp only [if_true]
  refine Ev.bind (has_one l i hi hn) ?_
  simp only [if_true]
  refine Ev.bind (indifs_ev h) ?_
  simp only [if_pos (show (0 : Int) ≤ (i : Int) by omega), List.length_map, List.length_range, if_pos (show (i : Int) < (n : Int) by omega), rd_nat]
  exact Ev.to (Ev.now _) (by simp [hi])
theorem pIn_eq (s j : Nat) (hj : j ≤ 64) : Abp.f (s : Int) (j : Int) = some (s.testBit j) := by
  unfold Abp.f
  rw [if_pos (by omega), has_mod _ _ (by omega) hj, bit_cast]
theorem pSame_ev (l l' : List Int) (hl : l.length ≤ 140737488355328) : Ev (fun k => Abc.f k l l') (decide (l = l')) := by
  unfold Abc.f
  by_cases h : (l.length : Int) = (l'.length : Int)
  · simp only [if_pos h]
    refine Ev.to (Ev.all (fun i k => Abc.l0 k l l' (l.length : Int) (i : Int)) l.length (fun i => decide (l.getD i 0 = l'.getD i 0)) ?_ ?_ ?_) ?_
    · intro i r hi hp next
      refine Ev.step (fun _ => rfl) ?_
      simp only [Abc.l0, if_pos (show (i : Int) < (l.length : Int) by omega), if_pos (show (0 : Int) ≤ (i : Int) by omega), if_pos (show (i : Int) < (l'.length : Int) by omega), rd_nat, if_pos (of_decide_eq_true hp), next64 i l.length hi (by omega)]
      exact next
    · intro i hi hp
      refine Ev.step (fun _ => rfl) ?_
      simp only [Abc.l0, if_pos (show (i : Int) < (l.length : Int) by omega), if_pos (show (0 : Int) ≤ (i : Int) by omega), if_pos (show (i : Int) < (l'.length : Int) by omega), rd_nat, if_neg (of_decide_eq_false hp)]
      exact Ev.now _
    · refine Ev.step (fun _ => rfl) ?_
      simp only [Abc.l0, if_neg (show ¬ (l.length : Int) < (l.length : Int) by omega)]
      exact Ev.now _
    · rw [Bool.eq_iff_iff, allB_iff, decide_eq_true_iff]
      constructor
      · intro H
        exact list_ext_getD (by omega) fun i hi => of_decide_eq_true (H i hi)
      · rintro rfl i _
        simp
  · simp only [if_neg h]
    refine Ev.to (Ev.now _) ?_
    symm
    rw [decide_eq_false_iff_not]
    rintro rfl
    exact h rfl
end Go.Proofs.YtimjblnglhmakaaDoor.M
namespace Go.Proofs.YtimjblnglhmakaaDoor.M
open Go.RowKit Go.Proofs.YtimjblnglhmakaaDoorW.PrintMore Go.Proofs.YtimjblnglhmakaaDoorW.PrintLast Go.Proofs.YtimjblnglhmakaaDoorW.PrintWords Go.Proofs.YtimjblnglhmakaaDoor.P
def hit22 (l : List Int) (a b c d : Nat) : Bool := B l a b && (B l c d && (!B l c b && !B l a d))
def no22 (n : Nat) (l : List Int) : Bool := allB n fun a => allB n fun b => allB n fun c => allB n fun d => !hit22 l a b c d
theorem no22_iff {n : Nat} {l : List Int} : no22 n l = true ↔ ∀ a, a < n → ∀ b, b < n → ∀ c, c < n → ∀ d, d < n → hit22 l a b c d = false := by
  unfold no22
  simp only [allB_iff, Bool.not_eq_true']
section
variable {n : Nat} {l : List Int}
theorem semi_below (h22 : ∀ a b c d, hit22 l a b c d = false) {i j x : Nat} (h1 : B l x j = true) (h2 : B l x i = false) : ∀ k, B l k i = true → B l k j = true := by
  intro k hk
  cases hb : B l k j with
  | true => rfl
  | false =>
    have := h22 k i x j
    simp [hit22, h1, h2, hk, hb] at this
end
end Go.Proofs.YtimjblnglhmakaaDoor.M
namespace Go.Proofs.YtimjblnglhmakaaDoor.M
open Go.RowKit Go.Proofs.YtimjblnglhmakaaDoorW.PrintMore Go.Proofs.YtimjblnglhmakaaDoorW.PrintLast Go.Proofs.YtimjblnglhmakaaDoorW.PrintWords Go.Proofs.YtimjblnglhmakaaDoor.P
set_option maxRecDepth 4000
theorem twoTwo_ev {n : Nat} {l : List Int} (h : Rel n l) : EvP (fun k => Aad.f k (n : Int) l) (fun r => r = []) (∀ a, a < n → ∀ b, b < n → ∀ c, c < n → ∀ d, d < n → hit22 l a b c d = false) := by
  have hn := h.le
  unfold Aad.f
  refine EvP.iff (EvP.loop (fun a k => Aad.l0 k (n : Int) (a : Int) (n : Int) l) n (fun a => ∀ b, b < n → ∀ c, c < n → ∀ d, d < n → hit22 l a b c d = false) True ?_ ?_) (by rw [and_true])
  · intro a T ha next
    refine EvP.step (fun _ => rfl) ?_
    simp only [Aad.l0, if_pos (show (a : Int) < (n : Int) by omega)]
    refine EvP.loop (fun b k => Aad.l1 k (a : Int) (n : Int) (a : Int) (n : Int) (b : Int) (n : Int) l) n (fun b => ∀ c, c < n → ∀ d, d < n → hit22 l a b c d = false) T ?_ ?_
    · intro b T hb next
      refine EvP.step (fun _ => rfl) ?_
      simp only [Aad.l1, if_pos (show (b : Int) < (n : Int) by omega)]
      refine EvP.loop (fun c k => Aad.l2 k (a : Int) (b : Int) (n : Int) (a : Int) (n : Int) (b : Int) (n : Int) (c : Int) (n : Int) l) n (fun c => ∀ d, d < n → hit22 l a b c d = false) T ?_ ?_
      · intro c T hc next
        refine EvP.step (fun _ => rfl) ?_
        simp only [Aad.l2, if_pos (show (c : Int) < (n : Int) by omega)]
        refine EvP.loop (fun d k => Aad.l3 k (a : Int) (b : Int) (c : Int) (n : Int) (a : Int) (n : Int) (b : Int) (n : Int) (c : Int) (n : Int) (d : Int) (n : Int) l) n (fun d => hit22 l a b c d = false) T ?_ ?_
        · intro d T hd next
          refine EvP.step (fun _ => rfl) ?_
          simp only [Aad.l3, if_pos (show (d : Int) < (n : Int) by omega), better_eq h _ _ _ ha (show b ≤ 62 by omega), better_eq h _ _ _ hc (show d ≤ 62 by omega), better_eq h _ _ _ hc (show b ≤ 62 by omega), better_eq h _ _ _ ha (show d ≤ 62 by omega), Option.bind_some, next64 d n hd (by omega)]
          unfold hit22
          cases h1 : B l a b with
          | false => simp only [Bool.false_eq_true, if_false]; exact EvP.iff next (by simp)
          | true =>
            cases h2 : B l c d with
            | false => simp only [Bool.false_eq_true, if_false, if_true]; exact EvP.iff next (by simp)
            | true =>
              cases h3 : B l c b with
              | true => simp only [if_true]; exact EvP.iff next (by simp)
              | false =>
                cases h4 : B l a d with
                | true => simp only [Bool.false_eq_true, if_false, if_true]; exact EvP.iff next (by simp)
                | false => simp only [Bool.false_eq_true, if_false, if_true]; exact EvP.now (by simp)
        · refine EvP.step (fun _ => rfl) ?_
          simp only [Aad.l3, if_neg (show ¬ (n : Int) < (n : Int) by omega), next64 c n hc (by omega)]
          exact next
      · refine EvP.step (fun _ => rfl) ?_
        simp only [Aad.l2, if_neg (show ¬ (n : Int) < (n : Int) by omega), next64 b n hb (by omega)]
        exact next
    · refine EvP.step (fun _ => rfl) ?_
      simp only [Aad.l1, if_neg (show ¬ (n : Int) < (n : Int) by omega), next64 a n ha (by omega)]
      exact next
  · refine EvP.step (fun _ => rfl) ?_
    simp only [Aad.l0, if_neg (show ¬ (n : Int) < (n : Int) by omega)]
    exact EvP.now (by simp)
def isInt (n : Int) (l : List Int) : Bool := isOrd n l && no22 n.toNat l
theorem isInterval_ev (n : Int) (l : List Int) (hl : l.length ≤ 140737488355328) : Ev (fun k => Aav.f k n l) (isInt n l) := by
  unfold Aav.f isInt
  refine Ev.bind (IsOrder_ev n l hl) ?_
  cases ho : isOrd n l with
  | false => simp only [Bool.false_eq_true, if_false, Bool.false_and]; exact Ev.now _
  | true =>
    obtain ⟨n, rfl, o⟩ := isOrd_iff.1 ho
    simp only [if_true, Bool.true_and, Int.toNat_natCast]
    obtain ⟨r, hr, e⟩ := twoTwo_ev o.toRel
    refine Ev.bind hr (Ev.to (Ev.now _) ?_)
    rw [Bool.eq_iff_iff, beq_iff_eq, no22_iff]
    exact e
end Go.Proofs.YtimjblnglhmakaaDoor.M
namespace Go.Proofs.YtimjblnglhmakaaDoor.P
open Go.RowKit Go.Proofs.YtimjblnglhmakaaDoorW.PrintWords Go.Proofs.YtimjblnglhmakaaDoorW.PrintLast Go.Proofs.YtimjblnglhmakaaDoorW.PrintMore
open Bool renaming true → T, false → F
open List renaming setIfInBounds_toArray → L_, set_cons_zero → M_, set_cons_succ → N_, map_toArray → P_, map_cons → Q_, map_nil → R_, length_drop → S_, length_take → U_
open Aside0 renaming mk → A_
attribute [local go_sem] max2_int min2_int max_two min_two max_three min_three max_four min_four
set_option linter.unusedVariables false
set_option linter.unusedSimpArgs false
attribute [local go_sem] fldOrder_0 fldOrder_1
def Ace.l0 : Nat → Int → List Int → Int → Int → Option (Int)
 | 0,_,_,_,_=>none
 | k + 1,x1,x7,x8,x9=>if x9 < x8 then (if 0 ≤ x9 then (if x9 < (x7.length : Int) then (if (rd x7 x9) = x1 then (some x9) else (Ace.l0 k x1 x7 x8 (wrap64 (x9 + 1)))) else (none)) else (none)) else (some (-1))
def Ace.f (k : Nat) (l0 : List Int) (a1 : Int) : Option (Int) := Ace.l0 k a1 l0 (l0.length : Int) 0
end Go.Proofs.YtimjblnglhmakaaDoor.P
namespace Go.Proofs.YtimjblnglhmakaaDoor.M
def srt (l : List Int) : List Int := l.mergeSort fun x y => decide (x ≤ y)
theorem srt_perm (l : List Int) : (srt l).Perm l := List.mergeSort_perm _ _
theorem srt_sorted (l : List Int) : (srt l).Pairwise (· ≤ ·) := by
  have h := List.pairwise_mergeSort (le := fun (x y : Int) => decide (x ≤ y)) (by intro a b c h1 h2; simp only [decide_eq_true_iff] at *; omega) (by intro a b; simp only [Bool.or_eq_true, decide_eq_true_iff]; omega) l
  exact h.imp (fun h => of_decide_eq_true h)
def put (T : List Nat) (k i : Nat) : List Nat := T.take k ++ i :: T.drop k
def ins (x : Int) : List Int → List Int
  | [] => [x]
  | y :: l => if y < x then y :: ins x l else if y = x then y :: l else x :: y :: l
def Inc (l : List Int) : Prop := l.Pairwise (· < ·)
theorem mem_ins (x y : Int) (l : List Int) : y ∈ ins x l ↔ y = x ∨ y ∈ l := by
  induction l with
  | nil => simp [ins]
  | cons z l ih =>
    unfold ins
    split
    · rw [List.mem_cons, ih, List.mem_cons]
      constructor
      · rintro (h | h | h)
        · exact .inr (.inl h)
        · exact .inl h
        · exact .inr (.inr h)
      · rintro (h | h | h)
        · exact .inr (.inl h)
        · exact .inl h
        · exact .inr (.inr h)
    · split
      · rename_i h1 h2
        rw [List.mem_cons]
        constructor
        · exact .inr
        · rintro (h | h)
          · exact .inl (h.trans h2.symm)
          · exact h
      · rw [List.mem_cons]
theorem inc_ins (x : Int) (l : List Int) (h : Inc l) : Inc (ins x l) := by
  induction l with
  | nil => simp [ins, Inc]
  | cons z l ih =>
    have h' := List.pairwise_cons.1 h
    unfold ins
    split
    · rename_i hz
      refine List.pairwise_cons.2 ⟨fun y hy => ?_, ih h'.2⟩
      rcases (mem_ins x y l).1 hy with rfl | hy
      · exact hz
      · exact h'.1 y hy
    · split
      · exact h
      · rename_i h1 h2
        refine List.pairwise_cons.2 ⟨fun y hy => ?_, h⟩
        rcases List.mem_cons.1 hy with rfl | hy
        · omega
        · have := h'.1 y hy; omega
def dif (l : List Int) : List Int := l.foldl (fun acc x => ins x acc) []
theorem dif_foldl (l acc : List Int) (h : Inc acc) : Inc (l.foldl (fun acc x => ins x acc) acc) ∧ ∀ y, y ∈ l.foldl (fun acc x => ins x acc) acc ↔ y ∈ acc ∨ y ∈ l := by
  induction l generalizing acc with
  | nil => exact ⟨h, fun y => by simp⟩
  | cons x l ih =>
    obtain ⟨h1, h2⟩ := ih (ins x acc) (inc_ins x acc h)
    refine ⟨h1, fun y => (h2 y).trans ?_⟩
    rw [mem_ins, List.mem_cons]
    constructor
    · rintro ((h | h) | h)
      · exact .inr (.inl h)
      · exact .inl h
      · exact .inr (.inr h)
    · rintro (h | h | h)
      · exact .inl (.inr h)
      · exact .inl (.inl h)
      · exact .inr h
theorem dif_inc (l : List Int) : Inc (dif l) := (dif_foldl l [] List.Pairwise.nil).1
theorem mem_dif (l : List Int) (y : Int) : y ∈ dif l ↔ y ∈ l := by
  have := (dif_foldl l [] List.Pairwise.nil).2 y
  unfold dif
  simpa using this
theorem inc_nodup {l : List Int} (h : Inc l) : l.Nodup := h.imp (fun h => by omega)
theorem inc_ext {l l' : List Int} (h : Inc l) (h' : Inc l') (hm : ∀ y, y ∈ l ↔ y ∈ l') : l = l' :=
  List.Perm.eq_of_pairwise (fun _ _ _ _ h1 h2 => by omega) h h' ((List.perm_ext_iff_of_nodup (inc_nodup h) (inc_nodup h')).2 hm)
theorem dif_length_le (l : List Int) : (dif l).length ≤ l.length := by
  have : ∀ (l acc : List Int), (l.foldl (fun acc x => ins x acc) acc).length ≤ acc.length + l.length := by
    intro l
    induction l with
    | nil => intro acc; simp
    | cons x l ih =>
      intro acc
      have h1 := ih (ins x acc)
      have h2 : (ins x acc).length ≤ acc.length + 1 := by
        clear h1 ih
        induction acc with
        | nil => simp [ins]
        | cons y acc ih => unfold ins; split <;> (try split) <;> simp <;> omega
      simp only [List.foldl_cons, List.length_cons]
      omega
  unfold dif
  simpa using this l []
def rank (l : List Int) (x : Int) : Nat := (dif l).countP fun y => decide (y < x)
theorem inc_place {l : List Int} (h : Inc l) (k : Nat) (hk : k < l.length) : l.countP (fun y => decide (y < l[k])) = k := by
  have hp := List.pairwise_iff_getElem.1 h
  have e : l = l.take k ++ l.drop k := (List.take_append_drop k l).symm
  have h1 : (l.take k).countP (fun y => decide (y < l[k])) = (l.take k).length := by
    rw [List.countP_eq_length]
    intro y hy
    obtain ⟨j, hj, rfl⟩ := List.mem_iff_getElem.1 hy
    rw [List.length_take] at hj
    rw [List.getElem_take, decide_eq_true_iff]
    exact hp j k (by omega) hk (by omega)
  have h2 : (l.drop k).countP (fun y => decide (y < l[k])) = 0 := by
    rw [List.countP_eq_zero]
    intro y hy
    obtain ⟨j, hj, rfl⟩ := List.mem_iff_getElem.1 hy
    rw [List.length_drop] at hj
    rw [List.getElem_drop, decide_eq_true_iff]
    by_cases h0 : j = 0
    · subst h0; simp
    · have := hp k (k + j) hk (by omega) (by omega); omega
  calc l.countP (fun y => decide (y < l[k])) = (l.take k ++ l.drop k).countP (fun y => decide (y < l[k])) := by rw [List.take_append_drop]
    _ = k := by rw [List.countP_append, h1, h2, List.length_take]; omega
theorem rank_at (l : List Int) (k : Nat) (hk : k < (dif l).length) : rank l (dif l)[k] = k := inc_place (dif_inc l) k hk
theorem rank_lt {l : List Int} {x : Int} (h : x ∈ l) : ∃ hk : rank l x < (dif l).length, (dif l)[rank l x] = x := by
  obtain ⟨k, hk, e⟩ := List.mem_iff_getElem.1 ((mem_dif l x).2 h)
  have := rank_at l k hk
  rw [e] at this
  exact ⟨by omega, by simp only [this]; exact e⟩
theorem rank_lt_iff {l : List Int} {x y : Int} (hx : x ∈ l) (hy : y ∈ l) : rank l x < rank l y ↔ x < y := by
  obtain ⟨h1, e1⟩ := rank_lt hx
  obtain ⟨h2, e2⟩ := rank_lt hy
  constructor
  · intro h
    have := List.pairwise_iff_getElem.1 (dif_inc l) _ _ h1 h2 h
    rwa [e1, e2] at this
  · intro h
    rcases Nat.lt_or_ge (rank l x) (rank l y) with h3 | h3
    · exact h3
    · rcases Nat.lt_or_eq_of_le h3 with h4 | h4
      · have := List.pairwise_iff_getElem.1 (dif_inc l) _ _ h2 h1 h4
        rw [e1, e2] at this
        omega
      · have : (dif l)[rank l y] = (dif l)[rank l x] := by simp only [h4]
        rw [e1, e2] at this
        omega
theorem dif_map {α : Type} (L : List α) (f g : α → Int) (h : ∀ x ∈ L, ∀ y ∈ L, f x < f y ↔ g x < g y) (x : α) (hx : x ∈ L) : rank (L.map f) (f x) = rank (L.map g) (g x) := by
  have key : ∀ (f g : α → Int), (∀ x ∈ L, ∀ y ∈ L, f x < f y ↔ g x < g y) → rank (L.map f) (f x) ≤ rank (L.map g) (g x) := by
    intro f g h
    have hsub : ∀ (M : List Int), Inc M → (∀ z ∈ M, z ∈ L.map f ∧ z < f x) → M.length ≤ rank (L.map g) (g x) := by
      intro M hM hz
      -- the g's of the members of M, in order
      have : ∃ N : List Int, N.length = M.length ∧ Inc N ∧ ∀ z ∈ N, z ∈ L.map g ∧ z < g x := by
        have step : ∀ (M : List Int), Inc M → (∀ z ∈ M, z ∈ L.map f ∧ z < f x) → ∃ N : List α, N.map f = M ∧ (∀ z ∈ N, z ∈ L ∧ f z < f x) := by
          intro M
          induction M with
          | nil => intro _ _; exact ⟨[], rfl, by simp⟩
          | cons m M ih =>
            intro hM hz
            obtain ⟨N, e, hN⟩ := ih (List.pairwise_cons.1 hM).2 fun z hzM => hz z (List.mem_cons_of_mem _ hzM)
            obtain ⟨h1, h2⟩ := hz m List.mem_cons_self
            obtain ⟨a, ha, rfl⟩ := List.mem_map.1 h1
            refine ⟨a :: N, by rw [List.map_cons, e], fun z hzN => ?_⟩
            rcases List.mem_cons.1 hzN with rfl | hzN
            · exact ⟨ha, h2⟩
            · exact hN z hzN
        obtain ⟨N, e, hN⟩ := step M hM hz
        refine ⟨N.map g, by rw [← e]; simp, ?_, ?_⟩
        · rw [Inc, ← e] at hM
          have hM : N.Pairwise fun a b => f a < f b := List.pairwise_map.1 hM
          refine List.pairwise_map.2 (List.Pairwise.imp_of_mem (fun ha hb hab => ?_) hM)
          exact (h _ (hN _ ha).1 _ (hN _ hb).1).1 hab
        · intro z hz
          obtain ⟨a, ha, rfl⟩ := List.mem_map.1 hz
          exact ⟨List.mem_map_of_mem (hN a ha).1, (h _ (hN a ha).1 _ hx).1 (hN a ha).2⟩
      obtain ⟨N, e, hN, hz⟩ := this
      rw [← e]
      have hs : N.Nodup := inc_nodup hN
      have hf : ((dif (L.map g)).filter fun y => decide (y < g x)).Nodup := List.Nodup.sublist List.filter_sublist (inc_nodup (dif_inc _))
      have : N.Subset ((dif (L.map g)).filter fun y => decide (y < g x)) := by
        intro z hzN
        rw [List.mem_filter, mem_dif, decide_eq_true_iff]
        exact hz z hzN
      unfold rank
      rw [List.countP_eq_length_filter]
      exact List.Nodup.length_le_of_subset hs this
    unfold rank
    rw [List.countP_eq_length_filter]
    refine hsub _ ((dif_inc _).sublist List.filter_sublist) fun z hz => ?_
    rw [List.mem_filter, mem_dif, decide_eq_true_iff] at hz
    exact hz
  exact Nat.le_antisymm (key f g h) (key g f fun a ha b hb => (h a ha b hb).symm)
theorem compact_srt (l : List Int) : Lib.compact (srt l) = dif l := by
  have hs := srt_sorted l
  have hp := List.pairwise_iff_getElem.1 hs
  have hg : ∀ j (hj : j < (srt l).length), (srt l).toArray[j]! = (srt l)[j] := by intro j hj; simp [hj]
  refine inc_ext ?_ (dif_inc l) fun y => ?_
  · unfold Lib.compact Lib.compactUpTo Inc
    rw [List.pairwise_map]
    refine List.Pairwise.imp_of_mem (R := fun a b => a < b) (fun {a b} ha hb hab => ?_) (List.pairwise_lt_range.sublist List.filter_sublist)
    rw [List.mem_filter, List.mem_range] at ha hb
    have hk := hb.2
    unfold Lib.keeps at hk
    rw [decide_eq_true_iff] at hk
    have hk := hk.resolve_left (by omega)
    rw [hg a ha.1, hg b hb.1]
    rw [hg b hb.1, hg (b - 1) (by omega)] at hk
    have h1 := hp (b - 1) b (by omega) hb.1 (by omega)
    by_cases hab' : a = b - 1
    · subst hab'; omega
    · have := hp a (b - 1) ha.1 (by omega) (by omega); omega
  · rw [mem_dif, ← (srt_perm l).mem_iff]
    unfold Lib.compact Lib.compactUpTo
    rw [List.mem_map]
    constructor
    · rintro ⟨j, hj, rfl⟩
      rw [List.mem_filter, List.mem_range] at hj
      rw [hg j hj.1]
      exact List.getElem_mem _
    · intro hy
      obtain ⟨j, hj, e⟩ := List.mem_iff_getElem.1 hy
      induction j using Nat.strongRecOn with
      | _ j ih =>
        by_cases h0 : j = 0 ∨ (srt l)[j] ≠ (srt l)[j - 1]'(by omega)
        · refine ⟨j, ?_, by rw [hg j hj]; exact e⟩
          rw [List.mem_filter, List.mem_range]
          refine ⟨hj, ?_⟩
          unfold Lib.keeps
          rw [decide_eq_true_iff, hg j hj, hg (j - 1) (by omega)]
          exact h0
        · have h1 : ¬ j = 0 := fun h => h0 (.inl h)
          have h2 : (srt l)[j] = (srt l)[j - 1]'(by omega) := Decidable.byContradiction fun h => h0 (.inr h)
          exact ih (j - 1) (by omega) (by omega) (by rw [← h2]; exact e)
end Go.Proofs.YtimjblnglhmakaaDoor.M
namespace Go.Proofs.YtimjblnglhmakaaDoor.M
open Go.RowKit Go.Proofs.YtimjblnglhmakaaDoorW.PrintMore Go.Proofs.YtimjblnglhmakaaDoorW.PrintLast Go.Proofs.YtimjblnglhmakaaDoorW.PrintWords Go.Proofs.YtimjblnglhmakaaDoor.P
theorem diff_le {a b : Nat} (h : diff a b = 0) : a ≤ b := by
  have e : a &&& b = a := by
    apply Nat.eq_of_testBit_eq
    intro j
    rw [Nat.testBit_and]
    cases hj : a.testBit j with
    | false => simp
    | true => rw [(diff_zero a b).1 h j hj]; rfl
  have := Nat.and_le_right (n := a) (m := b)
  omega
def level (sets : List Int) (own : Nat) : Nat := sets.countP fun s => decide (s ≠ (own : Int) ∧ diff s.toNat own = 0)
theorem levels_rank (n : Nat) (low : Nat → Nat) (x : Nat → Int) (h1 : ∀ i j, i < n → j < n → x i < x j → diff (low i) (low j) = 0 ∧ low i ≠ low j) (h2 : ∀ i j, i < n → j < n → x i = x j → low i = low j) (j : Nat) (hj : j < n) :
    level (dif ((List.range n).map fun i => ((low i : Nat) : Int))) (low j) = rank ((List.range n).map x) (x j) := by
  have key : ∀ i, i < n → ∀ j, j < n → (((low i : Nat) : Int) < ((low j : Nat) : Int) ↔ x i < x j) := by
    intro i hi j hj
    constructor
    · intro h
      rcases Int.lt_trichotomy (x i) (x j) with h3 | h3 | h3
      · exact h3
      · have := h2 i j hi hj h3; omega
      · have := diff_le (h1 j i hj hi h3).1; omega
    · intro h
      have := h1 i j hi hj h
      have h3 := diff_le this.1
      have h4 := this.2
      omega
  rw [← dif_map (List.range n) (fun i => ((low i : Nat) : Int)) x (fun a ha b hb => key a (List.mem_range.1 ha) b (List.mem_range.1 hb)) j (List.mem_range.2 hj)]
  unfold level rank
  apply List.countP_congr
  intro s hs
  rw [mem_dif, List.mem_map] at hs
  obtain ⟨i, hi, rfl⟩ := hs
  have hi := List.mem_range.1 hi
  rw [decide_eq_true_iff, decide_eq_true_iff]
  constructor
  · rintro ⟨a, b⟩
    have := diff_le b
    rw [Int.toNat_natCast] at this
    omega
  · intro h
    obtain ⟨a, b⟩ := h1 i j hi hj ((key i hi j hj).1 h)
    refine ⟨by omega, by rw [Int.toNat_natCast]; exact a⟩
end Go.Proofs.YtimjblnglhmakaaDoor.M
namespace Go.Proofs.YtimjblnglhmakaaDoor.P
open Go.RowKit Go.Proofs.YtimjblnglhmakaaDoorW.PrintWords Go.Proofs.YtimjblnglhmakaaDoorW.PrintLast Go.Proofs.YtimjblnglhmakaaDoorW.PrintMore
open Bool renaming true → T, false → F
open List renaming setIfInBounds_toArray → L_, set_cons_zero → M_, set_cons_succ → N_, map_toArray → P_, map_cons → Q_, map_nil → R_, length_drop → S_, length_take → U_
open Aside0 renaming mk → A_
attribute [local go_sem] max2_int min2_int max_two min_two max_three min_three max_four min_four
set_option linter.unusedVariables false
set_option linter.unusedSimpArgs false
attribute [local go_sem] fldOrder_0 fldOrder_1
mutual
def Abz.l0 : Nat → List Int → List Int → List Int → Int → Int → Option (List Int)
 | 0,_,_,_,_,_=>none
 | k + 1,x0,x3,x9,x10,x11=>if x11 < x10 then (if 0 ≤ x11 then (if x11 < (x9.length : Int) then ((Abl.f k x3 (rd x9 x11)).bind fun t581=>(Abz.l0 k x0 t581 x9 x10 (wrap64 (x11 + 1)))) else (none)) else (none)) else (Abz.l1 k x3 ([] : List Int) x0 (x0.length : Int) 0)
def Abz.l1 : Nat → List Int → List Int → List Int → Int → Int → Option (List Int)
 | 0,_,_,_,_,_=>none
 | k + 1,x3,x4,x19,x20,x21=>if x21 < x20 then (if 0 ≤ x21 then (if x21 < (x19.length : Int) then ((Ace.f k x3 (rd x19 x21)).bind fun t585=>(if x4.length < 17592186044416 then (Abz.l1 k x3 (x4 ++ [t585]) x19 x20 (wrap64 (x21 + 1))) else (none))) else (none)) else (none)) else (some x4)
end
def Abz.f (k : Nat) (l0 : List Int) : Option (List Int) := Abz.l0 k l0 ([] : List Int) l0 (l0.length : Int) 0
end Go.Proofs.YtimjblnglhmakaaDoor.P
namespace Go.Proofs.YtimjblnglhmakaaDoor.M
open Go.RowKit Go.Proofs.YtimjblnglhmakaaDoorW.PrintMore Go.Proofs.YtimjblnglhmakaaDoorW.PrintLast Go.Proofs.YtimjblnglhmakaaDoorW.PrintWords Go.Proofs.YtimjblnglhmakaaDoor.P
set_option maxRecDepth 4000
theorem ins_at (x : Int) (l : List Int) (p : Nat) (hp : p ≤ l.length) (h1 : ∀ j, j < p → l.getD j 0 < x) (h2 : p < l.length → ¬ l.getD p 0 < x) : ins x l = if p < l.length ∧ l.getD p 0 = x then l else l.take p ++ x :: l.drop p := by
  induction l generalizing p with
  | nil =>
    obtain rfl : p = 0 := by simpa using hp
    simp [ins]
  | cons y l ih =>
    cases p with
    | zero =>
      have h2 := h2 (by simp)
      simp only [List.getD_cons_zero] at h2
      unfold ins
      rw [if_neg h2]
      simp
    | succ p =>
      have hy : y < x := by simpa using h1 0 (by omega)
      unfold ins
      rw [if_pos hy, ih p (by simpa using hp) (fun j hj => by simpa using h1 (j + 1) (by omega)) (fun hlt => by simpa using h2 (by simpa using hlt))]
      by_cases hc : p < l.length ∧ l.getD p 0 = x
      · rw [if_pos hc, if_pos (by simpa using hc)]
      · rw [if_neg hc, if_neg (by simpa using hc)]
        simp
theorem l1Put_ev (l : List Int) (x : Int) (hl : l.length ≤ 1048576) : Ev (fun k => Abl.f k l x) (ins x l) := by
  unfold Abl.f
  have key : ∀ m p, p + m = l.length → (∀ j, j < p → l.getD j 0 < x) → Ev (fun k => Abl.l0 k l x (p : Int)) (ins x l) := by
    intro m
    induction m with
    | zero =>
      intro p hp h1
      have e := ins_at x l p (by omega) h1 (fun h => by omega)
      rw [if_neg (fun h => by omega)] at e
      rw [e]
      refine Ev.step (fun _ => rfl) ?_
      simp only [Abl.l0, if_neg (show ¬ (p : Int) < (l.length : Int) by omega), if_pos (show (0 : Int) ≤ (p : Int) by omega), if_pos (show (p : Int) ≤ (l.length : Int) by omega), Option.bind_some, Int.toNat_natCast, List.nil_append, List.length_nil, List.length_append, List.length_take, List.length_drop, List.length_singleton,
        if_pos (show 0 + min p l.length < 17592186044416 by omega), if_pos (show 0 + min p l.length + 1 + (l.length - p) < 17592186044416 by omega)]
      exact Ev.to (Ev.now _) (by simp)
    | succ m ih =>
      intro p hp h1
      refine Ev.step (fun _ => rfl) ?_
      by_cases c : l.getD p 0 < x
      · simp only [Abl.l0, if_pos (show (p : Int) < (l.length : Int) by omega), if_pos (show (0 : Int) ≤ (p : Int) by omega), rd_nat, if_pos c, next64 p l.length (by omega) (by omega)]
        refine ih (p + 1) (by omega) fun j hj => ?_
        by_cases e : j = p
        · rw [e]; exact c
        · exact h1 j (by omega)
      · have e := ins_at x l p (by omega) h1 (fun _ => c)
        by_cases c2 : l.getD p 0 = x
        · rw [if_pos ⟨by omega, c2⟩] at e
          rw [e]
          simp only [Abl.l0, if_pos (show (p : Int) < (l.length : Int) by omega), if_pos (show (0 : Int) ≤ (p : Int) by omega), rd_nat, if_neg c, if_pos c2]
          exact Ev.now _
        · rw [if_neg (fun h => c2 h.2)] at e
          rw [e]
          simp only [Abl.l0, if_pos (show (p : Int) < (l.length : Int) by omega), if_pos (show (0 : Int) ≤ (p : Int) by omega), rd_nat, if_neg c, if_neg c2, if_pos (show (p : Int) ≤ (l.length : Int) by omega), Option.bind_some, Int.toNat_natCast, List.nil_append, List.length_nil, List.length_append, List.length_take, List.length_drop, List.length_singleton,
            if_pos (show 0 + min p l.length < 17592186044416 by omega), if_pos (show 0 + min p l.length + 1 + (l.length - p) < 17592186044416 by omega)]
          exact Ev.to (Ev.now _) (by simp)
  exact key l.length 0 (by omega) (fun j hj => by omega)
theorem take_next {zs : List Int} (i : Nat) (hi : i < zs.length) : zs.take (i + 1) = zs.take i ++ [zs.getD i 0] := by rw [List.take_add_one]; simp [hi]
theorem different_eq (l : List Int) (h : l.length ≤ 1048576) : Abh.f l = some (dif l) := by
  unfold Abh.f
  rw [if_pos (by omega), show HD.srt l = srt l from rfl, compact_srt]
theorem Rel.rows {n : Nat} {l : List Int} (h : Rel n l) : l = (List.range n).map fun i => ((row l i : Nat) : Int) := by
  refine list_ext_getD (by rw [h.len]; simp) fun i hi => ?_
  rw [h.len] at hi
  rw [h.getD]
  simp [hi]
def levelsL (n : Nat) (m : List Int) : List Int := (List.range n).map fun j => ((level (dif m) (row m j) : Nat) : Int)
theorem level_snoc (L : List Int) (s : Int) (own : Nat) : level (L ++ [s]) own = level L own + if s ≠ (own : Int) ∧ diff s.toNat own = 0 then 1 else 0 := by
  unfold level
  rw [List.countP_append, List.countP_singleton]
  simp only [decide_eq_true_iff]
theorem level_le (L : List Int) (own : Nat) : level L own ≤ L.length := List.countP_le_length
theorem levels_ev {n : Nat} {l : List Int} (h : Rel n l) : Ev (fun k => Aaq.f k (n : Int) l) (levelsL n (mir n l)) := by
  have hn := h.le
  have hm := mir_rel h
  have hd := dif_length_le (mir n l)
  rw [hm.len] at hd
  unfold Aaq.f
  refine Ev.bind (mirror_ev h) ?_
  simp only [different_eq (mir n l) (by rw [hm.len]; omega), Option.bind_some, hm.len]
  refine Ev.up (fun j k => Aaq.l0 k ((List.range j).map fun j => ((level (dif (mir n l)) (row (mir n l) j) : Nat) : Int)) (dif (mir n l)) (mir n l) (n : Int) (j : Int)) n ?_ ?_
  · intro j hj next
    refine Ev.step (fun _ => rfl) ?_
    simp only [Aaq.l0, if_pos (show (j : Int) < (n : Int) by omega), if_pos (show (0 : Int) ≤ (j : Int) by omega), hm.len, hm.rd]
    refine Ev.up (fun q k => Aaq.l1 k ((List.range j).map fun j => ((level (dif (mir n l)) (row (mir n l) j) : Nat) : Int)) (dif (mir n l)) ((row (mir n l) j : Nat) : Int) ((level ((dif (mir n l)).take q) (row (mir n l) j) : Nat) : Int) (mir n l) (n : Int) (j : Int) (dif (mir n l)) ((dif (mir n l)).length : Int) (q : Int)) (dif (mir n l)).length ?_ ?_
    · intro q hq next
      obtain ⟨i, hi, hs⟩ : ∃ i, i < n ∧ (dif (mir n l)).getD q 0 = ((row (mir n l) i : Nat) : Int) := by
        have hmem : (dif (mir n l)).getD q 0 ∈ dif (mir n l) := by simp [hq]
        rw [mem_dif] at hmem
        rw [hm.rows] at hmem
        obtain ⟨i, hi, e⟩ := List.mem_map.1 hmem
        exact ⟨i, List.mem_range.1 hi, by rw [← hm.rows] at e; exact e.symm⟩
      have hlv := level_le ((dif (mir n l)).take q) (row (mir n l) j)
      rw [List.length_take] at hlv
      rw [take_next q hq, level_snoc, hs, Int.toNat_natCast] at next
      refine Ev.step (fun _ => rfl) ?_
      simp only [Aaq.l1, if_pos (show (q : Int) < ((dif (mir n l)).length : Int) by omega), if_pos (show (0 : Int) ≤ (q : Int) by omega), rd_nat, hs, andNot_i64 _ _ (hm.row_62 i) (hm.row_62 j), next64 q _ hq (by omega)]
      by_cases c : row (mir n l) i = row (mir n l) j
      · rw [if_neg (fun h => h.1 (by omega))] at next
        simp only [if_pos (show ((row (mir n l) i : Nat) : Int) = ((row (mir n l) j : Nat) : Int) by omega)]
        exact next
      · simp only [if_neg (show ¬ ((row (mir n l) i : Nat) : Int) = ((row (mir n l) j : Nat) : Int) by omega)]
        by_cases c2 : diff (row (mir n l) i) (row (mir n l) j) = 0
        · rw [if_pos ⟨by omega, c2⟩] at next
          simp only [if_pos (show ((diff (row (mir n l) i) (row (mir n l) j) : Nat) : Int) = 0 by omega), next64 (level ((dif (mir n l)).take q) (row (mir n l) j)) 1048576 (by omega) (by omega)]
          exact next
        · rw [if_neg (fun h => c2 h.2)] at next
          simp only [if_neg (show ¬ ((diff (row (mir n l) i) (row (mir n l) j) : Nat) : Int) = 0 by omega)]
          exact next
    · refine Ev.step (fun _ => rfl) ?_
      simp only [Aaq.l1, if_neg (show ¬ ((dif (mir n l)).length : Int) < ((dif (mir n l)).length : Int) by omega), List.length_map, List.length_range, if_pos (show j < 17592186044416 by omega), List.take_length, next64 j n hj (by omega)]
      simpa [List.range_succ] using next
  · refine Ev.step (fun _ => rfl) ?_
    simp only [Aaq.l0, if_neg (show ¬ (n : Int) < (n : Int) by omega)]
    exact Ev.now _
end Go.Proofs.YtimjblnglhmakaaDoor.M
namespace Go.Proofs.YtimjblnglhmakaaDoor.P
open Go.RowKit Go.Proofs.YtimjblnglhmakaaDoorW.PrintWords Go.Proofs.YtimjblnglhmakaaDoorW.PrintLast Go.Proofs.YtimjblnglhmakaaDoorW.PrintMore
open Bool renaming true → T, false → F
open List renaming setIfInBounds_toArray → L_, set_cons_zero → M_, set_cons_succ → N_, map_toArray → P_, map_cons → Q_, map_nil → R_, length_drop → S_, length_take → U_
open Aside0 renaming mk → A_
attribute [local go_sem] max2_int min2_int max_two min_two max_three min_three max_four min_four
set_option linter.unusedVariables false
set_option linter.unusedSimpArgs false
attribute [local go_sem] fldOrder_0 fldOrder_1

end Go.Proofs.YtimjblnglhmakaaDoor.P
namespace Go.Proofs.YtimjblnglhmakaaDoor.P
open Go.RowKit Go.Proofs.YtimjblnglhmakaaDoorW.PrintWords Go.Proofs.YtimjblnglhmakaaDoorW.PrintLast Go.Proofs.YtimjblnglhmakaaDoorW.PrintMore
open Bool renaming true → T, false → F
open List renaming setIfInBounds_toArray → L_, set_cons_zero → M_, set_cons_succ → N_, map_toArray → P_, map_cons → Q_, map_nil → R_, length_drop → S_, length_take → U_
open Aside0 renaming mk → A_
attribute [local go_sem] max2_int min2_int max_two min_two max_three min_three max_four min_four
set_option linter.unusedVariables false
set_option linter.unusedSimpArgs false
attribute [local go_sem] fldOrder_0 fldOrder_1
end Go.Proofs.YtimjblnglhmakaaDoor.P
namespace Go.Proofs.YtimjblnglhmakaaDoor.M
open Go.RowKit Go.Proofs.YtimjblnglhmakaaDoorW.PrintMore Go.Proofs.YtimjblnglhmakaaDoorW.PrintLast Go.Proofs.YtimjblnglhmakaaDoorW.PrintWords Go.Proofs.YtimjblnglhmakaaDoor.P
set_option maxRecDepth 4000
abbrev Iv := S62
def Lf (L : List Iv) (i : Nat) : Int := (L.getD i z62).f0
def Rt (L : List Iv) (i : Nat) : Int := (L.getD i z62).f1
theorem rd_iv0 (L : List Iv) (i : Nat) : (rd_T62 L (i : Int)).f0 = Lf L i := by simp [rd_T62, Lf]
theorem rd_iv1 (L : List Iv) (i : Nat) : (rd_T62 L (i : Int)).f1 = Rt L i := by simp [rd_T62, Rt]
theorem if_and (a b : Bool) : (if a then b else false) = (a && b) := by cases a <;> cases b <;> rfl
theorem Ev.allv2 {α : Type} (G : Nat → Nat → Option α) (n : Nat) (p : Nat → Bool) (vt vf : α) (yes : ∀ i r, i < n → p i = true → Ev (G (i + 1)) r → Ev (G i) r) (no : ∀ i, i < n → p i = false → Ev (G i) vf) (stop : Ev (G n) vt) :
    Ev (G 0) (if allB n p then vt else vf) := by
  cases h : allB n p with
  | true =>
    have h := allB_iff.1 h
    rw [if_pos rfl]
    exact Ev.up G n (fun i hi => yes i vt hi (h i hi)) stop
  | false =>
    obtain ⟨j, hj, hp, hl⟩ := least_false (allB_false.1 h)
    rw [if_neg (by simp)]
    exact Ev.up G j (fun i hi => yes i vf (by omega) (hl i hi)) (no j hj hp)
def ivAt (L : List Iv) (i : Nat) : Bool := decide (-1000 ≤ Lf L i ∧ Lf L i ≤ Rt L i ∧ Rt L i ≤ 1000)
def ivOk (L : List Iv) : Bool := allB L.length (ivAt L) && decide ((L.length : Int) ≤ 10)
theorem ivGood_ev (L : List Iv) (hl : L.length ≤ 1048576) : Ev (fun k => Abb.f k L) (ivOk L) := by
  unfold Abb.f ivOk
  refine Ev.to (Ev.allv2 (fun i k => Abb.l0 k L L (L.length : Int) (i : Int)) L.length (ivAt L) (decide ((L.length : Int) ≤ 10)) false ?_ ?_ ?_) (if_and _ _)
  · intro i r hi hp next
    have hp : -1000 ≤ Lf L i ∧ Lf L i ≤ Rt L i ∧ Rt L i ≤ 1000 := of_decide_eq_true hp
    refine Ev.step (fun _ => rfl) ?_
    simp only [Abb.l0, if_pos (show (i : Int) < (L.length : Int) by omega), if_pos (show (0 : Int) ≤ (i : Int) by omega), rd_iv0, rd_iv1, l1In_eq, Option.bind_some, decide_eq_true (show -1000 ≤ Lf L i ∧ Lf L i ≤ Rt L i by omega), if_true, if_neg (show ¬ Rt L i > 1000 by omega), next64 i L.length hi (by omega)]
    exact next
  · intro i hi hp
    have hp : ¬ (-1000 ≤ Lf L i ∧ Lf L i ≤ Rt L i ∧ Rt L i ≤ 1000) := of_decide_eq_false hp
    refine Ev.step (fun _ => rfl) ?_
    by_cases c : -1000 ≤ Lf L i ∧ Lf L i ≤ Rt L i
    · simp only [Abb.l0, if_pos (show (i : Int) < (L.length : Int) by omega), if_pos (show (0 : Int) ≤ (i : Int) by omega), rd_iv0, rd_iv1, l1In_eq, Option.bind_some, decide_eq_true c, if_true, if_pos (show Rt L i > 1000 by omega)]
      exact Ev.now _
    · simp only [Abb.l0, if_pos (show (i : Int) < (L.length : Int) by omega), if_pos (show (0 : Int) ≤ (i : Int) by omega), rd_iv0, rd_iv1, l1In_eq, Option.bind_some, decide_eq_false c, Bool.false_eq_true, if_false]
      exact Ev.now _
  · refine Ev.step (fun _ => rfl) ?_
    simp only [Abb.l0, if_neg (show ¬ (L.length : Int) < (L.length : Int) by omega)]
    exact Ev.now _
def ivR (L : List Iv) : List Int := relL L.length fun i j => decide (Rt L i < Lf L j)
theorem ivOrder_ev (L : List Iv) (hl : L.length ≤ 62) : Ev (fun k => Aa2.f k L) ((L.length : Int), ivR L) := by
  unfold Aa2.f
  have h0 : Ev (fun k => Aa2.l0 k L L (L.length : Int) ((0 : Nat) : Int) (L.length : Int) ((List.range 0).map fun i => ((setOf L.length fun j => decide (Rt L i < Lf L j) : Nat) : Int))) ((L.length : Int), ivR L) := by
    refine Ev.up (fun i k => Aa2.l0 k L L (L.length : Int) (i : Int) (L.length : Int) ((List.range i).map fun i => ((setOf L.length fun j => decide (Rt L i < Lf L j) : Nat) : Int))) L.length ?_ ?_
    · intro i hi next
      refine Ev.step (fun _ => rfl) ?_
      simp only [Aa2.l0, if_pos (show (i : Int) < (L.length : Int) by omega), if_pos (show (0 : Int) ≤ (i : Int) by omega), rd_iv0, rd_iv1]
      refine Ev.up (fun j k => Aa2.l1 k L ((setOf j fun j => decide (Rt L i < Lf L j) : Nat) : Int) L (L.length : Int) (i : Int) L (L.length : Int) (j : Int) (L.length : Int) ((List.range i).map fun i => ((setOf L.length fun j => decide (Rt L i < Lf L j) : Nat) : Int)) (Lf L i) (Rt L i)) L.length ?_ ?_
      · intro j hj next
        refine Ev.step (fun _ => rfl) ?_
        rw [setOf_bit_or] at next
        have h2 : (2 : Nat) ^ j < 9223372036854775808 := Nat.lt_of_le_of_lt (Nat.pow_le_pow_right (by decide) (by omega : j ≤ 62)) (by decide)
        have h1 := setOf_62 j (fun j => decide (Rt L i < Lf L j)) (by omega)
        by_cases c : Rt L i < Lf L j
        · rw [decide_eq_true c, if_pos rfl] at next
          simp only [Aa2.l1, if_pos (show (j : Int) < (L.length : Int) by omega), if_pos (show (0 : Int) ≤ (j : Int) by omega), rd_iv0, if_pos c, shl1 j (by omega), or_i64 _ _ h1 h2, next64 j L.length hj (by omega)]
          exact next
        · rw [decide_eq_false c, if_neg (by simp)] at next
          simp only [Aa2.l1, if_pos (show (j : Int) < (L.length : Int) by omega), if_pos (show (0 : Int) ≤ (j : Int) by omega), rd_iv0, if_neg c, next64 j L.length hj (by omega)]
          exact next
      · refine Ev.step (fun _ => rfl) ?_
        simp only [Aa2.l1, if_neg (show ¬ (L.length : Int) < (L.length : Int) by omega), List.length_map, List.length_range, if_pos (show i < 17592186044416 by omega), next64 i L.length hi (by omega)]
        simpa [List.range_succ] using next
    · refine Ev.step (fun _ => rfl) ?_
      simp only [Aa2.l0, if_neg (show ¬ (L.length : Int) < (L.length : Int) by omega)]
      exact Ev.now _
  exact h0
theorem ivRefuses_eq {n : Nat} {l : List Int} (h : Rel n l) (a b c d : Nat) (ha : a < n) (hb : b < n) (hc : c < n) (hd : d < n) : Ab5.f (n : Int) l (a : Int) (b : Int) (c : Int) (d : Int) = some (hit22 l a b c d) := by
  have hn := h.le
  unfold Ab5.f hit22
  have e : ∀ x y, (row l x).testBit y = B l x y := fun _ _ => rfl
  simp only [if_pos (show (0 : Int) ≤ (a : Int) by omega), if_pos (show (0 : Int) ≤ (c : Int) by omega), h.len, if_pos (show (a : Int) < (n : Int) by omega), if_pos (show (c : Int) < (n : Int) by omega), h.rd, orHas_eq _ b (by omega), orHas_eq _ d (by omega), Option.bind_some, e]
  cases B l a b <;> cases B l c d <;> cases B l c b <;> cases B l a d <;> rfl
theorem ivTwoTwo_ev {n : Nat} {l : List Int} (h : Rel n l) : EvP (fun k => Aar.f k (n : Int) l) (fun r => r.2 = false) (∀ a, a < n → ∀ b, b < n → ∀ c, c < n → ∀ d, d < n → hit22 l a b c d = false) := by
  have hn := h.le
  unfold Aar.f
  refine EvP.iff (EvP.loop (fun a k => Aar.l0 k (a : Int) (n : Int) l) n (fun a => ∀ b, b < n → ∀ c, c < n → ∀ d, d < n → hit22 l a b c d = false) True ?_ ?_) (by rw [and_true])
  · intro a T ha next
    refine EvP.step (fun _ => rfl) ?_
    simp only [Aar.l0, if_pos (show (a : Int) < (n : Int) by omega)]
    refine EvP.loop (fun b k => Aar.l1 k (a : Int) (b : Int) (n : Int) l) n (fun b => ∀ c, c < n → ∀ d, d < n → hit22 l a b c d = false) T ?_ ?_
    · intro b T hb next
      refine EvP.step (fun _ => rfl) ?_
      simp only [Aar.l1, if_pos (show (b : Int) < (n : Int) by omega)]
      refine EvP.loop (fun c k => Aar.l2 k (a : Int) (b : Int) (c : Int) (n : Int) l) n (fun c => ∀ d, d < n → hit22 l a b c d = false) T ?_ ?_
      · intro c T hc next
        refine EvP.step (fun _ => rfl) ?_
        simp only [Aar.l2, if_pos (show (c : Int) < (n : Int) by omega)]
        refine EvP.loop (fun d k => Aar.l3 k (a : Int) (b : Int) (c : Int) (d : Int) (n : Int) l) n (fun d => hit22 l a b c d = false) T ?_ ?_
        · intro d T hd next
          refine EvP.step (fun _ => rfl) ?_
          simp only [Aar.l3, if_pos (show (d : Int) < (n : Int) by omega), ivRefuses_eq h a b c d ha hb hc hd, Option.bind_some, next64 d n hd (by omega)]
          cases hh : hit22 l a b c d with
          | false => simp only [Bool.false_eq_true, if_false]; exact EvP.iff next (by simp)
          | true => simp only [if_true]; exact EvP.now (by simp)
        · refine EvP.step (fun _ => rfl) ?_
          simp only [Aar.l3, if_neg (show ¬ (n : Int) < (n : Int) by omega), next64 c n hc (by omega)]
          exact next
      · refine EvP.step (fun _ => rfl) ?_
        simp only [Aar.l2, if_neg (show ¬ (n : Int) < (n : Int) by omega), next64 b n hb (by omega)]
        exact next
    · refine EvP.step (fun _ => rfl) ?_
      simp only [Aar.l1, if_neg (show ¬ (n : Int) < (n : Int) by omega), next64 a n ha (by omega)]
      exact next
  · refine EvP.step (fun _ => rfl) ?_
    simp only [Aar.l0, if_neg (show ¬ (n : Int) < (n : Int) by omega)]
    exact EvP.now (by simp)
theorem ivGoodOrder_ev (n : Int) (l : List Int) (hl : l.length ≤ 140737488355328) : Ev (fun k => Aby.f k n l) (isInt n l) := by
  unfold Aby.f isInt Aca.f
  refine Ev.bind (orGood_ev n l hl) ?_
  cases ho : isOrd n l with
  | false => simp only [Bool.false_eq_true, if_false, Bool.false_and]; exact Ev.now _
  | true =>
    obtain ⟨n, rfl, o⟩ := isOrd_iff.1 ho
    simp only [if_true, Bool.true_and, Int.toNat_natCast]
    obtain ⟨r, hr, e⟩ := ivTwoTwo_ev o.toRel
    refine Ev.bind (a := !r.2) (Ev.bind hr (Ev.now _)) (Ev.to (Ev.now _) ?_)
    rw [Bool.eq_iff_iff, Bool.not_eq_true', no22_iff]
    exact e
theorem ivLevels_ev {n : Nat} {l : List Int} (h : Rel n l) : Ev (fun k => Aan.f k (n : Int) l) (levelsL n (mir n l)) := by
  have hn := h.le
  have hm := mir_rel h
  have hd := dif_length_le (mir n l)
  rw [hm.len] at hd
  have hrow : ∀ i, i < n → row (mir n l) i = setOf n fun j => B l j i := fun i hi => relL_row n _ i hi
  unfold Aan.f
  rw [h.len]
  have second : Ev (fun k => Aan.l1 k (dif (mir n l)) ([] : List Int) (n : Int) 0 (n : Int) l) (levelsL n (mir n l)) := by
    refine Ev.up (fun j k => Aan.l1 k (dif (mir n l)) ((List.range j).map fun j => ((level (dif (mir n l)) (row (mir n l) j) : Nat) : Int)) (n : Int) (j : Int) (n : Int) l) n ?_ ?_
    · intro j hj next
      refine Ev.step (fun _ => rfl) ?_
      simp only [Aan.l1, if_pos (show (j : Int) < (n : Int) by omega)]
      refine Ev.up (fun q k => Aan.l2 k (dif (mir n l)) ((List.range j).map fun j => ((level (dif (mir n l)) (row (mir n l) j) : Nat) : Int)) (j : Int) ((level ((dif (mir n l)).take q) (row (mir n l) j) : Nat) : Int) (n : Int) (j : Int) (dif (mir n l)) ((dif (mir n l)).length : Int) (q : Int) (n : Int) l) (dif (mir n l)).length ?_ ?_
      · intro q hq next
        obtain ⟨i, hi, hs⟩ : ∃ i, i < n ∧ (dif (mir n l)).getD q 0 = ((row (mir n l) i : Nat) : Int) := by
          have hmem : (dif (mir n l)).getD q 0 ∈ dif (mir n l) := by simp [hq]
          rw [mem_dif] at hmem
          rw [hm.rows] at hmem
          obtain ⟨i, hi, e⟩ := List.mem_map.1 hmem
          exact ⟨i, List.mem_range.1 hi, by rw [← hm.rows] at e; exact e.symm⟩
        have hlv := level_le ((dif (mir n l)).take q) (row (mir n l) j)
        rw [List.length_take] at hlv
        rw [take_next q hq, level_snoc, hs, Int.toNat_natCast] at next
        refine Ev.step (fun _ => rfl) ?_
        simp only [Aan.l2, if_pos (show (q : Int) < ((dif (mir n l)).length : Int) by omega), if_pos (show (0 : Int) ≤ (q : Int) by omega), rd_nat, hs, next64 q _ hq (by omega)]
        refine Ev.bind (orBelow_ev h _ j (by omega)) ?_
        rw [← hrow j hj]
        by_cases c : row (mir n l) i = row (mir n l) j
        · rw [if_neg (fun h => h.1 (by omega))] at next
          simp only [if_pos (show ((row (mir n l) i : Nat) : Int) = ((row (mir n l) j : Nat) : Int) by omega)]
          exact next
        · simp only [if_neg (show ¬ ((row (mir n l) i : Nat) : Int) = ((row (mir n l) j : Nat) : Int) by omega)]
          refine Ev.bind (orBelow_ev h _ j (by omega)) ?_
          rw [← hrow j hj, andNot_i64 _ _ (hm.row_62 i) (hm.row_62 j)]
          by_cases c2 : diff (row (mir n l) i) (row (mir n l) j) = 0
          · rw [if_pos ⟨by omega, c2⟩] at next
            simp only [if_pos (show ((diff (row (mir n l) i) (row (mir n l) j) : Nat) : Int) = 0 by omega), next64 (level ((dif (mir n l)).take q) (row (mir n l) j)) 1048576 (by omega) (by omega)]
            exact next
          · rw [if_neg (fun h => c2 h.2)] at next
            simp only [if_neg (show ¬ ((diff (row (mir n l) i) (row (mir n l) j) : Nat) : Int) = 0 by omega)]
            exact next
      · refine Ev.step (fun _ => rfl) ?_
        simp only [Aan.l2, if_neg (show ¬ ((dif (mir n l)).length : Int) < ((dif (mir n l)).length : Int) by omega), List.length_map, List.length_range, if_pos (show j < 17592186044416 by omega), List.take_length, next64 j n hj (by omega)]
        simpa [List.range_succ] using next
    · refine Ev.step (fun _ => rfl) ?_
      simp only [Aan.l1, if_neg (show ¬ (n : Int) < (n : Int) by omega)]
      exact Ev.now _
  have first : Ev (fun k => Aan.l0 k (dif ((mir n l).take 0)) (n : Int) ((0 : Nat) : Int) (n : Int) l) (levelsL n (mir n l)) := by
    refine Ev.up (fun i k => Aan.l0 k (dif ((mir n l).take i)) (n : Int) (i : Int) (n : Int) l) n ?_ ?_
    · intro i hi next
      have hd2 := dif_length_le ((mir n l).take i)
      rw [List.length_take] at hd2
      refine Ev.step (fun _ => rfl) ?_
      simp only [Aan.l0, if_pos (show (i : Int) < (n : Int) by omega)]
      refine Ev.bind (orBelow_ev h _ i (by omega)) ?_
      refine Ev.bind (l1Put_ev _ _ (by omega)) ?_
      simp only [next64 i n hi (by omega)]
      have e : dif ((mir n l).take (i + 1)) = ins ((setOf n fun j => B l j i : Nat) : Int) (dif ((mir n l).take i)) := by
        rw [take_next i (by rw [hm.len]; exact hi), hm.getD, hrow i hi]
        unfold dif
        rw [List.foldl_append]
        rfl
      rw [e] at next
      exact next
    · refine Ev.step (fun _ => rfl) ?_
      simp only [Aan.l0, if_neg (show ¬ (n : Int) < (n : Int) by omega), h.len]
      rw [show (mir n l).take n = mir n l by rw [List.take_of_length_le]; rw [hm.len]; exact Nat.le_refl _]
      exact second
  exact first
def LV (n : Nat) (l : List Int) (i : Nat) : Nat := level (dif (mir n l)) (row (mir n l) i)
theorem levelsL_rd {n : Nat} {l : List Int} (i : Nat) (hi : i < n) : rd (levelsL n (mir n l)) (i : Int) = ((LV n l i : Nat) : Int) := by
  rw [rd_nat]
  simp [levelsL, LV, hi]
def rgt (n : Nat) (l : List Int) (i : Nat) : Nat → Int
  | 0 => ((LV n l i : Nat) : Int)
  | j + 1 => if B l i j then rgt n l i j else mx (rgt n l i j) ((LV n l j : Nat) : Int)
def endsL (n : Nat) (l : List Int) : List Iv := (List.range n).map fun i => (⟨((LV n l i : Nat) : Int), rgt n l i n⟩ : Iv)
theorem endsL_length (n : Nat) (l : List Int) : (endsL n l).length = n := by simp [endsL]
theorem ends_ev {n : Nat} {l : List Int} (h : Rel n l) : Ev (fun k => Aap.f k (n : Int) l) (endsL n l) := by
  have hn := h.le
  have hlen : (levelsL n (mir n l)).length = n := by simp [levelsL]
  unfold Aap.f
  refine Ev.bind (levels_ev h) ?_
  rw [hlen]
  refine Ev.up (fun i k => Aap.l0 k ((List.range i).map fun i => (⟨((LV n l i : Nat) : Int), rgt n l i n⟩ : Iv)) (levelsL n (mir n l)) (levelsL n (mir n l)) (n : Int) (i : Int) (n : Int) l) n ?_ ?_
  · intro i hi next
    refine Ev.step (fun _ => rfl) ?_
    simp only [Aap.l0, if_pos (show (i : Int) < (n : Int) by omega), if_pos (show (0 : Int) ≤ (i : Int) by omega), hlen, levelsL_rd i hi]
    refine Ev.up (fun j k => Aap.l1 k ((List.range i).map fun i => (⟨((LV n l i : Nat) : Int), rgt n l i n⟩ : Iv)) (levelsL n (mir n l)) (i : Int) ((LV n l i : Nat) : Int) (rgt n l i j) (levelsL n (mir n l)) (n : Int) (i : Int) (levelsL n (mir n l)) (n : Int) (j : Int) (n : Int) l) n ?_ ?_
    · intro j hj next
      refine Ev.step (fun _ => rfl) ?_
      simp only [Aap.l1, if_pos (show (j : Int) < (n : Int) by omega), if_pos (show (0 : Int) ≤ (j : Int) by omega), hlen, better_eq h _ i j hi (by omega), Option.bind_some, levelsL_rd j hj, next64 j n hj (by omega)]
      rw [rgt] at next
      cases hb : B l i j with
      | true => rw [hb, if_pos rfl] at next; simp only [if_true]; exact next
      | false => rw [hb, if_neg (by simp)] at next; simp only [Bool.false_eq_true, if_false]; exact next
    · refine Ev.step (fun _ => rfl) ?_
      simp only [Aap.l1, if_neg (show ¬ (n : Int) < (n : Int) by omega), List.length_map, List.length_range, if_pos (show i < 8796093022208 by omega), next64 i n hi (by omega)]
      simpa [List.range_succ] using next
  · refine Ev.step (fun _ => rfl) ?_
    simp only [Aap.l0, if_neg (show ¬ (n : Int) < (n : Int) by omega)]
    exact Ev.now _
theorem l1Most_eq (a b : Int) : Ab2.f a b = some (mx a b) := by
  unfold Ab2.f mx
  by_cases c : a > b
  · rw [if_pos c, if_neg (by omega)]
  · rw [if_neg c]
    by_cases c2 : a < b
    · rw [if_pos c2]
    · rw [if_neg c2, show a = b by omega]
theorem ivEnds_ev {n : Nat} {l : List Int} (h : Rel n l) : Ev (fun k => Aa1.f k (n : Int) l) (endsL n l) := by
  have hn := h.le
  have hlen : (levelsL n (mir n l)).length = n := by simp [levelsL]
  unfold Aa1.f
  refine Ev.bind (ivLevels_ev h) ?_
  rw [hlen]
  refine Ev.up (fun i k => Aa1.l0 k (levelsL n (mir n l)) ((List.range i).map fun i => (⟨((LV n l i : Nat) : Int), rgt n l i n⟩ : Iv)) (levelsL n (mir n l)) (n : Int) (i : Int) (n : Int) l) n ?_ ?_
  · intro i hi next
    refine Ev.step (fun _ => rfl) ?_
    simp only [Aa1.l0, if_pos (show (i : Int) < (n : Int) by omega), if_pos (show (0 : Int) ≤ (i : Int) by omega), hlen, levelsL_rd i hi]
    refine Ev.up (fun j k => Aa1.l1 k (levelsL n (mir n l)) ((List.range i).map fun i => (⟨((LV n l i : Nat) : Int), rgt n l i n⟩ : Iv)) (i : Int) (levelsL n (mir n l)) (n : Int) (i : Int) (levelsL n (mir n l)) (n : Int) (j : Int) (n : Int) l ((LV n l i : Nat) : Int) (rgt n l i j)) n ?_ ?_
    · intro j hj next
      refine Ev.step (fun _ => rfl) ?_
      simp only [Aa1.l1, if_pos (show (j : Int) < (n : Int) by omega), if_pos (show (0 : Int) ≤ (j : Int) by omega), if_pos (show (0 : Int) ≤ (i : Int) by omega), if_pos (show (i : Int) < (n : Int) by omega), hlen, h.len, h.rd, orHas_eq _ j (by omega), Option.bind_some, levelsL_rd j hj, l1Most_eq, next64 j n hj (by omega)]
      rw [show (row l i).testBit j = B l i j from rfl]
      rw [rgt] at next
      cases hb : B l i j with
      | true => rw [hb, if_pos rfl] at next; simp only [if_true]; exact next
      | false => rw [hb, if_neg (by simp)] at next; simp only [Bool.false_eq_true, if_false]; exact next
    · refine Ev.step (fun _ => rfl) ?_
      simp only [Aa1.l1, if_neg (show ¬ (n : Int) < (n : Int) by omega), List.length_map, List.length_range, if_pos (show i < 8796093022208 by omega), next64 i n hi (by omega)]
      simpa [List.range_succ] using next
  · refine Ev.step (fun _ => rfl) ?_
    simp only [Aa1.l0, if_neg (show ¬ (n : Int) < (n : Int) by omega)]
    exact Ev.now _
def endsOf (n : Int) (l : List Int) : List Iv × Bool := if isInt n l then (endsL n.toNat l, true) else ([], false)
theorem isInt_ord {n : Int} {l : List Int} (h : isInt n l = true) : isOrd n l = true := by
  unfold isInt at h
  rw [Bool.and_eq_true] at h
  exact h.1
theorem EndsOf_ev (n : Int) (l : List Int) (hl : l.length ≤ 140737488355328) : Ev (fun k => Ab1.f k n l) (endsOf n l) := by
  unfold Ab1.f endsOf
  refine Ev.bind (isInterval_ev n l hl) ?_
  cases hs : isInt n l with
  | false => simp only [Bool.false_eq_true, if_false]; exact Ev.now _
  | true =>
    obtain ⟨n, rfl, o⟩ := isOrd_iff.1 (isInt_ord hs)
    simp only [if_true, Int.toNat_natCast]
    exact Ev.bind (ends_ev o.toRel) (Ev.now _)
section
variable {n : Nat} {l : List Int}
theorem LV_rank (h : Rel n l) (h22 : no22 n l = true) (i : Nat) (hi : i < n) : LV n l i = rank (mir n l) ((row (mir n l) i : Nat) : Int) := by
  have hm := mir_rel h
  have hbit : ∀ a x, (row (mir n l) a).testBit x = B l x a := fun a x => mir_B h a x
  have h22' : ∀ a b c d, hit22 l a b c d = false := by
    intro a b c d
    cases hc : hit22 l a b c d with
    | false => rfl
    | true =>
      have hc' := hc
      unfold hit22 at hc'
      rw [Bool.and_eq_true, Bool.and_eq_true] at hc'
      rw [no22_iff.1 h22 a (h.B_lt' hc'.1) b (h.B_lt hc'.1) c (h.B_lt' hc'.2.1) d (h.B_lt hc'.2.1)] at hc
      cases hc
  have := levels_rank n (row (mir n l)) (fun i => ((row (mir n l) i : Nat) : Int)) ?_ ?_ i hi
  · rw [← hm.rows] at this
    exact this
  · intro a b _ _ hab
    refine ⟨?_, by omega⟩
    refine Classical.byContradiction fun hne => ?_
    obtain ⟨x, hx1, hx2⟩ : ∃ x, (row (mir n l) a).testBit x = true ∧ (row (mir n l) b).testBit x = false := by
      refine Classical.byContradiction fun hno => hne ((diff_zero _ _).2 fun x hx => ?_)
      cases hb : (row (mir n l) b).testBit x with
      | true => rfl
      | false => exact (hno ⟨x, hx, hb⟩).elim
    rw [hbit] at hx1 hx2
    have hsub := semi_below h22' hx1 hx2
    have : diff (row (mir n l) b) (row (mir n l) a) = 0 := by
      rw [diff_zero]
      intro k hk
      rw [hbit] at hk ⊢
      exact hsub k hk
    have := diff_le this
    omega
  · intro a b _ _ hab
    omega
theorem mir_mem (h : Rel n l) (i : Nat) (hi : i < n) : ((row (mir n l) i : Nat) : Int) ∈ mir n l := by
  have hm := mir_rel h
  rw [← hm.getD]
  have : i < (mir n l).length := by rw [hm.len]; exact hi
  simp [this]
theorem mir_of_mem (h : Rel n l) {z : Int} (hz : z ∈ mir n l) : ∃ k, k < n ∧ z = ((row (mir n l) k : Nat) : Int) := by
  rw [(mir_rel h).rows] at hz
  obtain ⟨k, hk, e⟩ := List.mem_map.1 hz
  exact ⟨k, List.mem_range.1 hk, e.symm⟩
theorem LV_lt (h : Rel n l) (h22 : no22 n l = true) (i j : Nat) (hi : i < n) (hj : j < n) : LV n l i < LV n l j ↔ row (mir n l) i < row (mir n l) j := by
  rw [LV_rank h h22 i hi, LV_rank h h22 j hj, rank_lt_iff (mir_mem h i hi) (mir_mem h j hj)]
  omega
theorem LV_of (h : Rel n l) (h22 : no22 n l = true) (i j x : Nat) (hi : i < n) (hj : j < n) (h1 : B l x j = true) (h2 : B l x i = false) : LV n l i < LV n l j := by
  have hbit : ∀ a x, (row (mir n l) a).testBit x = B l x a := fun a x => mir_B h a x
  refine Classical.byContradiction fun hno => ?_
  have hle : LV n l j ≤ LV n l i := by omega
  have h3 : row (mir n l) j ≤ row (mir n l) i := by
    have := LV_lt h h22 i j hi hj
    omega
  have h22' : ∀ k, B l k i = true → B l k j = true := by
    intro k hk
    cases hb : B l k j with
    | true => rfl
    | false =>
      have := no22_iff.1 h22 k (h.B_lt' hk) i hi x (h.B_lt' h1) j hj
      simp [hit22, h1, h2, hk, hb] at this
  have h4 : diff (row (mir n l) i) (row (mir n l) j) = 0 := by
    rw [diff_zero]
    intro k hk
    rw [hbit] at hk ⊢
    exact h22' k hk
  have h5 := diff_le h4
  have h6 : row (mir n l) i = row (mir n l) j := by omega
  have := hbit i x
  rw [h6, hbit, h1, h2] at this
  cases this
theorem mx_lt (a b y : Int) : mx a b < y ↔ a < y ∧ b < y := by
  unfold mx
  split <;> omega
theorem rgt_lt (i j : Nat) (y : Int) : rgt n l i j < y ↔ ((LV n l i : Nat) : Int) < y ∧ ∀ k, k < j → B l i k = false → ((LV n l k : Nat) : Int) < y := by
  induction j with
  | zero => simp [rgt]
  | succ j ih =>
    rw [rgt]
    cases hb : B l i j with
    | true =>
      rw [if_pos rfl, ih]
      constructor
      · rintro ⟨h1, h2⟩
        refine ⟨h1, fun k hk hbk => ?_⟩
        by_cases e : k = j
        · rw [e, hb] at hbk; cases hbk
        · exact h2 k (by omega) hbk
      · rintro ⟨h1, h2⟩
        exact ⟨h1, fun k hk => h2 k (by omega)⟩
    | false =>
      rw [if_neg (by simp), mx_lt, ih]
      constructor
      · rintro ⟨⟨h1, h2⟩, h3⟩
        refine ⟨h1, fun k hk hbk => ?_⟩
        by_cases e : k = j
        · rw [e]; exact h3
        · exact h2 k (by omega) hbk
      · rintro ⟨h1, h2⟩
        exact ⟨⟨h1, fun k hk => h2 k (by omega)⟩, h2 j (by omega) hb⟩
theorem ends_rep (o : Ord n l) (h22 : no22 n l = true) (i j : Nat) (hi : i < n) (hj : j < n) : rgt n l i n < ((LV n l j : Nat) : Int) ↔ B l i j = true := by
  have h := o.toRel
  rw [rgt_lt]
  constructor
  · rintro ⟨_, H⟩
    cases hb : B l i j with
    | true => rfl
    | false => have := H j hj hb; omega
  · intro hb
    have key : ∀ k, k < n → B l i k = false → ((LV n l k : Nat) : Int) < ((LV n l j : Nat) : Int) := by
      intro k hk hbk
      have := LV_of h h22 k j i hk hj hb hbk
      omega
    exact ⟨key i hi (o.irr i), key⟩
theorem endsL_f0 (i : Nat) (hi : i < n) : Lf (endsL n l) i = ((LV n l i : Nat) : Int) := by simp [Lf, endsL, hi]
theorem endsL_f1 (i : Nat) (hi : i < n) : Rt (endsL n l) i = rgt n l i n := by simp [Rt, endsL, hi]
end
end Go.Proofs.YtimjblnglhmakaaDoor.M
namespace Go.Proofs.YtimjblnglhmakaaDoor.P
open Go.RowKit Go.Proofs.YtimjblnglhmakaaDoorW.PrintWords Go.Proofs.YtimjblnglhmakaaDoorW.PrintLast Go.Proofs.YtimjblnglhmakaaDoorW.PrintMore
open Bool renaming true → T, false → F
open List renaming setIfInBounds_toArray → L_, set_cons_zero → M_, set_cons_succ → N_, map_toArray → P_, map_cons → Q_, map_nil → R_, length_drop → S_, length_take → U_
open Aside0 renaming mk → A_
attribute [local go_sem] max2_int min2_int max_two min_two max_three min_three max_four min_four
set_option linter.unusedVariables false
set_option linter.unusedSimpArgs false
attribute [local go_sem] fldOrder_0 fldOrder_1
def Acx.j0 : Nat → List (S62) → Bool → Int → List Int → Option (Bool × Bool)
 | 0,_,_,_,_=>none
 | k + 1,x0,x13,x1292000,x1292001=>if x13 = true then (some (false,false)) else ((Acw.f k x0).bind fun bt1294=>((Acp.f k bt1294.1 bt1294.2 x1292000 x1292001).bind fun t1298=>(some (t1298,true))))
end Go.Proofs.YtimjblnglhmakaaDoor.P

