/- A part of the proof that the law FnPatterns holds at every input. Written by wip/pack.py: the kit's printed words that are used, the functions' walks as wip/gen.py prints them, and hand proofs. -/
import Derived.Test.YtfjpilcmjabikaaDoorKFnPatterns5
namespace Go.Proofs.YtfjpilcmjabikaaDoor.P
open Go.RowKit Go.Proofs.YtfjpilcmjabikaaDoorW.PrintWords Go.Proofs.YtfjpilcmjabikaaDoorW.PrintLast Go.Proofs.YtfjpilcmjabikaaDoorW.PrintMore
open Bool renaming true → T, false → F
open List renaming setIfInBounds_toArray → L_, set_cons_zero → M_, set_cons_succ → N_, map_toArray → P_, map_cons → Q_, map_nil → R_, length_drop → S_, length_take → U_
open Aside0 renaming mk → A_
attribute [local go_sem] max2_int min2_int max_two min_two max_three min_three max_four min_four
set_option linter.unusedVariables false
set_option linter.unusedSimpArgs false
attribute [local go_sem] fldOrder_0 fldOrder_1
mutual
def Aad.j0 : Nat → List Int → List Int → Bool → Bool → Int → List Int → Int → List Int → Option (Bool)
 | 0,_,_,_,_,_,_,_,_=>none
 | k + 1,x1,x7,x10,x53,x689000,x689001,x690000,x690001=>if x53 = true then (some false) else (if x10 = true then (Aad.l0 k x1 x7 x7 (x7.length : Int) 0 x689000 x689001 x690000 x690001) else (Aad.j3 k x1))
def Aad.j3 : Nat → List Int → Option (Bool)
 | 0,_=>none
 | k + 1,x1=>(Aa0.f k x1).bind fun bt709=>((Aag.f k bt709.1 bt709.2.1 bt709.2.2).bind fun bt717=>((Aap.f k bt709.1 bt709.2.1 bt709.2.2).bind fun bt723=>(if (bt717.2.2 != bt723.2.2) = true then (Aad.j4 k bt709.2.2 bt717.2.2 true bt709.1 bt709.2.1 bt717.1 bt717.2.1) else ((Abk.f k bt717.1 bt717.2.1 bt723.1 bt723.2.1).bind fun t729=>(Aad.j4 k bt709.2.2 bt717.2.2 (!t729) bt709.1 bt709.2.1 bt717.1 bt717.2.1)))))
def Aad.j4 : Nat → List Int → Bool → Bool → Int → List Int → Int → List Int → Option (Bool)
 | 0,_,_,_,_,_,_,_=>none
 | k + 1,x16,x18,x126,x717000,x717001,x723000,x723001=>if x126 = true then (some false) else (if x18 = true then (Aad.l2 k x16 (x16.length : Int) 0 x717000 x717001 x723000 x723001) else (some true))
def Aad.l2 : Nat → List Int → Int → Int → Int → List Int → Int → List Int → Option (Bool)
 | 0,_,_,_,_,_,_,_=>none
 | k + 1,x16,x130,x131,x717000,x717001,x723000,x723001=>if x131 < x130 then (Aad.l3 k x16 x131 x130 x131 (x16.length : Int) 0 x717000 x717001 x723000 x723001) else ((Aa4.f k x717000 x717001 x723000 x723001).bind fun bt730=>(if (bt730.2 == (decide (x717000 ≤ 6))) = true then (some (bt730.1 == bt730.2)) else (some false)))
def Aad.l3 : Nat → List Int → Int → Int → Int → Int → Int → Int → List Int → Int → List Int → Option (Bool)
 | 0,_,_,_,_,_,_,_,_,_,_=>none
 | k + 1,x16,x21,x130,x131,x135,x136,x717000,x717001,x723000,x723001=>if x136 < x135 then (if 0 ≤ x21 then (if x21 < (x717001.length : Int) then ((Aax.f (rd x717001 x21) x136).bind fun t733=>(if x21 < (x16.length : Int) then (if 0 ≤ (rd x16 x21) then (if (rd x16 x21) < (x723001.length : Int) then (if 0 ≤ x136 then (if x136 < (x16.length : Int) then ((Aax.f (rd x723001 (rd x16 x21)) (rd x16 x136)).bind fun t737=>(if (t733 != t737) = true then (some false) else (Aad.l3 k x16 x21 x130 x131 x135 (wrap64 (x136 + 1)) x717000 x717001 x723000 x723001))) else (none)) else (none)) else (none)) else (none)) else (none))) else (none)) else (none)) else (Aad.l2 k x16 x130 (wrap64 (x131 + 1)) x717000 x717001 x723000 x723001)
def Aad.l0 : Nat → List Int → List Int → List Int → Int → Int → Int → List Int → Int → List Int → Option (Bool)
 | 0,_,_,_,_,_,_,_,_,_=>none
 | k + 1,x1,x7,x55,x56,x57,x689000,x689001,x690000,x690001=>if x57 < x56 then (if 0 ≤ x57 then (if x57 < (x55.length : Int) then (Aad.l1 k x1 x7 x57 (rd x55 x57) x55 x56 x57 x7 (x7.length : Int) 0 x689000 x689001 x690000 x690001) else (none)) else (none)) else (if (x7.length : Int) = x690000 then (Aad.j3 k x1) else (some false))
def Aad.l1 : Nat → List Int → List Int → Int → Int → List Int → Int → Int → List Int → Int → Int → Int → List Int → Int → List Int → Option (Bool)
 | 0,_,_,_,_,_,_,_,_,_,_,_,_,_,_=>none
 | k + 1,x1,x7,x11,x12,x55,x56,x57,x62,x63,x64,x689000,x689001,x690000,x690001=>if x64 < x63 then (if 0 ≤ x64 then (if x64 < (x62.length : Int) then (if x11 = x64 then (if 0 ≤ x12 then (if x12 < (x689001.length : Int) then ((Aax.f (rd x689001 x12) (rd x62 x64)).bind fun t702=>(if 0 ≤ x11 then (if x11 < (x690001.length : Int) then ((Aax.f (rd x690001 x11) x64).bind fun t704=>(if (t702 != t704) = true then (some false) else (Aad.l1 k x1 x7 x11 x12 x55 x56 x57 x62 x63 (wrap64 (x64 + 1)) x689000 x689001 x690000 x690001))) else (none)) else (none))) else (none)) else (none)) else (if x12 = (rd x62 x64) then (some false) else (if 0 ≤ x12 then (if x12 < (x689001.length : Int) then ((Aax.f (rd x689001 x12) (rd x62 x64)).bind fun t706=>(if 0 ≤ x11 then (if x11 < (x690001.length : Int) then ((Aax.f (rd x690001 x11) x64).bind fun t708=>(if (t706 != t708) = true then (some false) else (Aad.l1 k x1 x7 x11 x12 x55 x56 x57 x62 x63 (wrap64 (x64 + 1)) x689000 x689001 x690000 x690001))) else (none)) else (none))) else (none)) else (none)))) else (none)) else (none)) else (Aad.l0 k x1 x7 x55 x56 (wrap64 (x57 + 1)) x689000 x689001 x690000 x690001)
end
def Aad.f (k : Nat) (l0 : List Int) (l1 : List Int) : Option (Bool) := (Abo.f l0 l1).bind fun t679 => (if t679 = true then (some true) else ((Aah.f k l0).bind fun bt680 => ((Aa5.f k bt680.1 bt680.2.1 bt680.2.2.1 bt680.2.2.2).bind fun bt690 => ((Abh.f k bt680.1 bt680.2.1 bt680.2.2.1 bt680.2.2.2).bind fun bt694 => (if (bt690.2 != bt694.2) = true then (Aad.j0 k l1 bt690.1 bt694.2 true bt680.1 bt680.2.1 bt680.2.2.1 bt680.2.2.2) else ((Aa7.f k bt690.1 bt694.1).bind fun t698 => (Aad.j0 k l1 bt690.1 bt694.2 (!t698) bt680.1 bt680.2.1 bt680.2.2.1 bt680.2.2.2)))))))
set_option maxHeartbeats 8000000 in
set_option maxRecDepth 100000 in
theorem Aad.calls (k : Nat) (A0 : Option Addr) (c0 : Nat) (l0 : List Int) (A1 : Option Addr) (c1 : Nat) (l1 : List Int) (r : Bool) (w : World) (hr0 : Kd.C (Kd.int .u8) w A0 l0.length l0) (hc0 : l0.length ≤ c0) (hr1 : Kd.C (Kd.int .u8) w A1 l1.length l1) (hc1 : l1.length ≤ c1) (hT : TabOK w) (h : Aad.f k l0 l1 = some r) :
 Calls Tryd.prog 5 #[.slice A0 l0.length c0,.slice A1 l1.length c1] w fun e w'=>e = .returned (.bool r) ∧ Below w.heap.size w w':=by
 have hu26:=Tryd.underlying26;have HT:=A_ hT;clear hT;have HR0:=A_ hr0;have HC0:=A_ hc0;clear hr0 hc0;have HR1:=A_ hr1;have HC1:=A_ hc1;clear hr1 hc1;have HB:=A_ (Below.refl w.heap.size w);have H : ((Abo.f l0 l1).bind fun Eh=>(if Eh = true then (some true) else ((Aah.f k l0).bind fun Ci=>((Aa5.f k Ci.1 Ci.2.1 Ci.2.2.1 Ci.2.2.2).bind fun D6=>((Abh.f k Ci.1 Ci.2.1 Ci.2.2.1 Ci.2.2.2).bind fun D7=>(if (D6.2 != D7.2) = true then (Aad.j0 k l1 D6.1 D7.2 true Ci.1 Ci.2.1 Ci.2.2.1 Ci.2.2.2) else ((Aa7.f k D6.1 D7.1).bind fun Dx=>(Aad.j0 k l1 D6.1 D7.2 (!Dx) Ci.1 Ci.2.1 Ci.2.2.1 Ci.2.2.2)))))))) = some r:=h;clear h;replace H:=Option.bind_eq_some_iff.mp H;obtain ⟨Eh,A30,H⟩:=H;(try dsimp only at H);have A3:=A_ A30;clear A30;by_cases c4 : Eh = true
 ·subst c4;rw [if_pos rfl] at H;obtain rfl:=Option.some.inj H;go_enter Tryd.func5,Tryd.ntmps5
  go_wp2_with (first|(go_at_call 9;(with_reducible refine (Abo.calls _ _ l0 _ _ l1 true _ ?side1 ?side2 ?side3 ?side4 A3.1).mono ?_);(case side1=>repeat (first|exact HR0.1|(with_reducible refine Kd.C_alloc ?_ _)|(with_reducible refine Kd.C_drewN ?_ _)|(with_reducible refine Kd.C_drew ?_)));(case side2=>exact HC0.1);(case side3=>repeat (first|exact HR1.1|(with_reducible refine Kd.C_alloc ?_ _)|(with_reducible refine Kd.C_drewN ?_ _)|(with_reducible refine Kd.C_drew ?_)));(case side4=>exact HC1.1);rintro e w' ⟨rfl,⟨nd,rfl⟩⟩;(try first|exact ⟨rfl,_,World.drewN_drewN _ _ _⟩|exact ⟨rfl,_,Eq.trans (World.drewN_drewN _ _ _) (congrArg (World.drewN _) (Nat.add_assoc _ _ _))⟩)))
  repeat (go_quiet (first|(go_at_call 9;(with_reducible refine (Abo.calls _ _ l0 _ _ l1 true _ ?side1 ?side2 ?side3 ?side4 A3.1).mono ?_);(case side1=>repeat (first|exact HR0.1|(with_reducible refine Kd.C_alloc ?_ _)|(with_reducible refine Kd.C_drewN ?_ _)|(with_reducible refine Kd.C_drew ?_)));(case side2=>exact HC0.1);(case side3=>repeat (first|exact HR1.1|(with_reducible refine Kd.C_alloc ?_ _)|(with_reducible refine Kd.C_drewN ?_ _)|(with_reducible refine Kd.C_drew ?_)));(case side4=>exact HC1.1);rintro e w' ⟨rfl,⟨nd,rfl⟩⟩;(try first|exact ⟨rfl,_,World.drewN_drewN _ _ _⟩|exact ⟨rfl,_,Eq.trans (World.drewN_drewN _ _ _) (congrArg (World.drewN _) (Nat.add_assoc _ _ _))⟩)));try go_wp2_with (first|(go_at_call 9;(with_reducible refine (Abo.calls _ _ l0 _ _ l1 true _ ?side1 ?side2 ?side3 ?side4 A3.1).mono ?_);(case side1=>repeat (first|exact HR0.1|(with_reducible refine Kd.C_alloc ?_ _)|(with_reducible refine Kd.C_drewN ?_ _)|(with_reducible refine Kd.C_drew ?_)));(case side2=>exact HC0.1);(case side3=>repeat (first|exact HR1.1|(with_reducible refine Kd.C_alloc ?_ _)|(with_reducible refine Kd.C_drewN ?_ _)|(with_reducible refine Kd.C_drew ?_)));(case side4=>exact HC1.1);rintro e w' ⟨rfl,⟨nd,rfl⟩⟩;(try first|exact ⟨rfl,_,World.drewN_drewN _ _ _⟩|exact ⟨rfl,_,Eq.trans (World.drewN_drewN _ _ _) (congrArg (World.drewN _) (Nat.add_assoc _ _ _))⟩))))
  go_ret
  exact ⟨by first|rfl|(simp [errW_none,errW_some] <;> rfl)|(simp [*,errW_none,errW_some] <;> rfl),bb_⟩
 ·replace c4:=Bool.eq_false_iff.mpr c4;subst c4;rw [if_neg nf_] at H;replace H:=Option.bind_eq_some_iff.mp H;obtain ⟨⟨Ba,Ag,A9,Ae⟩,A50,H⟩:=H;(try dsimp only at H);have A5:=A_ A50;clear A50;replace H:=Option.bind_eq_some_iff.mp H;obtain ⟨⟨Ai,C4⟩,A60,H⟩:=H;(try dsimp only at H);have A6:=A_ A60;clear A60;replace H:=Option.bind_eq_some_iff.mp H;obtain ⟨⟨Dy,C0⟩,A70,H⟩:=H;(try dsimp only at H);have A7:=A_ A70;clear A70;have HC8:=A_ H;clear H;go_enter Tryd.func5,Tryd.ntmps5
  go_upto_region 6 with (first|(go_at_call 9;(with_reducible refine (Abo.calls _ _ l0 _ _ l1 false _ ?side1 ?side2 ?side3 ?side4 A3.1).mono ?_);(case side1=>repeat (first|exact HR0.1|(with_reducible refine Kd.C_alloc ?_ _)|(with_reducible refine Kd.C_drewN ?_ _)|(with_reducible refine Kd.C_drew ?_)));(case side2=>exact HC0.1);(case side3=>repeat (first|exact HR1.1|(with_reducible refine Kd.C_alloc ?_ _)|(with_reducible refine Kd.C_drewN ?_ _)|(with_reducible refine Kd.C_drew ?_)));(case side4=>exact HC1.1);rintro e w' ⟨rfl,⟨nd,rfl⟩⟩;(try first|exact ⟨rfl,_,World.drewN_drewN _ _ _⟩|exact ⟨rfl,_,Eq.trans (World.drewN_drewN _ _ _) (congrArg (World.drewN _) (Nat.add_assoc _ _ _))⟩))|(go_at_call 22;(with_reducible refine (Aah.calls k _ _ l0 Ba Ag A9 Ae _ ?side1 ?side2 A5.1).mono ?_);(case side1=>repeat (first|exact HR0.1|(with_reducible refine Kd.C_alloc ?_ _)|(with_reducible refine Kd.C_drewN ?_ _)|(with_reducible refine Kd.C_drew ?_)));(case side2=>exact HC0.1);rintro e w9 ⟨E1,E2,rfl,ho0,ho1,hb⟩;have Ay:=A_ (Kd.R_lower ho0 (below_size bb_));have Az:=A_ (Kd.R_lower ho1 (below_size bb_));replace HB:=A_ (below_step bb_ hb);(try clear hb);(try clear hb2);(try clear hk);(try clear hi);(try clear ho0);(try clear ho1))|((with_reducible refine gate_dst (N:=5) rfl ?_);refine box_event ?hg (N:=5) ?hd (cs:=#[.int .i64 0,.slice none 0 0]) (t:=26) ?hr ?_;(case hd=>rfl);(case hg=>rfl);(case hr=>go_simp;try rfl);intro As hg w10 hbox hb;replace Ay:=rb_ Ay hb;replace Az:=rb_ Az hb;have Ac:=A_ (hbox);have El:=A_ (gw_ (w:=w) hg bb_);have Em:=A_ (gw_ (w:=w) hg bb_);replace HB:=A_ (below_step bb_ hb);clear hb hbox hg)|((with_reducible refine gate_dst (N:=6) rfl ?_);refine box_event ?hg (N:=6) ?hd (cs:=#[.int .i64 0,.slice none 0 0]) (t:=26) ?hr ?_;(case hd=>rfl);(case hg=>rfl);(case hr=>go_simp;try rfl);intro At hg w11 hbox hb;replace Ay:=rb_ Ay hb;replace Az:=rb_ Az hb;have Ad:=A_ (hbox);have En:=A_ (gw_ (w:=w) hg bb_);have Eo:=A_ (gw_ (w:=w) hg bb_);replace HB:=A_ (below_step bb_ hb);have Bi:=A_ (nl_ hg Ac);have Bj:=A_ (ng_ hg Ac);replace Ac:=bz Ac hb;clear hb hbox hg;have Z:=Bi.1;have Z:=Bj.1;obtain ⟨Z,Z,Z,Z⟩:=o2_ Ac.1;obtain ⟨Ao14,co14,eo14⟩:=Kd.R_slice Ay.1;subst eo14;obtain ⟨Z,Z,Z,Z⟩:=o2_ Ad.1;obtain ⟨Ao16,co16,eo16⟩:=Kd.R_slice Az.1;subst eo16)|(go_at_call 23;(with_reducible refine (Aa5.calls k Ba _ _ Ag A9 _ _ Ae Ai C4 _ ?side1 ?side2 ?side3 ?side4 A6.1).mono ?_);(case side1=>refine (Kd.R_reads' (e:=3) (base:=w.heap.size) (ok:=fun k_=>some k_ ≠ (.slice Ao16 Ae.length co16 : Value).ownBlock) (n:=Ag.length) (c:=co14) ?_).2.2;exact (rq_ (Kd.R_mono (Kd.R_mono (Kd.R_far (p:=⟨At,1,none⟩) (Kd.R_far (p:=⟨At,0,none⟩) (Kd.R_far (p:=⟨As,1,none⟩) (Kd.R_far (p:=⟨As,0,none⟩) (Kd.R_types (Kd.R_types Ay.1 Ac.1 (by decide)) Ad.1 (by decide)) (fun _ hk=>hk.1.2) (.int .i64 Ba)) (fun _ hk=>hk.1.2) (.slice Ao14 Ag.length co14)) (fun _ hk=>hk.2) (.int .i64 A9)) (fun _ hk=>hk.2) (.slice Ao16 Ae.length co16)) (fun _ h_=>h_.1)) (fun _ h_=>h_.1))));(case side2=>exact (Kd.R_reads' Ay.1).2.1);(case side3=>refine (Kd.R_reads' (e:=3) (base:=w.heap.size) (ok:=fun k_=>some k_ ≠ (.slice Ao14 Ag.length co14 : Value).ownBlock) (n:=Ae.length) (c:=co16) ?_).2.2;exact (rq_ (Kd.R_mono (Kd.R_mono (Kd.R_far (p:=⟨At,1,none⟩) (Kd.R_far (p:=⟨At,0,none⟩) (Kd.R_far (p:=⟨As,1,none⟩) (Kd.R_far (p:=⟨As,0,none⟩) (Kd.R_types (Kd.R_types Az.1 Ac.1 (by decide)) Ad.1 (by decide)) (fun _ hk=>hk.1.2) (.int .i64 Ba)) (fun _ hk=>hk.1.2) (.slice Ao14 Ag.length co14)) (fun _ hk=>hk.2) (.int .i64 A9)) (fun _ hk=>hk.2) (.slice Ao16 Ae.length co16)) (fun _ h_=>h_.1)) (fun _ h_=>h_.1))));(case side4=>exact (Kd.R_reads' Az.1).2.1);rintro e w17 ⟨D8,rfl,ho0,hb⟩;have Bx:=A_ (Kd.R_lower (Kd.R_new' (Kd.R_new' ho0 (Kd.R_lt (rq_ (Kd.R_mono (Kd.R_mono (Kd.R_far (p:=⟨At,1,none⟩) (Kd.R_far (p:=⟨At,0,none⟩) (Kd.R_far (p:=⟨As,1,none⟩) (Kd.R_far (p:=⟨As,0,none⟩) (Kd.R_types (Kd.R_types Ay.1 Ac.1 (by decide)) Ad.1 (by decide)) (fun _ hk=>hk.1.2) (.int .i64 Ba)) (fun _ hk=>hk.1.2) (.slice Ao14 Ag.length co14)) (fun _ hk=>hk.2) (.int .i64 A9)) (fun _ hk=>hk.2) (.slice Ao16 Ae.length co16)) (fun _ h_=>h_.1)) (fun _ h_=>h_.1))))) (Kd.R_lt (rq_ (Kd.R_mono (Kd.R_mono (Kd.R_far (p:=⟨At,1,none⟩) (Kd.R_far (p:=⟨At,0,none⟩) (Kd.R_far (p:=⟨As,1,none⟩) (Kd.R_far (p:=⟨As,0,none⟩) (Kd.R_types (Kd.R_types Az.1 Ac.1 (by decide)) Ad.1 (by decide)) (fun _ hk=>hk.1.2) (.int .i64 Ba)) (fun _ hk=>hk.1.2) (.slice Ao14 Ag.length co14)) (fun _ hk=>hk.2) (.int .i64 A9)) (fun _ hk=>hk.2) (.slice Ao16 Ae.length co16)) (fun _ h_=>h_.1)) (fun _ h_=>h_.1))))) (below_size bb_));replace Ay:=A_ (Kd.R_elder' (rq_ (Kd.R_mono (Kd.R_mono (Kd.R_far (p:=⟨At,1,none⟩) (Kd.R_far (p:=⟨At,0,none⟩) (Kd.R_far (p:=⟨As,1,none⟩) (Kd.R_far (p:=⟨As,0,none⟩) (Kd.R_types (Kd.R_types Ay.1 Ac.1 (by decide)) Ad.1 (by decide)) (fun _ hk=>hk.1.2) (.int .i64 Ba)) (fun _ hk=>hk.1.2) (.slice Ao14 Ag.length co14)) (fun _ hk=>hk.2) (.int .i64 A9)) (fun _ hk=>hk.2) (.slice Ao16 Ae.length co16)) (fun _ h_=>h_.1)) (fun _ h_=>h_.1))) (Kd.R_base ho0) hb);replace Az:=A_ (Kd.R_elder' (rq_ (Kd.R_mono (Kd.R_mono (Kd.R_far (p:=⟨At,1,none⟩) (Kd.R_far (p:=⟨At,0,none⟩) (Kd.R_far (p:=⟨As,1,none⟩) (Kd.R_far (p:=⟨As,0,none⟩) (Kd.R_types (Kd.R_types Az.1 Ac.1 (by decide)) Ad.1 (by decide)) (fun _ hk=>hk.1.2) (.int .i64 Ba)) (fun _ hk=>hk.1.2) (.slice Ao14 Ag.length co14)) (fun _ hk=>hk.2) (.int .i64 A9)) (fun _ hk=>hk.2) (.slice Ao16 Ae.length co16)) (fun _ h_=>h_.1)) (fun _ h_=>h_.1))) (Kd.R_base ho0) hb);replace Ac:=A_ (blk_below (g:=As) (o:=.cells #[.int .i64 Ba,.slice Ao14 Ag.length co14] 26 (0,0)) (by (with_reducible repeat (first|refine blk_drewN ?_ _|refine blk_drew ?_|refine blk_alloc ?_ _));refine blk_far ?_ Bi.1 _;(with_reducible repeat (first|refine blk_drewN ?_ _|refine blk_drew ?_|refine blk_alloc ?_ _));refine blk_far ?_ Bi.1 _;(with_reducible repeat (first|refine blk_drewN ?_ _|refine blk_drew ?_|refine blk_alloc ?_ _));refine blk_put (cs:=#[.int .i64 Ba,.slice none 0 0]) ?_ 1 _ rfl;(with_reducible repeat (first|refine blk_drewN ?_ _|refine blk_drew ?_|refine blk_alloc ?_ _));refine blk_put (cs:=#[.int .i64 0,.slice none 0 0]) ?_ 0 _ rfl;(with_reducible repeat (first|refine blk_drewN ?_ _|refine blk_drew ?_|refine blk_alloc ?_ _));exact Ac.1) hb);replace Ad:=A_ (blk_below (g:=At) (o:=.cells #[.int .i64 A9,.slice Ao16 Ae.length co16] 26 (0,0)) (by (with_reducible repeat (first|refine blk_drewN ?_ _|refine blk_drew ?_|refine blk_alloc ?_ _));refine blk_put (cs:=#[.int .i64 A9,.slice none 0 0]) ?_ 1 _ rfl;(with_reducible repeat (first|refine blk_drewN ?_ _|refine blk_drew ?_|refine blk_alloc ?_ _));refine blk_put (cs:=#[.int .i64 0,.slice none 0 0]) ?_ 0 _ rfl;(with_reducible repeat (first|refine blk_drewN ?_ _|refine blk_drew ?_|refine blk_alloc ?_ _));refine blk_far ?_ Bj.1 _;(with_reducible repeat (first|refine blk_drewN ?_ _|refine blk_drew ?_|refine blk_alloc ?_ _));refine blk_far ?_ Bj.1 _;(with_reducible repeat (first|refine blk_drewN ?_ _|refine blk_drew ?_|refine blk_alloc ?_ _));exact Ad.1) hb);replace HB:=A_ (below_step bb_ hb);(try clear hb);(try clear hb2);(try clear hk);(try clear hi);(try clear ho0);obtain ⟨Z,Z,Z,Z⟩:=o2_ Ac.1;obtain ⟨Z,Z,Z,Z⟩:=o2_ Ad.1)|(go_at_call 24;(with_reducible refine (Abh.calls k Ba _ _ Ag A9 _ _ Ae Dy C0 _ ?side1 ?side2 ?side3 ?side4 A7.1).mono ?_);(case side1=>exact cl_ (Kd.R_reads' Ay.1).2.2);(case side2=>exact (Kd.R_reads' Ay.1).2.1);(case side3=>exact cl_ (Kd.R_reads' Az.1).2.2);(case side4=>exact (Kd.R_reads' Az.1).2.1);rintro e w20 ⟨E3,rfl,ho0,hb⟩;have C2:=A_ (Kd.R_lower (Kd.R_new' (Kd.R_new' (Kd.R_new' ho0 (Kd.R_lt (rl_ Ay))) (Kd.R_lt (rl_ Az))) (Kd.R_lt (rl_ Bx))) (below_size bb_));replace Ay:=A_ (Kd.R_elder' (rl_ Ay) (Kd.R_base ho0) hb);replace Az:=A_ (Kd.R_elder' (rl_ Az) (Kd.R_base ho0) hb);replace Bx:=A_ (Kd.R_elder' (rl_ Bx) (Kd.R_base ho0) hb);replace Ac:=bz Ac hb;replace Ad:=bz Ad hb;replace HB:=A_ (below_step bb_ hb);(try clear hb);(try clear hb2);(try clear hk);(try clear hi);(try clear ho0)))
  repeat (go_quiet (first|(go_at_call 9;(with_reducible refine (Abo.calls _ _ l0 _ _ l1 false _ ?side1 ?side2 ?side3 ?side4 A3.1).mono ?_);(case side1=>repeat (first|exact HR0.1|(with_reducible refine Kd.C_alloc ?_ _)|(with_reducible refine Kd.C_drewN ?_ _)|(with_reducible refine Kd.C_drew ?_)));(case side2=>exact HC0.1);(case side3=>repeat (first|exact HR1.1|(with_reducible refine Kd.C_alloc ?_ _)|(with_reducible refine Kd.C_drewN ?_ _)|(with_reducible refine Kd.C_drew ?_)));(case side4=>exact HC1.1);rintro e w' ⟨rfl,⟨nd,rfl⟩⟩;(try first|exact ⟨rfl,_,World.drewN_drewN _ _ _⟩|exact ⟨rfl,_,Eq.trans (World.drewN_drewN _ _ _) (congrArg (World.drewN _) (Nat.add_assoc _ _ _))⟩))|(go_at_call 22;(with_reducible refine (Aah.calls k _ _ l0 Ba Ag A9 Ae _ ?side1 ?side2 A5.1).mono ?_);(case side1=>repeat (first|exact HR0.1|(with_reducible refine Kd.C_alloc ?_ _)|(with_reducible refine Kd.C_drewN ?_ _)|(with_reducible refine Kd.C_drew ?_)));(case side2=>exact HC0.1);rintro e w9 ⟨E1,E2,rfl,ho0,ho1,hb⟩;have Ay:=A_ (Kd.R_lower ho0 (below_size bb_));have Az:=A_ (Kd.R_lower ho1 (below_size bb_));replace HB:=A_ (below_step bb_ hb);(try clear hb);(try clear hb2);(try clear hk);(try clear hi);(try clear ho0);(try clear ho1))|((with_reducible refine gate_dst (N:=5) rfl ?_);refine box_event ?hg (N:=5) ?hd (cs:=#[.int .i64 0,.slice none 0 0]) (t:=26) ?hr ?_;(case hd=>rfl);(case hg=>rfl);(case hr=>go_simp;try rfl);intro As hg w10 hbox hb;replace Ay:=rb_ Ay hb;replace Az:=rb_ Az hb;have Ac:=A_ (hbox);have El:=A_ (gw_ (w:=w) hg bb_);have Em:=A_ (gw_ (w:=w) hg bb_);replace HB:=A_ (below_step bb_ hb);clear hb hbox hg)|((with_reducible refine gate_dst (N:=6) rfl ?_);refine box_event ?hg (N:=6) ?hd (cs:=#[.int .i64 0,.slice none 0 0]) (t:=26) ?hr ?_;(case hd=>rfl);(case hg=>rfl);(case hr=>go_simp;try rfl);intro At hg w11 hbox hb;replace Ay:=rb_ Ay hb;replace Az:=rb_ Az hb;have Ad:=A_ (hbox);have En:=A_ (gw_ (w:=w) hg bb_);have Eo:=A_ (gw_ (w:=w) hg bb_);replace HB:=A_ (below_step bb_ hb);have Bi:=A_ (nl_ hg Ac);have Bj:=A_ (ng_ hg Ac);replace Ac:=bz Ac hb;clear hb hbox hg;have Z:=Bi.1;have Z:=Bj.1;obtain ⟨Z,Z,Z,Z⟩:=o2_ Ac.1;obtain ⟨Ao14,co14,eo14⟩:=Kd.R_slice Ay.1;subst eo14;obtain ⟨Z,Z,Z,Z⟩:=o2_ Ad.1;obtain ⟨Ao16,co16,eo16⟩:=Kd.R_slice Az.1;subst eo16)|(go_at_call 23;(with_reducible refine (Aa5.calls k Ba _ _ Ag A9 _ _ Ae Ai C4 _ ?side1 ?side2 ?side3 ?side4 A6.1).mono ?_);(case side1=>refine (Kd.R_reads' (e:=3) (base:=w.heap.size) (ok:=fun k_=>some k_ ≠ (.slice Ao16 Ae.length co16 : Value).ownBlock) (n:=Ag.length) (c:=co14) ?_).2.2;exact (rq_ (Kd.R_mono (Kd.R_mono (Kd.R_far (p:=⟨At,1,none⟩) (Kd.R_far (p:=⟨At,0,none⟩) (Kd.R_far (p:=⟨As,1,none⟩) (Kd.R_far (p:=⟨As,0,none⟩) (Kd.R_types (Kd.R_types Ay.1 Ac.1 (by decide)) Ad.1 (by decide)) (fun _ hk=>hk.1.2) (.int .i64 Ba)) (fun _ hk=>hk.1.2) (.slice Ao14 Ag.length co14)) (fun _ hk=>hk.2) (.int .i64 A9)) (fun _ hk=>hk.2) (.slice Ao16 Ae.length co16)) (fun _ h_=>h_.1)) (fun _ h_=>h_.1))));(case side2=>exact (Kd.R_reads' Ay.1).2.1);(case side3=>refine (Kd.R_reads' (e:=3) (base:=w.heap.size) (ok:=fun k_=>some k_ ≠ (.slice Ao14 Ag.length co14 : Value).ownBlock) (n:=Ae.length) (c:=co16) ?_).2.2;exact (rq_ (Kd.R_mono (Kd.R_mono (Kd.R_far (p:=⟨At,1,none⟩) (Kd.R_far (p:=⟨At,0,none⟩) (Kd.R_far (p:=⟨As,1,none⟩) (Kd.R_far (p:=⟨As,0,none⟩) (Kd.R_types (Kd.R_types Az.1 Ac.1 (by decide)) Ad.1 (by decide)) (fun _ hk=>hk.1.2) (.int .i64 Ba)) (fun _ hk=>hk.1.2) (.slice Ao14 Ag.length co14)) (fun _ hk=>hk.2) (.int .i64 A9)) (fun _ hk=>hk.2) (.slice Ao16 Ae.length co16)) (fun _ h_=>h_.1)) (fun _ h_=>h_.1))));(case side4=>exact (Kd.R_reads' Az.1).2.1);rintro e w17 ⟨D8,rfl,ho0,hb⟩;have Bx:=A_ (Kd.R_lower (Kd.R_new' (Kd.R_new' ho0 (Kd.R_lt (rq_ (Kd.R_mono (Kd.R_mono (Kd.R_far (p:=⟨At,1,none⟩) (Kd.R_far (p:=⟨At,0,none⟩) (Kd.R_far (p:=⟨As,1,none⟩) (Kd.R_far (p:=⟨As,0,none⟩) (Kd.R_types (Kd.R_types Ay.1 Ac.1 (by decide)) Ad.1 (by decide)) (fun _ hk=>hk.1.2) (.int .i64 Ba)) (fun _ hk=>hk.1.2) (.slice Ao14 Ag.length co14)) (fun _ hk=>hk.2) (.int .i64 A9)) (fun _ hk=>hk.2) (.slice Ao16 Ae.length co16)) (fun _ h_=>h_.1)) (fun _ h_=>h_.1))))) (Kd.R_lt (rq_ (Kd.R_mono (Kd.R_mono (Kd.R_far (p:=⟨At,1,none⟩) (Kd.R_far (p:=⟨At,0,none⟩) (Kd.R_far (p:=⟨As,1,none⟩) (Kd.R_far (p:=⟨As,0,none⟩) (Kd.R_types (Kd.R_types Az.1 Ac.1 (by decide)) Ad.1 (by decide)) (fun _ hk=>hk.1.2) (.int .i64 Ba)) (fun _ hk=>hk.1.2) (.slice Ao14 Ag.length co14)) (fun _ hk=>hk.2) (.int .i64 A9)) (fun _ hk=>hk.2) (.slice Ao16 Ae.length co16)) (fun _ h_=>h_.1)) (fun _ h_=>h_.1))))) (below_size bb_));replace Ay:=A_ (Kd.R_elder' (rq_ (Kd.R_mono (Kd.R_mono (Kd.R_far (p:=⟨At,1,none⟩) (Kd.R_far (p:=⟨At,0,none⟩) (Kd.R_far (p:=⟨As,1,none⟩) (Kd.R_far (p:=⟨As,0,none⟩) (Kd.R_types (Kd.R_types Ay.1 Ac.1 (by decide)) Ad.1 (by decide)) (fun _ hk=>hk.1.2) (.int .i64 Ba)) (fun _ hk=>hk.1.2) (.slice Ao14 Ag.length co14)) (fun _ hk=>hk.2) (.int .i64 A9)) (fun _ hk=>hk.2) (.slice Ao16 Ae.length co16)) (fun _ h_=>h_.1)) (fun _ h_=>h_.1))) (Kd.R_base ho0) hb);replace Az:=A_ (Kd.R_elder' (rq_ (Kd.R_mono (Kd.R_mono (Kd.R_far (p:=⟨At,1,none⟩) (Kd.R_far (p:=⟨At,0,none⟩) (Kd.R_far (p:=⟨As,1,none⟩) (Kd.R_far (p:=⟨As,0,none⟩) (Kd.R_types (Kd.R_types Az.1 Ac.1 (by decide)) Ad.1 (by decide)) (fun _ hk=>hk.1.2) (.int .i64 Ba)) (fun _ hk=>hk.1.2) (.slice Ao14 Ag.length co14)) (fun _ hk=>hk.2) (.int .i64 A9)) (fun _ hk=>hk.2) (.slice Ao16 Ae.length co16)) (fun _ h_=>h_.1)) (fun _ h_=>h_.1))) (Kd.R_base ho0) hb);replace Ac:=A_ (blk_below (g:=As) (o:=.cells #[.int .i64 Ba,.slice Ao14 Ag.length co14] 26 (0,0)) (by (with_reducible repeat (first|refine blk_drewN ?_ _|refine blk_drew ?_|refine blk_alloc ?_ _));refine blk_far ?_ Bi.1 _;(with_reducible repeat (first|refine blk_drewN ?_ _|refine blk_drew ?_|refine blk_alloc ?_ _));refine blk_far ?_ Bi.1 _;(with_reducible repeat (first|refine blk_drewN ?_ _|refine blk_drew ?_|refine blk_alloc ?_ _));refine blk_put (cs:=#[.int .i64 Ba,.slice none 0 0]) ?_ 1 _ rfl;(with_reducible repeat (first|refine blk_drewN ?_ _|refine blk_drew ?_|refine blk_alloc ?_ _));refine blk_put (cs:=#[.int .i64 0,.slice none 0 0]) ?_ 0 _ rfl;(with_reducible repeat (first|refine blk_drewN ?_ _|refine blk_drew ?_|refine blk_alloc ?_ _));exact Ac.1) hb);replace Ad:=A_ (blk_below (g:=At) (o:=.cells #[.int .i64 A9,.slice Ao16 Ae.length co16] 26 (0,0)) (by (with_reducible repeat (first|refine blk_drewN ?_ _|refine blk_drew ?_|refine blk_alloc ?_ _));refine blk_put (cs:=#[.int .i64 A9,.slice none 0 0]) ?_ 1 _ rfl;(with_reducible repeat (first|refine blk_drewN ?_ _|refine blk_drew ?_|refine blk_alloc ?_ _));refine blk_put (cs:=#[.int .i64 0,.slice none 0 0]) ?_ 0 _ rfl;(with_reducible repeat (first|refine blk_drewN ?_ _|refine blk_drew ?_|refine blk_alloc ?_ _));refine blk_far ?_ Bj.1 _;(with_reducible repeat (first|refine blk_drewN ?_ _|refine blk_drew ?_|refine blk_alloc ?_ _));refine blk_far ?_ Bj.1 _;(with_reducible repeat (first|refine blk_drewN ?_ _|refine blk_drew ?_|refine blk_alloc ?_ _));exact Ad.1) hb);replace HB:=A_ (below_step bb_ hb);(try clear hb);(try clear hb2);(try clear hk);(try clear hi);(try clear ho0);obtain ⟨Z,Z,Z,Z⟩:=o2_ Ac.1;obtain ⟨Z,Z,Z,Z⟩:=o2_ Ad.1)|(go_at_call 24;(with_reducible refine (Abh.calls k Ba _ _ Ag A9 _ _ Ae Dy C0 _ ?side1 ?side2 ?side3 ?side4 A7.1).mono ?_);(case side1=>exact cl_ (Kd.R_reads' Ay.1).2.2);(case side2=>exact (Kd.R_reads' Ay.1).2.1);(case side3=>exact cl_ (Kd.R_reads' Az.1).2.2);(case side4=>exact (Kd.R_reads' Az.1).2.1);rintro e w20 ⟨E3,rfl,ho0,hb⟩;have C2:=A_ (Kd.R_lower (Kd.R_new' (Kd.R_new' (Kd.R_new' ho0 (Kd.R_lt (rl_ Ay))) (Kd.R_lt (rl_ Az))) (Kd.R_lt (rl_ Bx))) (below_size bb_));replace Ay:=A_ (Kd.R_elder' (rl_ Ay) (Kd.R_base ho0) hb);replace Az:=A_ (Kd.R_elder' (rl_ Az) (Kd.R_base ho0) hb);replace Bx:=A_ (Kd.R_elder' (rl_ Bx) (Kd.R_base ho0) hb);replace Ac:=bz Ac hb;replace Ad:=bz Ad hb;replace HB:=A_ (below_step bb_ hb);(try clear hb);(try clear hb2);(try clear hk);(try clear hi);(try clear ho0)));go_upto_region 6 with (first|(go_at_call 9;(with_reducible refine (Abo.calls _ _ l0 _ _ l1 false _ ?side1 ?side2 ?side3 ?side4 A3.1).mono ?_);(case side1=>repeat (first|exact HR0.1|(with_reducible refine Kd.C_alloc ?_ _)|(with_reducible refine Kd.C_drewN ?_ _)|(with_reducible refine Kd.C_drew ?_)));(case side2=>exact HC0.1);(case side3=>repeat (first|exact HR1.1|(with_reducible refine Kd.C_alloc ?_ _)|(with_reducible refine Kd.C_drewN ?_ _)|(with_reducible refine Kd.C_drew ?_)));(case side4=>exact HC1.1);rintro e w' ⟨rfl,⟨nd,rfl⟩⟩;(try first|exact ⟨rfl,_,World.drewN_drewN _ _ _⟩|exact ⟨rfl,_,Eq.trans (World.drewN_drewN _ _ _) (congrArg (World.drewN _) (Nat.add_assoc _ _ _))⟩))|(go_at_call 22;(with_reducible refine (Aah.calls k _ _ l0 Ba Ag A9 Ae _ ?side1 ?side2 A5.1).mono ?_);(case side1=>repeat (first|exact HR0.1|(with_reducible refine Kd.C_alloc ?_ _)|(with_reducible refine Kd.C_drewN ?_ _)|(with_reducible refine Kd.C_drew ?_)));(case side2=>exact HC0.1);rintro e w9 ⟨E1,E2,rfl,ho0,ho1,hb⟩;have Ay:=A_ (Kd.R_lower ho0 (below_size bb_));have Az:=A_ (Kd.R_lower ho1 (below_size bb_));replace HB:=A_ (below_step bb_ hb);(try clear hb);(try clear hb2);(try clear hk);(try clear hi);(try clear ho0);(try clear ho1))|((with_reducible refine gate_dst (N:=5) rfl ?_);refine box_event ?hg (N:=5) ?hd (cs:=#[.int .i64 0,.slice none 0 0]) (t:=26) ?hr ?_;(case hd=>rfl);(case hg=>rfl);(case hr=>go_simp;try rfl);intro As hg w10 hbox hb;replace Ay:=rb_ Ay hb;replace Az:=rb_ Az hb;have Ac:=A_ (hbox);have El:=A_ (gw_ (w:=w) hg bb_);have Em:=A_ (gw_ (w:=w) hg bb_);replace HB:=A_ (below_step bb_ hb);clear hb hbox hg)|((with_reducible refine gate_dst (N:=6) rfl ?_);refine box_event ?hg (N:=6) ?hd (cs:=#[.int .i64 0,.slice none 0 0]) (t:=26) ?hr ?_;(case hd=>rfl);(case hg=>rfl);(case hr=>go_simp;try rfl);intro At hg w11 hbox hb;replace Ay:=rb_ Ay hb;replace Az:=rb_ Az hb;have Ad:=A_ (hbox);have En:=A_ (gw_ (w:=w) hg bb_);have Eo:=A_ (gw_ (w:=w) hg bb_);replace HB:=A_ (below_step bb_ hb);have Bi:=A_ (nl_ hg Ac);have Bj:=A_ (ng_ hg Ac);replace Ac:=bz Ac hb;clear hb hbox hg;have Z:=Bi.1;have Z:=Bj.1;obtain ⟨Z,Z,Z,Z⟩:=o2_ Ac.1;obtain ⟨Ao14,co14,eo14⟩:=Kd.R_slice Ay.1;subst eo14;obtain ⟨Z,Z,Z,Z⟩:=o2_ Ad.1;obtain ⟨Ao16,co16,eo16⟩:=Kd.R_slice Az.1;subst eo16)|(go_at_call 23;(with_reducible refine (Aa5.calls k Ba _ _ Ag A9 _ _ Ae Ai C4 _ ?side1 ?side2 ?side3 ?side4 A6.1).mono ?_);(case side1=>refine (Kd.R_reads' (e:=3) (base:=w.heap.size) (ok:=fun k_=>some k_ ≠ (.slice Ao16 Ae.length co16 : Value).ownBlock) (n:=Ag.length) (c:=co14) ?_).2.2;exact (rq_ (Kd.R_mono (Kd.R_mono (Kd.R_far (p:=⟨At,1,none⟩) (Kd.R_far (p:=⟨At,0,none⟩) (Kd.R_far (p:=⟨As,1,none⟩) (Kd.R_far (p:=⟨As,0,none⟩) (Kd.R_types (Kd.R_types Ay.1 Ac.1 (by decide)) Ad.1 (by decide)) (fun _ hk=>hk.1.2) (.int .i64 Ba)) (fun _ hk=>hk.1.2) (.slice Ao14 Ag.length co14)) (fun _ hk=>hk.2) (.int .i64 A9)) (fun _ hk=>hk.2) (.slice Ao16 Ae.length co16)) (fun _ h_=>h_.1)) (fun _ h_=>h_.1))));(case side2=>exact (Kd.R_reads' Ay.1).2.1);(case side3=>refine (Kd.R_reads' (e:=3) (base:=w.heap.size) (ok:=fun k_=>some k_ ≠ (.slice Ao14 Ag.length co14 : Value).ownBlock) (n:=Ae.length) (c:=co16) ?_).2.2;exact (rq_ (Kd.R_mono (Kd.R_mono (Kd.R_far (p:=⟨At,1,none⟩) (Kd.R_far (p:=⟨At,0,none⟩) (Kd.R_far (p:=⟨As,1,none⟩) (Kd.R_far (p:=⟨As,0,none⟩) (Kd.R_types (Kd.R_types Az.1 Ac.1 (by decide)) Ad.1 (by decide)) (fun _ hk=>hk.1.2) (.int .i64 Ba)) (fun _ hk=>hk.1.2) (.slice Ao14 Ag.length co14)) (fun _ hk=>hk.2) (.int .i64 A9)) (fun _ hk=>hk.2) (.slice Ao16 Ae.length co16)) (fun _ h_=>h_.1)) (fun _ h_=>h_.1))));(case side4=>exact (Kd.R_reads' Az.1).2.1);rintro e w17 ⟨D8,rfl,ho0,hb⟩;have Bx:=A_ (Kd.R_lower (Kd.R_new' (Kd.R_new' ho0 (Kd.R_lt (rq_ (Kd.R_mono (Kd.R_mono (Kd.R_far (p:=⟨At,1,none⟩) (Kd.R_far (p:=⟨At,0,none⟩) (Kd.R_far (p:=⟨As,1,none⟩) (Kd.R_far (p:=⟨As,0,none⟩) (Kd.R_types (Kd.R_types Ay.1 Ac.1 (by decide)) Ad.1 (by decide)) (fun _ hk=>hk.1.2) (.int .i64 Ba)) (fun _ hk=>hk.1.2) (.slice Ao14 Ag.length co14)) (fun _ hk=>hk.2) (.int .i64 A9)) (fun _ hk=>hk.2) (.slice Ao16 Ae.length co16)) (fun _ h_=>h_.1)) (fun _ h_=>h_.1))))) (Kd.R_lt (rq_ (Kd.R_mono (Kd.R_mono (Kd.R_far (p:=⟨At,1,none⟩) (Kd.R_far (p:=⟨At,0,none⟩) (Kd.R_far (p:=⟨As,1,none⟩) (Kd.R_far (p:=⟨As,0,none⟩) (Kd.R_types (Kd.R_types Az.1 Ac.1 (by decide)) Ad.1 (by decide)) (fun _ hk=>hk.1.2) (.int .i64 Ba)) (fun _ hk=>hk.1.2) (.slice Ao14 Ag.length co14)) (fun _ hk=>hk.2) (.int .i64 A9)) (fun _ hk=>hk.2) (.slice Ao16 Ae.length co16)) (fun _ h_=>h_.1)) (fun _ h_=>h_.1))))) (below_size bb_));replace Ay:=A_ (Kd.R_elder' (rq_ (Kd.R_mono (Kd.R_mono (Kd.R_far (p:=⟨At,1,none⟩) (Kd.R_far (p:=⟨At,0,none⟩) (Kd.R_far (p:=⟨As,1,none⟩) (Kd.R_far (p:=⟨As,0,none⟩) (Kd.R_types (Kd.R_types Ay.1 Ac.1 (by decide)) Ad.1 (by decide)) (fun _ hk=>hk.1.2) (.int .i64 Ba)) (fun _ hk=>hk.1.2) (.slice Ao14 Ag.length co14)) (fun _ hk=>hk.2) (.int .i64 A9)) (fun _ hk=>hk.2) (.slice Ao16 Ae.length co16)) (fun _ h_=>h_.1)) (fun _ h_=>h_.1))) (Kd.R_base ho0) hb);replace Az:=A_ (Kd.R_elder' (rq_ (Kd.R_mono (Kd.R_mono (Kd.R_far (p:=⟨At,1,none⟩) (Kd.R_far (p:=⟨At,0,none⟩) (Kd.R_far (p:=⟨As,1,none⟩) (Kd.R_far (p:=⟨As,0,none⟩) (Kd.R_types (Kd.R_types Az.1 Ac.1 (by decide)) Ad.1 (by decide)) (fun _ hk=>hk.1.2) (.int .i64 Ba)) (fun _ hk=>hk.1.2) (.slice Ao14 Ag.length co14)) (fun _ hk=>hk.2) (.int .i64 A9)) (fun _ hk=>hk.2) (.slice Ao16 Ae.length co16)) (fun _ h_=>h_.1)) (fun _ h_=>h_.1))) (Kd.R_base ho0) hb);replace Ac:=A_ (blk_below (g:=As) (o:=.cells #[.int .i64 Ba,.slice Ao14 Ag.length co14] 26 (0,0)) (by (with_reducible repeat (first|refine blk_drewN ?_ _|refine blk_drew ?_|refine blk_alloc ?_ _));refine blk_far ?_ Bi.1 _;(with_reducible repeat (first|refine blk_drewN ?_ _|refine blk_drew ?_|refine blk_alloc ?_ _));refine blk_far ?_ Bi.1 _;(with_reducible repeat (first|refine blk_drewN ?_ _|refine blk_drew ?_|refine blk_alloc ?_ _));refine blk_put (cs:=#[.int .i64 Ba,.slice none 0 0]) ?_ 1 _ rfl;(with_reducible repeat (first|refine blk_drewN ?_ _|refine blk_drew ?_|refine blk_alloc ?_ _));refine blk_put (cs:=#[.int .i64 0,.slice none 0 0]) ?_ 0 _ rfl;(with_reducible repeat (first|refine blk_drewN ?_ _|refine blk_drew ?_|refine blk_alloc ?_ _));exact Ac.1) hb);replace Ad:=A_ (blk_below (g:=At) (o:=.cells #[.int .i64 A9,.slice Ao16 Ae.length co16] 26 (0,0)) (by (with_reducible repeat (first|refine blk_drewN ?_ _|refine blk_drew ?_|refine blk_alloc ?_ _));refine blk_put (cs:=#[.int .i64 A9,.slice none 0 0]) ?_ 1 _ rfl;(with_reducible repeat (first|refine blk_drewN ?_ _|refine blk_drew ?_|refine blk_alloc ?_ _));refine blk_put (cs:=#[.int .i64 0,.slice none 0 0]) ?_ 0 _ rfl;(with_reducible repeat (first|refine blk_drewN ?_ _|refine blk_drew ?_|refine blk_alloc ?_ _));refine blk_far ?_ Bj.1 _;(with_reducible repeat (first|refine blk_drewN ?_ _|refine blk_drew ?_|refine blk_alloc ?_ _));refine blk_far ?_ Bj.1 _;(with_reducible repeat (first|refine blk_drewN ?_ _|refine blk_drew ?_|refine blk_alloc ?_ _));exact Ad.1) hb);replace HB:=A_ (below_step bb_ hb);(try clear hb);(try clear hb2);(try clear hk);(try clear hi);(try clear ho0);obtain ⟨Z,Z,Z,Z⟩:=o2_ Ac.1;obtain ⟨Z,Z,Z,Z⟩:=o2_ Ad.1)|(go_at_call 24;(with_reducible refine (Abh.calls k Ba _ _ Ag A9 _ _ Ae Dy C0 _ ?side1 ?side2 ?side3 ?side4 A7.1).mono ?_);(case side1=>exact cl_ (Kd.R_reads' Ay.1).2.2);(case side2=>exact (Kd.R_reads' Ay.1).2.1);(case side3=>exact cl_ (Kd.R_reads' Az.1).2.2);(case side4=>exact (Kd.R_reads' Az.1).2.1);rintro e w20 ⟨E3,rfl,ho0,hb⟩;have C2:=A_ (Kd.R_lower (Kd.R_new' (Kd.R_new' (Kd.R_new' ho0 (Kd.R_lt (rl_ Ay))) (Kd.R_lt (rl_ Az))) (Kd.R_lt (rl_ Bx))) (below_size bb_));replace Ay:=A_ (Kd.R_elder' (rl_ Ay) (Kd.R_base ho0) hb);replace Az:=A_ (Kd.R_elder' (rl_ Az) (Kd.R_base ho0) hb);replace Bx:=A_ (Kd.R_elder' (rl_ Bx) (Kd.R_base ho0) hb);replace Ac:=bz Ac hb;replace Ad:=bz Ad hb;replace HB:=A_ (below_step bb_ hb);(try clear hb);(try clear hb2);(try clear hk);(try clear hi);(try clear ho0))))
  (try simp only [Act.put,L_,M_,N_]);go_cut [53] (fun v53 wc=>∃ (kq : Nat) (x53_7 : Bool),v53 = .bool x53_7 ∧ Aside0 (Aad.j0 kq l1 Ai C0 x53_7 Ba Ag A9 Ae = some r) ∧ Aside0 (kq ≤ k) ∧ Aside0 (Kd.R (Kd.int .i64) 3 wc w.heap.size (fun k_=>some k_ ≠ ((.slice Ao14 Ag.length co14) : Value).ownBlock ∧ some k_ ≠ ((.slice Ao16 Ae.length co16) : Value).ownBlock) D8 Ai) ∧ Aside0 (Kd.R (Kd.int .i64) 3 wc w.heap.size (fun k_=>some k_ ≠ (D8 : Value).ownBlock ∧ some k_ ≠ ((.slice Ao16 Ae.length co16) : Value).ownBlock) (.slice Ao14 Ag.length co14) Ag) ∧ Aside0 (Kd.R (Kd.int .i64) 3 wc w.heap.size (fun k_=>some k_ ≠ (D8 : Value).ownBlock ∧ some k_ ≠ ((.slice Ao14 Ag.length co14) : Value).ownBlock) (.slice Ao16 Ae.length co16) Ae) ∧ Aside0 (wc.heap[As]? = some (.cells #[.int .i64 Ba,(.slice Ao14 Ag.length co14)] 26 (0,0))) ∧ Aside0 (wc.heap[At]? = some (.cells #[.int .i64 A9,(.slice Ao16 Ae.length co16)] 26 (0,0))) ∧ Aside0 (Below w.heap.size w wc))
  case first =>
   have H:=HC8.1;clear HC8;by_cases c21 : (C4 != C0) = true
   ·rw [if_pos c21] at H;have c21b0 : (C4 != C0) = true:=c21;(try (have c21b1 : decide (C4 = C0) = false:=by simpa using c21));(try (have c21b2 : (C4 == C0) = false:=by simpa using c21));(try (have c21b3 : ¬ (C4 = C0):=by simpa using c21));clear c21;(first|rw [c21b0]|(simp only [i64_w,i32_w];rw [c21b0])|skip)
    have H':=A_ H;clear H;go_wp2
    repeat (go_quiet (fail);try go_wp2)
    go_meet
    case rel=>exact ⟨_,(true),(by first|rfl|(simp;done)|(simp [*];done)),H',⟨by first|omega|exact Nat.le_refl _⟩,⟨rq_ (Kd.R_mono Bx.1 (fun _ hk=>⟨hk.1.1.2,hk.1.2⟩))⟩,⟨rq_ (Kd.R_mono Ay.1 (fun _ hk=>⟨hk.1.2,hk.1.1⟩))⟩,⟨rq_ (Kd.R_mono Az.1 (fun _ hk=>⟨hk.1.2,hk.1.1⟩))⟩,⟨bl_ Ac⟩,⟨bl_ Ad⟩,⟨bb_⟩⟩
   ·rw [if_neg c21] at H;have c21b0 : (C4 != C0) = false:=by simpa using c21
    (try (have c21b1 : decide (C4 = C0) = true:=by simpa using c21));(try (have c21b2 : (C4 == C0) = true:=by simpa using c21));clear c21;(first|rw [c21b0]|(simp only [i64_w,i32_w];rw [c21b0])|skip)
    replace H:=Option.bind_eq_some_iff.mp H;obtain ⟨Dx,E4,H⟩:=H;(try dsimp only at H);have A22:=A_ E4;clear E4;have H':=A_ H;clear H;obtain ⟨Ao23,co23,eo23⟩:=Kd.R_slice Bx.1;subst eo23;obtain ⟨Ao24,co24,eo24⟩:=Kd.R_slice C2.1;subst eo24;go_wp2_with (first|(go_at_call 25;(with_reducible refine (Aa7.calls k _ _ Ai _ _ Dy Dx _ ?side1 ?side2 ?side3 ?side4 A22.1).mono ?_);(case side1=>exact cl_ (Kd.R_reads' Bx.1).2.2);(case side2=>exact (Kd.R_reads' Bx.1).2.1);(case side3=>exact cl_ (Kd.R_reads' C2.1).2.2);(case side4=>exact (Kd.R_reads' C2.1).2.1);rintro e w' ⟨rfl,⟨nd,rfl⟩⟩;(try first|exact ⟨rfl,_,World.drewN_drewN _ _ _⟩|exact ⟨rfl,_,Eq.trans (World.drewN_drewN _ _ _) (congrArg (World.drewN _) (Nat.add_assoc _ _ _))⟩)))
    repeat (go_quiet (first|(go_at_call 25;(with_reducible refine (Aa7.calls k _ _ Ai _ _ Dy Dx _ ?side1 ?side2 ?side3 ?side4 A22.1).mono ?_);(case side1=>exact cl_ (Kd.R_reads' Bx.1).2.2);(case side2=>exact (Kd.R_reads' Bx.1).2.1);(case side3=>exact cl_ (Kd.R_reads' C2.1).2.2);(case side4=>exact (Kd.R_reads' C2.1).2.1);rintro e w' ⟨rfl,⟨nd,rfl⟩⟩;(try first|exact ⟨rfl,_,World.drewN_drewN _ _ _⟩|exact ⟨rfl,_,Eq.trans (World.drewN_drewN _ _ _) (congrArg (World.drewN _) (Nat.add_assoc _ _ _))⟩)));try go_wp2_with (first|(go_at_call 25;(with_reducible refine (Aa7.calls k _ _ Ai _ _ Dy Dx _ ?side1 ?side2 ?side3 ?side4 A22.1).mono ?_);(case side1=>exact cl_ (Kd.R_reads' Bx.1).2.2);(case side2=>exact (Kd.R_reads' Bx.1).2.1);(case side3=>exact cl_ (Kd.R_reads' C2.1).2.2);(case side4=>exact (Kd.R_reads' C2.1).2.1);rintro e w' ⟨rfl,⟨nd,rfl⟩⟩;(try first|exact ⟨rfl,_,World.drewN_drewN _ _ _⟩|exact ⟨rfl,_,Eq.trans (World.drewN_drewN _ _ _) (congrArg (World.drewN _) (Nat.add_assoc _ _ _))⟩))))
    go_meet
    case rel=>exact ⟨_,(!Dx),(by first|rfl|(simp;done)|(simp [*];done)),H',⟨by first|omega|exact Nat.le_refl _⟩,⟨rq_ (Kd.R_mono Bx.1 (fun _ hk=>⟨hk.1.1.2,hk.1.2⟩))⟩,⟨rq_ (Kd.R_mono Ay.1 (fun _ hk=>⟨hk.1.2,hk.1.1⟩))⟩,⟨rq_ (Kd.R_mono Az.1 (fun _ hk=>⟨hk.1.2,hk.1.1⟩))⟩,⟨bl_ Ac⟩,⟨bl_ Ad⟩,⟨bb_⟩⟩
  case rest =>
   clear HC8;try clear c1
   try clear c2
   try clear p2
   try clear c4
   try clear c5
   try clear c12
   try clear c21
   try clear c21b0
   try clear c21b1
   try clear c21b2
   repeat clear Z
   obtain ⟨kq,x53_7,rfl,HA,HJ7,HO_7,Ab,Aa,Ac,Ad,HB⟩:=hcut;cases kq with
   | zero=>exact absurd HA.1 (by simp [Aad.j0])
   | succ kj7 =>
    have H:=HA.1;clear HA;simp only [Aad.j0] at H
    by_cases c25 : x53_7 = true
    ·subst c25;rw [if_pos rfl] at H;obtain rfl:=Option.some.inj H;go_wp2
     repeat (go_quiet (fail);try go_wp2)
     go_ret
     exact ⟨by first|rfl|(simp [errW_none,errW_some] <;> rfl)|(simp [*,errW_none,errW_some] <;> rfl),bb_⟩
    ·replace c25:=Bool.eq_false_iff.mpr c25;subst c25;rw [if_neg nf_] at H;have HC26:=A_ H;clear H;go_upto_if 54 with (fail)
     repeat (go_quiet (fail);go_upto_if 54 with (fail))
     go_cut [] (fun wc=>∃ (kq : Nat),Aside0 (Aad.j3 kq l1 = some r) ∧ Aside0 (kq ≤ kj7) ∧ Aside0 (Kd.R (Kd.int .i64) 3 wc w.heap.size (fun k_=>some k_ ≠ ((.slice Ao16 Ae.length co16) : Value).ownBlock) (.slice Ao14 Ag.length co14) Ag) ∧ Aside0 (Kd.R (Kd.int .i64) 3 wc w.heap.size (fun k_=>some k_ ≠ ((.slice Ao14 Ag.length co14) : Value).ownBlock) (.slice Ao16 Ae.length co16) Ae) ∧ Aside0 (wc.heap[As]? = some (.cells #[.int .i64 Ba,(.slice Ao14 Ag.length co14)] 26 (0,0))) ∧ Aside0 (wc.heap[At]? = some (.cells #[.int .i64 A9,(.slice Ao16 Ae.length co16)] 26 (0,0))) ∧ Aside0 (Below w.heap.size w wc))
     case first =>
      have H:=HC26.1;clear HC26;by_cases c27 : C0 = true
      ·subst c27;rw [if_pos rfl] at H;have H':=A_ H;clear H;obtain ⟨Ao28,co28,eo28⟩:=Kd.R_slice HO_7.1;subst eo28;go_wp2
       repeat (go_quiet (fail);try go_wp2)
       go_loopg [57] kj7 (fun kq v57 w'=>∃ (x57_2 : Int),v57 = .int .i64 x57_2 ∧ Aside0 (Aad.l0 kq l1 Ai Ai (Ai.length : Int) x57_2 Ba Ag A9 Ae = some r) ∧ Aside0 (kq ≤ kj7) ∧ Aside0 (Kd.R (Kd.int .i64) 3 w' w.heap.size (fun k_=>some k_ ≠ ((.slice Ao14 Ag.length co14) : Value).ownBlock ∧ some k_ ≠ ((.slice Ao16 Ae.length co16) : Value).ownBlock) (.slice Ao28 Ai.length co28) Ai) ∧ Aside0 (Kd.R (Kd.int .i64) 3 w' w.heap.size (fun k_=>some k_ ≠ ((.slice Ao14 Ag.length co14) : Value).ownBlock ∧ some k_ ≠ ((.slice Ao16 Ae.length co16) : Value).ownBlock) (.slice Ao28 Ai.length co28) Ai) ∧ Aside0 (Kd.R (Kd.int .i64) 3 w' w.heap.size (fun k_=>some k_ ≠ ((.slice Ao28 Ai.length co28) : Value).ownBlock ∧ some k_ ≠ ((.slice Ao28 Ai.length co28) : Value).ownBlock ∧ some k_ ≠ ((.slice Ao16 Ae.length co16) : Value).ownBlock) (.slice Ao14 Ag.length co14) Ag) ∧ Aside0 (Kd.R (Kd.int .i64) 3 w' w.heap.size (fun k_=>some k_ ≠ ((.slice Ao28 Ai.length co28) : Value).ownBlock ∧ some k_ ≠ ((.slice Ao28 Ai.length co28) : Value).ownBlock ∧ some k_ ≠ ((.slice Ao14 Ag.length co14) : Value).ownBlock) (.slice Ao16 Ae.length co16) Ae) ∧ Aside0 (w'.heap[As]? = some (.cells #[.int .i64 Ba,(.slice Ao14 Ag.length co14)] 26 (0,0))) ∧ Aside0 (w'.heap[At]? = some (.cells #[.int .i64 A9,(.slice Ao16 Ae.length co16)] 26 (0,0))) ∧ Aside0 (Below w.heap.size w w'))
       case atStart=>exact ⟨(0),(by first|rfl|(simp;done)|(simp [*];done)),H',⟨Nat.le_refl _⟩,⟨rl_ HO_7⟩,⟨rl_ HO_7⟩,⟨rq_ (Kd.R_mono Ab.1 (fun _ hk=>⟨hk.1,⟨hk.1,hk.2⟩⟩))⟩,⟨rq_ (Kd.R_mono Aa.1 (fun _ hk=>⟨hk.1,⟨hk.1,hk.2⟩⟩))⟩,⟨bl_ Ac⟩,⟨bl_ Ad⟩,⟨bb_⟩⟩
       case round =>
        clear H';try clear c1
        try clear c2
        try clear p2
        try clear c4
        try clear c5
        try clear c12
        try clear c21
        try clear c21b0
        try clear c21b1
        try clear c21b2
        try clear c25
        try clear c27
        repeat clear Z
        try clear p2
        obtain ⟨x57_2,rfl,HA,HK2,HO_7,HO_55,Ab,Aa,Ac,Ad,HB⟩:=hrel;cases gk with
        | zero=>exact absurd HA.1 (by simp [Aad.l0])
        | succ k2 =>
         have H:=HA.1;clear HA;simp only [Aad.l0] at H
         by_cases c29 : x57_2 < (Ai.length : Int)
         ·rw [if_pos c29] at H;have c29b0 : decide (x57_2 < (Ai.length : Int)) = true:=decide_eq_true c29;clear c29;(first|rw [c29b0]|(simp only [i64_w,i32_w];rw [c29b0])|skip)
          by_cases c30 : 0 ≤ x57_2
          ·rw [if_pos c30] at H;have c30b0 : decide (0 ≤ x57_2) = true:=decide_eq_true c30;clear c30;by_cases c31 : x57_2 < (Ai.length : Int)
           ·rw [if_pos c31] at H;have c31b0 : decide (x57_2 < (Ai.length : Int)) = true:=decide_eq_true c31;clear c31;have H':=A_ H;clear H;have Do : 0 ≤ (x57_2 : Int):=of_decide_eq_true (by first|(with_reducible assumption)|assumption);have Dp : x57_2 < (Ai.length : Int):=of_decide_eq_true (by first|(with_reducible assumption)|assumption);obtain ⟨Cj,Fs,Dh⟩:=Kd.at_int (Kd.R_reads' HO_55.1).2.2 x57_2 Do Dp;cases Fs
            replace Do:=eq_true Do;replace Dp:=eq_true Dp;go_wp2
            repeat (go_quiet (fail);try go_wp2)
            go_loopg [64] k2 (fun kq v64 w'=>∃ (x64_3 : Int),v64 = .int .i64 x64_3 ∧ Aside0 (Aad.l1 kq l1 Ai x57_2 (rd Ai x57_2) Ai (Ai.length : Int) x57_2 Ai (Ai.length : Int) x64_3 Ba Ag A9 Ae = some r) ∧ Aside0 (kq ≤ k2) ∧ Aside0 (Kd.R (Kd.int .i64) 3 w' w.heap.size (fun k_=>some k_ ≠ ((.slice Ao14 Ag.length co14) : Value).ownBlock ∧ some k_ ≠ ((.slice Ao16 Ae.length co16) : Value).ownBlock) (.slice (some Cj) Ai.length co28) Ai) ∧ Aside0 (Kd.R (Kd.int .i64) 3 w' w.heap.size (fun k_=>some k_ ≠ ((.slice Ao14 Ag.length co14) : Value).ownBlock ∧ some k_ ≠ ((.slice Ao16 Ae.length co16) : Value).ownBlock) (.slice (some Cj) Ai.length co28) Ai) ∧ Aside0 (Kd.R (Kd.int .i64) 3 w' w.heap.size (fun k_=>some k_ ≠ ((.slice Ao14 Ag.length co14) : Value).ownBlock ∧ some k_ ≠ ((.slice Ao16 Ae.length co16) : Value).ownBlock) (.slice (some Cj) Ai.length co28) Ai) ∧ Aside0 (Kd.R (Kd.int .i64) 3 w' w.heap.size (fun k_=>some k_ ≠ ((.slice (some Cj) Ai.length co28) : Value).ownBlock ∧ some k_ ≠ ((.slice (some Cj) Ai.length co28) : Value).ownBlock ∧ some k_ ≠ ((.slice (some Cj) Ai.length co28) : Value).ownBlock ∧ some k_ ≠ ((.slice Ao16 Ae.length co16) : Value).ownBlock) (.slice Ao14 Ag.length co14) Ag) ∧ Aside0 (Kd.R (Kd.int .i64) 3 w' w.heap.size (fun k_=>some k_ ≠ ((.slice (some Cj) Ai.length co28) : Value).ownBlock ∧ some k_ ≠ ((.slice (some Cj) Ai.length co28) : Value).ownBlock ∧ some k_ ≠ ((.slice (some Cj) Ai.length co28) : Value).ownBlock ∧ some k_ ≠ ((.slice Ao14 Ag.length co14) : Value).ownBlock) (.slice Ao16 Ae.length co16) Ae) ∧ Aside0 (w'.heap[As]? = some (.cells #[.int .i64 Ba,(.slice Ao14 Ag.length co14)] 26 (0,0))) ∧ Aside0 (w'.heap[At]? = some (.cells #[.int .i64 A9,(.slice Ao16 Ae.length co16)] 26 (0,0))) ∧ Aside0 (Below w.heap.size w w'))
            case atStart=>exact ⟨(0),(by first|rfl|(simp;done)|(simp [*];done)),H',⟨Nat.le_refl _⟩,⟨rl_ HO_7⟩,⟨rl_ HO_55⟩,⟨rl_ HO_7⟩,⟨rq_ (Kd.R_mono Ab.1 (fun _ hk=>⟨hk.1,⟨hk.2.1,⟨hk.1,hk.2.2⟩⟩⟩))⟩,⟨rq_ (Kd.R_mono Aa.1 (fun _ hk=>⟨hk.1,⟨hk.2.1,⟨hk.1,hk.2.2⟩⟩⟩))⟩,⟨bl_ Ac⟩,⟨bl_ Ad⟩,⟨bb_⟩⟩
            case round =>
             clear H';try clear c1
             try clear c2
             try clear p2
             try clear c3
             try clear c4
             try clear c5
             try clear p6
             try clear q6
             try clear hx6
             try clear c12
             try clear c21
             try clear c21b0
             try clear c21b1
             try clear c21b2
             try clear c25
             try clear c27
             try clear c29
             try clear c29b0
             try clear c30
             try clear c30b0
             try clear c31
             try clear c31b0
             repeat clear Z
             try clear Dh
             try clear p2
             try clear Do
             try clear Dp
             obtain ⟨x64_3,rfl,HA,HK3,HO_7,HO_55,HO_62,Ab,Aa,Ac,Ad,HB⟩:=hrel;cases gk with
             | zero=>exact absurd HA.1 (by simp [Aad.l1])
             | succ k3 =>
              have H:=HA.1;clear HA;simp only [Aad.l1] at H
              by_cases c32 : x64_3 < (Ai.length : Int)
              ·rw [if_pos c32] at H;have c32b0 : decide (x64_3 < (Ai.length : Int)) = true:=decide_eq_true c32;clear c32;by_cases c33 : 0 ≤ x64_3
               ·rw [if_pos c33] at H;have c33b0 : decide (0 ≤ x64_3) = true:=decide_eq_true c33;clear c33;by_cases c34 : x64_3 < (Ai.length : Int)
                ·rw [if_pos c34] at H;have c34b0 : decide (x64_3 < (Ai.length : Int)) = true:=decide_eq_true c34;clear c34;by_cases c35 : x57_2 = x64_3
                 ·rw [if_pos c35] at H;have c35b0 : (x57_2 == x64_3) = true:=beq_iff_eq.mpr c35;have c35b1 : (x57_2 != x64_3) = false:=bne_eq_false_iff_eq.mpr c35;clear c35;by_cases c36 : 0 ≤ (rd Ai x57_2)
                  ·rw [if_pos c36] at H;have c36b0 : decide (0 ≤ (rd Ai x57_2)) = true:=decide_eq_true c36;clear c36;by_cases c37 : (rd Ai x57_2) < (Ag.length : Int)
                   ·rw [if_pos c37] at H;have c37b0 : decide ((rd Ai x57_2) < (Ag.length : Int)) = true:=decide_eq_true c37;clear c37;replace H:=Option.bind_eq_some_iff.mp H;obtain ⟨Cq,E5,H⟩:=H;(try dsimp only at H);have A38:=A_ E5;clear E5;by_cases c39 : 0 ≤ x57_2
                    ·rw [if_pos c39] at H;have c39b0 : decide (0 ≤ x57_2) = true:=decide_eq_true c39;clear c39;by_cases c40 : x57_2 < (Ae.length : Int)
                     ·rw [if_pos c40] at H;have c40b0 : decide (x57_2 < (Ae.length : Int)) = true:=decide_eq_true c40;clear c40;replace H:=Option.bind_eq_some_iff.mp H;obtain ⟨Cr,E6,H⟩:=H;(try dsimp only at H);have A41:=A_ E6;clear E6;by_cases c42 : (Cq != Cr) = true
                      ·rw [if_pos c42] at H;have c42b0 : (Cq != Cr) = true:=c42;(try (have c42b1 : decide (Cq = Cr) = false:=by simpa using c42));(try (have c42b2 : (Cq == Cr) = false:=by simpa using c42));(try (have c42b3 : ¬ (Cq = Cr):=by simpa using c42));clear c42;obtain rfl:=Option.some.inj H;have B2 : 0 ≤ (x64_3 : Int):=of_decide_eq_true (by first|(with_reducible assumption)|assumption);have B4 : x64_3 < (Ai.length : Int):=of_decide_eq_true (by first|(with_reducible assumption)|assumption);obtain ⟨C3,Dn,Cn⟩:=Kd.at_int (Kd.R_reads' HO_62.1).2.2 x64_3 B2 B4;obtain rfl : Cj = C3:=(by injection Dn);replace B2:=eq_true B2;replace B4:=eq_true B4;have Z:=Bi.1;have Z:=Bj.1;obtain ⟨Z,Z,Z,Z⟩:=o2_ Ac.1;have C5 : 0 ≤ ((rd Ai x57_2) : Int):=of_decide_eq_true (by first|(with_reducible assumption)|assumption);have C6 : (rd Ai x57_2) < (Ag.length : Int):=of_decide_eq_true (by first|(with_reducible assumption)|assumption);obtain ⟨Fp,Ei,Di⟩:=Kd.at_int (Kd.R_reads' Ab.1).2.2 (rd Ai x57_2) C5 C6;cases Ei
                       replace C5:=eq_true C5;replace C6:=eq_true C6;go_wp2_with (first|(go_at_call 17;(with_reducible refine (Aax.calls (rd Ag (rd Ai x57_2)) (rd Ai x64_3) Cq _ A38.1).mono ?_);rintro e w' ⟨rfl,⟨nd,rfl⟩⟩;(try first|exact ⟨rfl,_,World.drewN_drewN _ _ _⟩|exact ⟨rfl,_,Eq.trans (World.drewN_drewN _ _ _) (congrArg (World.drewN _) (Nat.add_assoc _ _ _))⟩);obtain ⟨Z,Z,Z,Z⟩:=o2_ Ad.1;have Bt : 0 ≤ (x57_2 : Int):=of_decide_eq_true (by first|(with_reducible assumption)|assumption);have Bu : x57_2 < (Ae.length : Int):=of_decide_eq_true (by first|(with_reducible assumption)|assumption);obtain ⟨Du,C7,Cl⟩:=Kd.at_int (Kd.R_reads' Aa.1).2.2 x57_2 Bt Bu;cases C7;replace Bt:=eq_true Bt;replace Bu:=eq_true Bu)|(go_at_call 17;(with_reducible refine (Aax.calls (rd Ae x57_2) x64_3 Cr _ A41.1).mono ?_);rintro e w' ⟨rfl,⟨nd,rfl⟩⟩;(try first|exact ⟨rfl,_,World.drewN_drewN _ _ _⟩|exact ⟨rfl,_,Eq.trans (World.drewN_drewN _ _ _) (congrArg (World.drewN _) (Nat.add_assoc _ _ _))⟩)))
                       repeat (go_quiet (first|(go_at_call 17;(with_reducible refine (Aax.calls (rd Ag (rd Ai x57_2)) (rd Ai x64_3) Cq _ A38.1).mono ?_);rintro e w' ⟨rfl,⟨nd,rfl⟩⟩;(try first|exact ⟨rfl,_,World.drewN_drewN _ _ _⟩|exact ⟨rfl,_,Eq.trans (World.drewN_drewN _ _ _) (congrArg (World.drewN _) (Nat.add_assoc _ _ _))⟩);obtain ⟨Z,Z,Z,Z⟩:=o2_ Ad.1;have Bt : 0 ≤ (x57_2 : Int):=of_decide_eq_true (by first|(with_reducible assumption)|assumption);have Bu : x57_2 < (Ae.length : Int):=of_decide_eq_true (by first|(with_reducible assumption)|assumption);obtain ⟨Du,C7,Cl⟩:=Kd.at_int (Kd.R_reads' Aa.1).2.2 x57_2 Bt Bu;cases C7;replace Bt:=eq_true Bt;replace Bu:=eq_true Bu)|(go_at_call 17;(with_reducible refine (Aax.calls (rd Ae x57_2) x64_3 Cr _ A41.1).mono ?_);rintro e w' ⟨rfl,⟨nd,rfl⟩⟩;(try first|exact ⟨rfl,_,World.drewN_drewN _ _ _⟩|exact ⟨rfl,_,Eq.trans (World.drewN_drewN _ _ _) (congrArg (World.drewN _) (Nat.add_assoc _ _ _))⟩)));try go_wp2_with (first|(go_at_call 17;(with_reducible refine (Aax.calls (rd Ag (rd Ai x57_2)) (rd Ai x64_3) Cq _ A38.1).mono ?_);rintro e w' ⟨rfl,⟨nd,rfl⟩⟩;(try first|exact ⟨rfl,_,World.drewN_drewN _ _ _⟩|exact ⟨rfl,_,Eq.trans (World.drewN_drewN _ _ _) (congrArg (World.drewN _) (Nat.add_assoc _ _ _))⟩);obtain ⟨Z,Z,Z,Z⟩:=o2_ Ad.1;have Bt : 0 ≤ (x57_2 : Int):=of_decide_eq_true (by first|(with_reducible assumption)|assumption);have Bu : x57_2 < (Ae.length : Int):=of_decide_eq_true (by first|(with_reducible assumption)|assumption);obtain ⟨Du,C7,Cl⟩:=Kd.at_int (Kd.R_reads' Aa.1).2.2 x57_2 Bt Bu;cases C7;replace Bt:=eq_true Bt;replace Bu:=eq_true Bu)|(go_at_call 17;(with_reducible refine (Aax.calls (rd Ae x57_2) x64_3 Cr _ A41.1).mono ?_);rintro e w' ⟨rfl,⟨nd,rfl⟩⟩;(try first|exact ⟨rfl,_,World.drewN_drewN _ _ _⟩|exact ⟨rfl,_,Eq.trans (World.drewN_drewN _ _ _) (congrArg (World.drewN _) (Nat.add_assoc _ _ _))⟩))))
                       go_ret
                       exact ⟨by first|rfl|(simp [errW_none,errW_some] <;> rfl)|(simp [*,errW_none,errW_some] <;> rfl),bb_⟩
                      ·rw [if_neg c42] at H;have c42b0 : (Cq != Cr) = false:=by simpa using c42
                       (try (have c42b1 : decide (Cq = Cr) = true:=by simpa using c42));(try (have c42b2 : (Cq == Cr) = true:=by simpa using c42));clear c42;have H':=A_ H;clear H;have B2 : 0 ≤ (x64_3 : Int):=of_decide_eq_true (by first|(with_reducible assumption)|assumption);have B4 : x64_3 < (Ai.length : Int):=of_decide_eq_true (by first|(with_reducible assumption)|assumption);obtain ⟨C3,Dn,Cn⟩:=Kd.at_int (Kd.R_reads' HO_62.1).2.2 x64_3 B2 B4;obtain rfl : Cj = C3:=(by injection Dn);replace B2:=eq_true B2;replace B4:=eq_true B4;have Z:=Bi.1;have Z:=Bj.1;obtain ⟨Z,Z,Z,Z⟩:=o2_ Ac.1;have C5 : 0 ≤ ((rd Ai x57_2) : Int):=of_decide_eq_true (by first|(with_reducible assumption)|assumption);have C6 : (rd Ai x57_2) < (Ag.length : Int):=of_decide_eq_true (by first|(with_reducible assumption)|assumption);obtain ⟨Fp,Ei,Di⟩:=Kd.at_int (Kd.R_reads' Ab.1).2.2 (rd Ai x57_2) C5 C6;cases Ei
                       replace C5:=eq_true C5;replace C6:=eq_true C6;go_wp2_with (first|(go_at_call 17;(with_reducible refine (Aax.calls (rd Ag (rd Ai x57_2)) (rd Ai x64_3) Cq _ A38.1).mono ?_);rintro e w' ⟨rfl,⟨nd,rfl⟩⟩;(try first|exact ⟨rfl,_,World.drewN_drewN _ _ _⟩|exact ⟨rfl,_,Eq.trans (World.drewN_drewN _ _ _) (congrArg (World.drewN _) (Nat.add_assoc _ _ _))⟩);obtain ⟨Z,Z,Z,Z⟩:=o2_ Ad.1;have Bt : 0 ≤ (x57_2 : Int):=of_decide_eq_true (by first|(with_reducible assumption)|assumption);have Bu : x57_2 < (Ae.length : Int):=of_decide_eq_true (by first|(with_reducible assumption)|assumption);obtain ⟨Du,C7,Cl⟩:=Kd.at_int (Kd.R_reads' Aa.1).2.2 x57_2 Bt Bu;cases C7;replace Bt:=eq_true Bt;replace Bu:=eq_true Bu)|(go_at_call 17;(with_reducible refine (Aax.calls (rd Ae x57_2) x64_3 Cr _ A41.1).mono ?_);rintro e w' ⟨rfl,⟨nd,rfl⟩⟩;(try first|exact ⟨rfl,_,World.drewN_drewN _ _ _⟩|exact ⟨rfl,_,Eq.trans (World.drewN_drewN _ _ _) (congrArg (World.drewN _) (Nat.add_assoc _ _ _))⟩)))
                       repeat (go_quiet (first|(go_at_call 17;(with_reducible refine (Aax.calls (rd Ag (rd Ai x57_2)) (rd Ai x64_3) Cq _ A38.1).mono ?_);rintro e w' ⟨rfl,⟨nd,rfl⟩⟩;(try first|exact ⟨rfl,_,World.drewN_drewN _ _ _⟩|exact ⟨rfl,_,Eq.trans (World.drewN_drewN _ _ _) (congrArg (World.drewN _) (Nat.add_assoc _ _ _))⟩);obtain ⟨Z,Z,Z,Z⟩:=o2_ Ad.1;have Bt : 0 ≤ (x57_2 : Int):=of_decide_eq_true (by first|(with_reducible assumption)|assumption);have Bu : x57_2 < (Ae.length : Int):=of_decide_eq_true (by first|(with_reducible assumption)|assumption);obtain ⟨Du,C7,Cl⟩:=Kd.at_int (Kd.R_reads' Aa.1).2.2 x57_2 Bt Bu;cases C7;replace Bt:=eq_true Bt;replace Bu:=eq_true Bu)|(go_at_call 17;(with_reducible refine (Aax.calls (rd Ae x57_2) x64_3 Cr _ A41.1).mono ?_);rintro e w' ⟨rfl,⟨nd,rfl⟩⟩;(try first|exact ⟨rfl,_,World.drewN_drewN _ _ _⟩|exact ⟨rfl,_,Eq.trans (World.drewN_drewN _ _ _) (congrArg (World.drewN _) (Nat.add_assoc _ _ _))⟩)));try go_wp2_with (first|(go_at_call 17;(with_reducible refine (Aax.calls (rd Ag (rd Ai x57_2)) (rd Ai x64_3) Cq _ A38.1).mono ?_);rintro e w' ⟨rfl,⟨nd,rfl⟩⟩;(try first|exact ⟨rfl,_,World.drewN_drewN _ _ _⟩|exact ⟨rfl,_,Eq.trans (World.drewN_drewN _ _ _) (congrArg (World.drewN _) (Nat.add_assoc _ _ _))⟩);obtain ⟨Z,Z,Z,Z⟩:=o2_ Ad.1;have Bt : 0 ≤ (x57_2 : Int):=of_decide_eq_true (by first|(with_reducible assumption)|assumption);have Bu : x57_2 < (Ae.length : Int):=of_decide_eq_true (by first|(with_reducible assumption)|assumption);obtain ⟨Du,C7,Cl⟩:=Kd.at_int (Kd.R_reads' Aa.1).2.2 x57_2 Bt Bu;cases C7;replace Bt:=eq_true Bt;replace Bu:=eq_true Bu)|(go_at_call 17;(with_reducible refine (Aax.calls (rd Ae x57_2) x64_3 Cr _ A41.1).mono ?_);rintro e w' ⟨rfl,⟨nd,rfl⟩⟩;(try first|exact ⟨rfl,_,World.drewN_drewN _ _ _⟩|exact ⟨rfl,_,Eq.trans (World.drewN_drewN _ _ _) (congrArg (World.drewN _) (Nat.add_assoc _ _ _))⟩))))
                       go_roundg k3
                       case measure=>have:=HJ7.1;have:=HK2.1;have:=HK3.1;omega
                       case rel=>exact ⟨(wrap64 (x64_3 + 1)),(by first|rfl|(simp;done)|(simp [*];done)),H',⟨by have:=HJ7.1;have:=HK2.1;have:=HK3.1;omega⟩,⟨rl_ HO_7⟩,⟨rl_ HO_55⟩,⟨rl_ HO_62⟩,⟨rl_ Ab⟩,⟨rl_ Aa⟩,⟨bl_ Ac⟩,⟨bl_ Ad⟩,⟨bb_⟩⟩
                     ·rw [if_neg c40] at H;exact absurd H (by simp)
                    ·rw [if_neg c39] at H;exact absurd H (by simp)
                   ·rw [if_neg c37] at H;exact absurd H (by simp)
                  ·rw [if_neg c36] at H;exact absurd H (by simp)
                 ·rw [if_neg c35] at H;have c35b0 : (x57_2 == x64_3) = false:=beq_eq_false_iff_ne.mpr c35;have c35b1 : (x57_2 != x64_3) = true:=bne_iff_ne.mpr c35;by_cases c49 : (rd Ai x57_2) = (rd Ai x64_3)
                  ·rw [if_pos c49] at H;have c49b0 : ((rd Ai x57_2) == (rd Ai x64_3)) = true:=beq_iff_eq.mpr c49;have c49b1 : ((rd Ai x57_2) != (rd Ai x64_3)) = false:=bne_eq_false_iff_eq.mpr c49;clear c49;obtain rfl:=Option.some.inj H;have B2 : 0 ≤ (x64_3 : Int):=of_decide_eq_true (by first|(with_reducible assumption)|assumption);have B4 : x64_3 < (Ai.length : Int):=of_decide_eq_true (by first|(with_reducible assumption)|assumption);obtain ⟨C3,Dn,Cn⟩:=Kd.at_int (Kd.R_reads' HO_62.1).2.2 x64_3 B2 B4;obtain rfl : Cj = C3:=(by injection Dn);replace B2:=eq_true B2;replace B4:=eq_true B4;go_wp2
                   repeat (go_quiet (fail);try go_wp2)
                   go_ret
                   exact ⟨by first|rfl|(simp [errW_none,errW_some] <;> rfl)|(simp [*,errW_none,errW_some] <;> rfl),bb_⟩
                  ·rw [if_neg c49] at H;have c49b0 : ((rd Ai x57_2) == (rd Ai x64_3)) = false:=beq_eq_false_iff_ne.mpr c49;have c49b1 : ((rd Ai x57_2) != (rd Ai x64_3)) = true:=bne_iff_ne.mpr c49;by_cases c50 : 0 ≤ (rd Ai x57_2)
                   ·rw [if_pos c50] at H;have c50b0 : decide (0 ≤ (rd Ai x57_2)) = true:=decide_eq_true c50;clear c50;by_cases c51 : (rd Ai x57_2) < (Ag.length : Int)
                    ·rw [if_pos c51] at H;have c51b0 : decide ((rd Ai x57_2) < (Ag.length : Int)) = true:=decide_eq_true c51;clear c51;replace H:=Option.bind_eq_some_iff.mp H;obtain ⟨Cs,E7,H⟩:=H;(try dsimp only at H);have A52:=A_ E7;clear E7;by_cases c53 : 0 ≤ x57_2
                     ·rw [if_pos c53] at H;have c53b0 : decide (0 ≤ x57_2) = true:=decide_eq_true c53;clear c53;by_cases c54 : x57_2 < (Ae.length : Int)
                      ·rw [if_pos c54] at H;have c54b0 : decide (x57_2 < (Ae.length : Int)) = true:=decide_eq_true c54;clear c54;replace H:=Option.bind_eq_some_iff.mp H;obtain ⟨Ct,E8,H⟩:=H;(try dsimp only at H);have A55:=A_ E8;clear E8;by_cases c56 : (Cs != Ct) = true
                       ·rw [if_pos c56] at H;have c56b0 : (Cs != Ct) = true:=c56;(try (have c56b1 : decide (Cs = Ct) = false:=by simpa using c56));(try (have c56b2 : (Cs == Ct) = false:=by simpa using c56));(try (have c56b3 : ¬ (Cs = Ct):=by simpa using c56));clear c56;obtain rfl:=Option.some.inj H;have B2 : 0 ≤ (x64_3 : Int):=of_decide_eq_true (by first|(with_reducible assumption)|assumption);have B4 : x64_3 < (Ai.length : Int):=of_decide_eq_true (by first|(with_reducible assumption)|assumption);obtain ⟨C3,Dn,Cn⟩:=Kd.at_int (Kd.R_reads' HO_62.1).2.2 x64_3 B2 B4;obtain rfl : Cj = C3:=(by injection Dn);replace B2:=eq_true B2;replace B4:=eq_true B4;have Z:=Bi.1;have Z:=Bj.1;obtain ⟨Z,Z,Z,Z⟩:=o2_ Ac.1;have C8 : 0 ≤ ((rd Ai x57_2) : Int):=of_decide_eq_true (by first|(with_reducible assumption)|assumption);have C9 : (rd Ai x57_2) < (Ag.length : Int):=of_decide_eq_true (by first|(with_reducible assumption)|assumption);obtain ⟨Fq,Ej,Dj⟩:=Kd.at_int (Kd.R_reads' Ab.1).2.2 (rd Ai x57_2) C8 C9;cases Ej
                        replace C8:=eq_true C8;replace C9:=eq_true C9;go_wp2_with (first|(go_at_call 17;(with_reducible refine (Aax.calls (rd Ag (rd Ai x57_2)) (rd Ai x64_3) Cs _ A52.1).mono ?_);rintro e w' ⟨rfl,⟨nd,rfl⟩⟩;(try first|exact ⟨rfl,_,World.drewN_drewN _ _ _⟩|exact ⟨rfl,_,Eq.trans (World.drewN_drewN _ _ _) (congrArg (World.drewN _) (Nat.add_assoc _ _ _))⟩);obtain ⟨Z,Z,Z,Z⟩:=o2_ Ad.1;have Bv : 0 ≤ (x57_2 : Int):=of_decide_eq_true (by first|(with_reducible assumption)|assumption);have Bw : x57_2 < (Ae.length : Int):=of_decide_eq_true (by first|(with_reducible assumption)|assumption);obtain ⟨Dv,Da,Cm⟩:=Kd.at_int (Kd.R_reads' Aa.1).2.2 x57_2 Bv Bw;cases Da;replace Bv:=eq_true Bv;replace Bw:=eq_true Bw)|(go_at_call 17;(with_reducible refine (Aax.calls (rd Ae x57_2) x64_3 Ct _ A55.1).mono ?_);rintro e w' ⟨rfl,⟨nd,rfl⟩⟩;(try first|exact ⟨rfl,_,World.drewN_drewN _ _ _⟩|exact ⟨rfl,_,Eq.trans (World.drewN_drewN _ _ _) (congrArg (World.drewN _) (Nat.add_assoc _ _ _))⟩)))
                        repeat (go_quiet (first|(go_at_call 17;(with_reducible refine (Aax.calls (rd Ag (rd Ai x57_2)) (rd Ai x64_3) Cs _ A52.1).mono ?_);rintro e w' ⟨rfl,⟨nd,rfl⟩⟩;(try first|exact ⟨rfl,_,World.drewN_drewN _ _ _⟩|exact ⟨rfl,_,Eq.trans (World.drewN_drewN _ _ _) (congrArg (World.drewN _) (Nat.add_assoc _ _ _))⟩);obtain ⟨Z,Z,Z,Z⟩:=o2_ Ad.1;have Bv : 0 ≤ (x57_2 : Int):=of_decide_eq_true (by first|(with_reducible assumption)|assumption);have Bw : x57_2 < (Ae.length : Int):=of_decide_eq_true (by first|(with_reducible assumption)|assumption);obtain ⟨Dv,Da,Cm⟩:=Kd.at_int (Kd.R_reads' Aa.1).2.2 x57_2 Bv Bw;cases Da;replace Bv:=eq_true Bv;replace Bw:=eq_true Bw)|(go_at_call 17;(with_reducible refine (Aax.calls (rd Ae x57_2) x64_3 Ct _ A55.1).mono ?_);rintro e w' ⟨rfl,⟨nd,rfl⟩⟩;(try first|exact ⟨rfl,_,World.drewN_drewN _ _ _⟩|exact ⟨rfl,_,Eq.trans (World.drewN_drewN _ _ _) (congrArg (World.drewN _) (Nat.add_assoc _ _ _))⟩)));try go_wp2_with (first|(go_at_call 17;(with_reducible refine (Aax.calls (rd Ag (rd Ai x57_2)) (rd Ai x64_3) Cs _ A52.1).mono ?_);rintro e w' ⟨rfl,⟨nd,rfl⟩⟩;(try first|exact ⟨rfl,_,World.drewN_drewN _ _ _⟩|exact ⟨rfl,_,Eq.trans (World.drewN_drewN _ _ _) (congrArg (World.drewN _) (Nat.add_assoc _ _ _))⟩);obtain ⟨Z,Z,Z,Z⟩:=o2_ Ad.1;have Bv : 0 ≤ (x57_2 : Int):=of_decide_eq_true (by first|(with_reducible assumption)|assumption);have Bw : x57_2 < (Ae.length : Int):=of_decide_eq_true (by first|(with_reducible assumption)|assumption);obtain ⟨Dv,Da,Cm⟩:=Kd.at_int (Kd.R_reads' Aa.1).2.2 x57_2 Bv Bw;cases Da;replace Bv:=eq_true Bv;replace Bw:=eq_true Bw)|(go_at_call 17;(with_reducible refine (Aax.calls (rd Ae x57_2) x64_3 Ct _ A55.1).mono ?_);rintro e w' ⟨rfl,⟨nd,rfl⟩⟩;(try first|exact ⟨rfl,_,World.drewN_drewN _ _ _⟩|exact ⟨rfl,_,Eq.trans (World.drewN_drewN _ _ _) (congrArg (World.drewN _) (Nat.add_assoc _ _ _))⟩))))
                        go_ret
                        exact ⟨by first|rfl|(simp [errW_none,errW_some] <;> rfl)|(simp [*,errW_none,errW_some] <;> rfl),bb_⟩
                       ·rw [if_neg c56] at H;have c56b0 : (Cs != Ct) = false:=by simpa using c56
                        (try (have c56b1 : decide (Cs = Ct) = true:=by simpa using c56));(try (have c56b2 : (Cs == Ct) = true:=by simpa using c56));clear c56;have H':=A_ H;clear H;have B2 : 0 ≤ (x64_3 : Int):=of_decide_eq_true (by first|(with_reducible assumption)|assumption);have B4 : x64_3 < (Ai.length : Int):=of_decide_eq_true (by first|(with_reducible assumption)|assumption);obtain ⟨C3,Dn,Cn⟩:=Kd.at_int (Kd.R_reads' HO_62.1).2.2 x64_3 B2 B4;obtain rfl : Cj = C3:=(by injection Dn);replace B2:=eq_true B2;replace B4:=eq_true B4;have Z:=Bi.1;have Z:=Bj.1;obtain ⟨Z,Z,Z,Z⟩:=o2_ Ac.1;have C8 : 0 ≤ ((rd Ai x57_2) : Int):=of_decide_eq_true (by first|(with_reducible assumption)|assumption);have C9 : (rd Ai x57_2) < (Ag.length : Int):=of_decide_eq_true (by first|(with_reducible assumption)|assumption);obtain ⟨Fq,Ej,Dj⟩:=Kd.at_int (Kd.R_reads' Ab.1).2.2 (rd Ai x57_2) C8 C9;cases Ej
                        replace C8:=eq_true C8;replace C9:=eq_true C9;go_wp2_with (first|(go_at_call 17;(with_reducible refine (Aax.calls (rd Ag (rd Ai x57_2)) (rd Ai x64_3) Cs _ A52.1).mono ?_);rintro e w' ⟨rfl,⟨nd,rfl⟩⟩;(try first|exact ⟨rfl,_,World.drewN_drewN _ _ _⟩|exact ⟨rfl,_,Eq.trans (World.drewN_drewN _ _ _) (congrArg (World.drewN _) (Nat.add_assoc _ _ _))⟩);obtain ⟨Z,Z,Z,Z⟩:=o2_ Ad.1;have Bv : 0 ≤ (x57_2 : Int):=of_decide_eq_true (by first|(with_reducible assumption)|assumption);have Bw : x57_2 < (Ae.length : Int):=of_decide_eq_true (by first|(with_reducible assumption)|assumption);obtain ⟨Dv,Da,Cm⟩:=Kd.at_int (Kd.R_reads' Aa.1).2.2 x57_2 Bv Bw;cases Da;replace Bv:=eq_true Bv;replace Bw:=eq_true Bw)|(go_at_call 17;(with_reducible refine (Aax.calls (rd Ae x57_2) x64_3 Ct _ A55.1).mono ?_);rintro e w' ⟨rfl,⟨nd,rfl⟩⟩;(try first|exact ⟨rfl,_,World.drewN_drewN _ _ _⟩|exact ⟨rfl,_,Eq.trans (World.drewN_drewN _ _ _) (congrArg (World.drewN _) (Nat.add_assoc _ _ _))⟩)))
                        repeat (go_quiet (first|(go_at_call 17;(with_reducible refine (Aax.calls (rd Ag (rd Ai x57_2)) (rd Ai x64_3) Cs _ A52.1).mono ?_);rintro e w' ⟨rfl,⟨nd,rfl⟩⟩;(try first|exact ⟨rfl,_,World.drewN_drewN _ _ _⟩|exact ⟨rfl,_,Eq.trans (World.drewN_drewN _ _ _) (congrArg (World.drewN _) (Nat.add_assoc _ _ _))⟩);obtain ⟨Z,Z,Z,Z⟩:=o2_ Ad.1;have Bv : 0 ≤ (x57_2 : Int):=of_decide_eq_true (by first|(with_reducible assumption)|assumption);have Bw : x57_2 < (Ae.length : Int):=of_decide_eq_true (by first|(with_reducible assumption)|assumption);obtain ⟨Dv,Da,Cm⟩:=Kd.at_int (Kd.R_reads' Aa.1).2.2 x57_2 Bv Bw;cases Da;replace Bv:=eq_true Bv;replace Bw:=eq_true Bw)|(go_at_call 17;(with_reducible refine (Aax.calls (rd Ae x57_2) x64_3 Ct _ A55.1).mono ?_);rintro e w' ⟨rfl,⟨nd,rfl⟩⟩;(try first|exact ⟨rfl,_,World.drewN_drewN _ _ _⟩|exact ⟨rfl,_,Eq.trans (World.drewN_drewN _ _ _) (congrArg (World.drewN _) (Nat.add_assoc _ _ _))⟩)));try go_wp2_with (first|(go_at_call 17;(with_reducible refine (Aax.calls (rd Ag (rd Ai x57_2)) (rd Ai x64_3) Cs _ A52.1).mono ?_);rintro e w' ⟨rfl,⟨nd,rfl⟩⟩;(try first|exact ⟨rfl,_,World.drewN_drewN _ _ _⟩|exact ⟨rfl,_,Eq.trans (World.drewN_drewN _ _ _) (congrArg (World.drewN _) (Nat.add_assoc _ _ _))⟩);obtain ⟨Z,Z,Z,Z⟩:=o2_ Ad.1;have Bv : 0 ≤ (x57_2 : Int):=of_decide_eq_true (by first|(with_reducible assumption)|assumption);have Bw : x57_2 < (Ae.length : Int):=of_decide_eq_true (by first|(with_reducible assumption)|assumption);obtain ⟨Dv,Da,Cm⟩:=Kd.at_int (Kd.R_reads' Aa.1).2.2 x57_2 Bv Bw;cases Da;replace Bv:=eq_true Bv;replace Bw:=eq_true Bw)|(go_at_call 17;(with_reducible refine (Aax.calls (rd Ae x57_2) x64_3 Ct _ A55.1).mono ?_);rintro e w' ⟨rfl,⟨nd,rfl⟩⟩;(try first|exact ⟨rfl,_,World.drewN_drewN _ _ _⟩|exact ⟨rfl,_,Eq.trans (World.drewN_drewN _ _ _) (congrArg (World.drewN _) (Nat.add_assoc _ _ _))⟩))))
                        go_roundg k3
                        case measure=>have:=HJ7.1;have:=HK2.1;have:=HK3.1;omega
                        case rel=>exact ⟨(wrap64 (x64_3 + 1)),(by first|rfl|(simp;done)|(simp [*];done)),H',⟨by have:=HJ7.1;have:=HK2.1;have:=HK3.1;omega⟩,⟨rl_ HO_7⟩,⟨rl_ HO_55⟩,⟨rl_ HO_62⟩,⟨rl_ Ab⟩,⟨rl_ Aa⟩,⟨bl_ Ac⟩,⟨bl_ Ad⟩,⟨bb_⟩⟩
                      ·rw [if_neg c54] at H;exact absurd H (by simp)
                     ·rw [if_neg c53] at H;exact absurd H (by simp)
                    ·rw [if_neg c51] at H;exact absurd H (by simp)
                   ·rw [if_neg c50] at H;exact absurd H (by simp)
                ·rw [if_neg c34] at H;exact absurd H (by simp)
               ·rw [if_neg c33] at H;exact absurd H (by simp)
              ·rw [if_neg c32] at H;have c32b0 : decide (x64_3 < (Ai.length : Int)) = false:=decide_eq_false c32;clear c32;have H':=A_ H;clear H;go_wp2
               repeat (go_quiet (fail);try go_wp2)
               go_roundg k3
               case measure=>have:=HJ7.1;have:=HK2.1;have:=HK3.1;omega
               case rel=>exact ⟨(wrap64 (x57_2 + 1)),(by first|rfl|(simp;done)|(simp [*];done)),H',⟨by have:=HJ7.1;have:=HK2.1;have:=HK3.1;omega⟩,⟨rl_ HO_7⟩,⟨rl_ HO_55⟩,⟨rq_ (Kd.R_mono Ab.1 (fun _ hk=>⟨hk.1,⟨hk.2.1,hk.2.2.2⟩⟩))⟩,⟨rq_ (Kd.R_mono Aa.1 (fun _ hk=>⟨hk.1,⟨hk.2.1,hk.2.2.2⟩⟩))⟩,⟨bl_ Ac⟩,⟨bl_ Ad⟩,⟨bb_⟩⟩
           ·rw [if_neg c31] at H;exact absurd H (by simp)
          ·rw [if_neg c30] at H;exact absurd H (by simp)
         ·rw [if_neg c29] at H;have c29b0 : decide (x57_2 < (Ai.length : Int)) = false:=decide_eq_false c29;clear c29;(first|rw [c29b0]|(simp only [i64_w,i32_w];rw [c29b0])|skip)
          by_cases c63 : (Ai.length : Int) = A9
          ·rw [if_pos c63] at H;have c63b0 : ((Ai.length : Int) == A9) = true:=beq_iff_eq.mpr c63;have c63b1 : ((Ai.length : Int) != A9) = false:=bne_eq_false_iff_eq.mpr c63;clear c63;have H':=A_ H;clear H;have Z:=Bj.1;have Z:=Bi.1;obtain ⟨Z,Z,Z,Z⟩:=o2_ Ad.1;go_wp2
           repeat (go_quiet (fail);try go_wp2)
           go_meet
           case rel=>exact ⟨_,H',⟨by have:=HJ7.1;have:=HK2.1;first|omega|exact Nat.le_refl _⟩,⟨rq_ (Kd.R_mono Ab.1 (fun _ hk=>hk.2.2))⟩,⟨rq_ (Kd.R_mono Aa.1 (fun _ hk=>hk.2.2))⟩,⟨bl_ Ac⟩,⟨bl_ Ad⟩,⟨bb_⟩⟩
          ·rw [if_neg c63] at H;have c63b0 : ((Ai.length : Int) == A9) = false:=beq_eq_false_iff_ne.mpr c63;have c63b1 : ((Ai.length : Int) != A9) = true:=bne_iff_ne.mpr c63;obtain rfl:=Option.some.inj H;have Z:=Bj.1;have Z:=Bi.1;obtain ⟨Z,Z,Z,Z⟩:=o2_ Ad.1;go_wp2
           repeat (go_quiet (fail);try go_wp2)
           go_ret
           exact ⟨by first|rfl|(simp [errW_none,errW_some] <;> rfl)|(simp [*,errW_none,errW_some] <;> rfl),bb_⟩
      ·replace c27:=Bool.eq_false_iff.mpr c27;subst c27;rw [if_neg nf_] at H;have H':=A_ H;clear H;go_wp2
       repeat (go_quiet (fail);try go_wp2)
       go_meet
       case rel=>exact ⟨_,H',⟨by have:=HJ7.1;first|omega|exact Nat.le_refl _⟩,⟨rq_ (Kd.R_mono Ab.1 (fun _ hk=>hk.2))⟩,⟨rq_ (Kd.R_mono Aa.1 (fun _ hk=>hk.2))⟩,⟨bl_ Ac⟩,⟨bl_ Ad⟩,⟨bb_⟩⟩
     case rest =>
      clear HC26;try clear c1
      try clear c2
      try clear p2
      try clear c3
      try clear c4
      try clear c5
      try clear c6
      try clear p6
      try clear q6
      try clear hx6
      try clear p7
      try clear q7
      try clear hx7
      try clear c12
      try clear c21
      try clear c21b0
      try clear c21b1
      try clear c21b2
      try clear c25
      try clear c27
      try clear c29
      try clear c29b0
      try clear c30
      try clear c30b0
      try clear c31
      try clear c31b0
      try clear c32
      try clear c32b0
      try clear c33
      try clear c33b0
      try clear c34
      try clear c34b0
      try clear c35
      try clear c35b0
      try clear c35b1
      try clear c36
      try clear c36b0
      try clear c37
      try clear c37b0
      try clear c39
      try clear c39b0
      try clear c40
      try clear c40b0
      try clear c42
      try clear c42b0
      try clear c42b1
      try clear c42b2
      try clear c43
      try clear c46
      try clear c49
      try clear c49b0
      try clear c49b1
      try clear c50
      try clear c50b0
      try clear c51
      try clear c51b0
      try clear c53
      try clear c53b0
      try clear c54
      try clear c54b0
      try clear c56
      try clear c56b0
      try clear c56b1
      try clear c56b2
      try clear c57
      try clear c60
      try clear c63
      try clear c63b0
      try clear c63b1
      try clear c64
      try clear p64
      try clear c66
      repeat clear Z
      try clear Dh
      try clear Cn
      try clear Di
      try clear Cl
      try clear Dj
      try clear Cm
      try clear p2
      try clear p6
      try clear Do
      try clear B2
      try clear C5
      try clear Bt
      try clear C8
      try clear Bv
      try clear q6
      try clear Dp
      try clear B4
      try clear C6
      try clear Bu
      try clear C9
      try clear Bw
      obtain ⟨kq,HA,HJ25,Ab,Aa,Ac,Ad,HB⟩:=hcut;cases kq with
      | zero=>exact absurd HA.1 (by simp [Aad.j3])
      | succ kj25 =>
       have H:=HA.1;clear HA;simp only [Aad.j3] at H
       replace H:=Option.bind_eq_some_iff.mp H;obtain ⟨⟨Au,Al,Aj⟩,E9,H⟩:=H;(try dsimp only at H);have A68:=A_ E9;clear E9;replace H:=Option.bind_eq_some_iff.mp H;obtain ⟨⟨Aw,Am,C1⟩,Fa,H⟩:=H;(try dsimp only at H);have A69:=A_ Fa;clear Fa;replace H:=Option.bind_eq_some_iff.mp H;obtain ⟨⟨Bf,Av,Db⟩,Fb,H⟩:=H;(try dsimp only at H);have A70:=A_ Fb;clear Fb;have HC71:=A_ H;clear H
       go_upto_region 24 with (first|(go_at_call 26;(with_reducible refine (Aa0.calls kj25 _ _ l1 Au Al Aj _ ?side1 ?side2 A68.1).mono ?_);(case side1=>exact cl_ (Kd.C_below HR1.1 HB.1));(case side2=>exact HC1.1);rintro e w72 ⟨Fc,Fd,rfl,ho0,ho1,hb⟩;have Ap:=A_ (Kd.R_lower (Kd.R_new' (Kd.R_new' ho0 (Kd.R_lt (rl_ Ab))) (Kd.R_lt (rl_ Aa))) (below_size bb_));have Aq:=A_ (Kd.R_lower (Kd.R_new' (Kd.R_new' ho1 (Kd.R_lt (rl_ Ab))) (Kd.R_lt (rl_ Aa))) (below_size bb_));replace Ab:=A_ (Kd.R_mono (Kd.R_told (Kd.R_told (Kd.R_old (rl_ Ab) hb) (Kd.R_base ho0)) (Kd.R_base ho1)) (fun _ h_=>h_.1));replace Aa:=A_ (Kd.R_mono (Kd.R_told (Kd.R_told (Kd.R_old (rl_ Aa) hb) (Kd.R_base ho0)) (Kd.R_base ho1)) (fun _ h_=>h_.1));replace Ac:=bz Ac hb;replace Ad:=bz Ad hb;replace HB:=A_ (below_step bb_ hb);(try clear hb);(try clear hb2);(try clear hk);(try clear hi);(try clear ho0);(try clear ho1))|((with_reducible refine gate_dst (N:=15) rfl ?_);refine box_event ?hg (N:=15) ?hd (cs:=#[.int .i64 0,.slice none 0 0]) (t:=26) ?hr ?_;(case hd=>rfl);(case hg=>rfl);(case hr=>go_simp;try rfl);intro Ck hg w73 hbox hb;replace Ab:=rb_ Ab hb;replace Aa:=rb_ Aa hb;replace Ap:=rb_ Ap hb;replace Aq:=rb_ Aq hb;have Af:=A_ (hbox);have Ep:=A_ (gw_ (w:=w) hg bb_);have Er:=A_ (gw_ (w:=w) hg bb_);replace HB:=A_ (below_step bb_ hb);have Bl:=A_ (nl_ hg Ac);have Cg:=A_ (ng_ hg Ac);replace Ac:=bz Ac hb;have Bm:=A_ (nl_ hg Ad);have Ch:=A_ (ng_ hg Ad);replace Ad:=bz Ad hb;clear hb hbox hg;have Z:=Cg.1;have Z:=Bl.1;have Z:=Ch.1;have Z:=Bm.1;obtain ⟨Z,Z,Z,Z⟩:=o2_ Af.1;obtain ⟨Ao77,co77,eo77⟩:=Kd.R_slice Ap.1;subst eo77;obtain ⟨Ao78,co78,eo78⟩:=Kd.R_slice Aq.1;subst eo78)|(go_at_call 27;(with_reducible refine (Aag.calls kj25 Au _ _ Al _ _ Aj Aw Am C1 _ ?side1 ?side2 ?side3 ?side4 ?side5 A69.1).mono ?_);(case side1=>refine (Kd.R_reads' (e:=3) (base:=w.heap.size) (ok:=fun k_=>((some k_ ≠ (.slice Ao78 Aj.length co78 : Value).ownBlock ∧ some k_ ≠ (.slice Ao14 Ag.length co14 : Value).ownBlock) ∧ some k_ ≠ (.slice Ao16 Ae.length co16 : Value).ownBlock)) (n:=Al.length) (c:=co77) ?_).2.2;exact (rq_ (rf_ Ap Af (.int .i64 Au) (.slice Ao77 Al.length co77))));(case side2=>exact (Kd.R_reads' Ap.1).2.1);(case side3=>refine (Kd.R_reads' (e:=3) (base:=w.heap.size) (ok:=fun k_=>((some k_ ≠ (.slice Ao77 Al.length co77 : Value).ownBlock ∧ some k_ ≠ (.slice Ao14 Ag.length co14 : Value).ownBlock) ∧ some k_ ≠ (.slice Ao16 Ae.length co16 : Value).ownBlock)) (n:=Aj.length) (c:=co78) ?_).2.2;exact (rq_ (rf_ Aq Af (.int .i64 Au) (.slice Ao77 Al.length co77))));(case side4=>exact (Kd.R_reads' Aq.1).2.1);(case side5=>first|exact HT.1|exact HT.1.below bb_|(repeat (first|exact HT.1|apply TabOK.drewN|apply TabOK.drew|apply TabOK.alloc)));rintro e w79 ⟨Fe,rfl,ho0,hb⟩;have Bc:=A_ (Kd.R_lower (Kd.R_new' (Kd.R_new' (Kd.R_new' (Kd.R_new' ho0 (Kd.R_lt (rq_ (rf_ Ab Af (.int .i64 Au) (.slice Ao77 Al.length co77))))) (Kd.R_lt (rq_ (rf_ Aa Af (.int .i64 Au) (.slice Ao77 Al.length co77))))) (Kd.R_lt (rq_ (rf_ Ap Af (.int .i64 Au) (.slice Ao77 Al.length co77))))) (Kd.R_lt (rq_ (rf_ Aq Af (.int .i64 Au) (.slice Ao77 Al.length co77))))) (below_size bb_));replace Ab:=A_ (Kd.R_elder' (rq_ (rf_ Ab Af (.int .i64 Au) (.slice Ao77 Al.length co77))) (Kd.R_base ho0) hb);replace Aa:=A_ (Kd.R_elder' (rq_ (rf_ Aa Af (.int .i64 Au) (.slice Ao77 Al.length co77))) (Kd.R_base ho0) hb);replace Ap:=A_ (Kd.R_elder' (rq_ (rf_ Ap Af (.int .i64 Au) (.slice Ao77 Al.length co77))) (Kd.R_base ho0) hb);replace Aq:=A_ (Kd.R_elder' (rq_ (rf_ Aq Af (.int .i64 Au) (.slice Ao77 Al.length co77))) (Kd.R_base ho0) hb);replace Ac:=A_ (blk_below (g:=As) (o:=.cells #[.int .i64 Ba,.slice Ao14 Ag.length co14] 26 (0,0)) (by (with_reducible repeat (first|refine blk_drewN ?_ _|refine blk_drew ?_|refine blk_alloc ?_ _));refine blk_far ?_ Bl.1 _;(with_reducible repeat (first|refine blk_drewN ?_ _|refine blk_drew ?_|refine blk_alloc ?_ _));refine blk_far ?_ Bl.1 _;(with_reducible repeat (first|refine blk_drewN ?_ _|refine blk_drew ?_|refine blk_alloc ?_ _));exact Ac.1) hb);replace Ad:=A_ (blk_below (g:=At) (o:=.cells #[.int .i64 A9,.slice Ao16 Ae.length co16] 26 (0,0)) (by (with_reducible repeat (first|refine blk_drewN ?_ _|refine blk_drew ?_|refine blk_alloc ?_ _));refine blk_far ?_ Bm.1 _;(with_reducible repeat (first|refine blk_drewN ?_ _|refine blk_drew ?_|refine blk_alloc ?_ _));refine blk_far ?_ Bm.1 _;(with_reducible repeat (first|refine blk_drewN ?_ _|refine blk_drew ?_|refine blk_alloc ?_ _));exact Ad.1) hb);replace Af:=A_ (blk_below (g:=Ck) (o:=.cells #[.int .i64 Au,.slice Ao77 Al.length co77] 26 (0,0)) (by (with_reducible repeat (first|refine blk_drewN ?_ _|refine blk_drew ?_|refine blk_alloc ?_ _));refine blk_put (cs:=#[.int .i64 Au,.slice none 0 0]) ?_ 1 _ rfl;(with_reducible repeat (first|refine blk_drewN ?_ _|refine blk_drew ?_|refine blk_alloc ?_ _));refine blk_put (cs:=#[.int .i64 0,.slice none 0 0]) ?_ 0 _ rfl;(with_reducible repeat (first|refine blk_drewN ?_ _|refine blk_drew ?_|refine blk_alloc ?_ _));exact Af.1) hb);replace HB:=A_ (below_step bb_ hb);(try clear hb);(try clear hb2);(try clear hk);(try clear hi);(try clear ho0))|((with_reducible refine gate_dst (N:=17) rfl ?_);refine box_event ?hg (N:=17) ?hd (cs:=#[.int .i64 0,.slice none 0 0]) (t:=26) ?hr ?_;(case hd=>rfl);(case hg=>rfl);(case hr=>go_simp;try rfl);intro Cu hg w80 hbox hb;replace Ab:=rb_ Ab hb;replace Aa:=rb_ Aa hb;replace Ap:=rb_ Ap hb;replace Aq:=rb_ Aq hb;replace Bc:=rb_ Bc hb;have Ah:=A_ (hbox);have Es:=A_ (gw_ (w:=w) hg bb_);have Et:=A_ (gw_ (w:=w) hg bb_);replace HB:=A_ (below_step bb_ hb);have Bd:=A_ (nl_ hg Ac);have Bn:=A_ (ng_ hg Ac);replace Ac:=bz Ac hb;have Be:=A_ (nl_ hg Ad);have Bo:=A_ (ng_ hg Ad);replace Ad:=bz Ad hb;have Bk:=A_ (nl_ hg Af);have B0:=A_ (ng_ hg Af);replace Af:=bz Af hb;clear hb hbox hg;have Z:=Bn.1;have Z:=Bd.1;have Z:=Bo.1;have Z:=Be.1;have Z:=B0.1;have Z:=Bk.1;obtain ⟨Z,Z,Z,Z⟩:=o2_ Ah.1;obtain ⟨Ao85,co85,eo85⟩:=Kd.R_slice Bc.1;subst eo85;obtain ⟨Z,Z,Z,Z⟩:=o2_ Af.1)|(go_at_call 28;(with_reducible refine (Aap.calls kj25 Au _ _ Al _ _ Aj Bf Av Db _ ?side1 ?side2 ?side3 ?side4 A70.1).mono ?_);(case side1=>refine (Kd.R_reads' (e:=3) (base:=w.heap.size) (ok:=fun k_=>(((some k_ ≠ (.slice Ao78 Aj.length co78 : Value).ownBlock ∧ some k_ ≠ (.slice Ao14 Ag.length co14 : Value).ownBlock) ∧ some k_ ≠ (.slice Ao16 Ae.length co16 : Value).ownBlock) ∧ some k_ ≠ (.slice Ao85 Am.length co85 : Value).ownBlock)) (n:=Al.length) (c:=co77) ?_).2.2;exact (rq_ (rf_ Ap Ah (.int .i64 Aw) (.slice Ao85 Am.length co85))));(case side2=>exact (Kd.R_reads' Ap.1).2.1);(case side3=>refine (Kd.R_reads' (e:=3) (base:=w.heap.size) (ok:=fun k_=>(((some k_ ≠ (.slice Ao77 Al.length co77 : Value).ownBlock ∧ some k_ ≠ (.slice Ao14 Ag.length co14 : Value).ownBlock) ∧ some k_ ≠ (.slice Ao16 Ae.length co16 : Value).ownBlock) ∧ some k_ ≠ (.slice Ao85 Am.length co85 : Value).ownBlock)) (n:=Aj.length) (c:=co78) ?_).2.2;exact (rq_ (rf_ Aq Ah (.int .i64 Aw) (.slice Ao85 Am.length co85))));(case side4=>exact (Kd.R_reads' Aq.1).2.1);rintro e w87 ⟨Ff,rfl,ho0,hb⟩;have Bs:=A_ (Kd.R_lower (Kd.R_new' (Kd.R_new' (Kd.R_new' (Kd.R_new' (Kd.R_new' ho0 (Kd.R_lt (rq_ (rf_ Ab Ah (.int .i64 Aw) (.slice Ao85 Am.length co85))))) (Kd.R_lt (rq_ (rf_ Aa Ah (.int .i64 Aw) (.slice Ao85 Am.length co85))))) (Kd.R_lt (rq_ (rf_ Ap Ah (.int .i64 Aw) (.slice Ao85 Am.length co85))))) (Kd.R_lt (rq_ (rf_ Aq Ah (.int .i64 Aw) (.slice Ao85 Am.length co85))))) (Kd.R_lt (rq_ (rf_ Bc Ah (.int .i64 Aw) (.slice Ao85 Am.length co85))))) (below_size bb_));replace Ab:=A_ (Kd.R_elder' (rq_ (rf_ Ab Ah (.int .i64 Aw) (.slice Ao85 Am.length co85))) (Kd.R_base ho0) hb);replace Aa:=A_ (Kd.R_elder' (rq_ (rf_ Aa Ah (.int .i64 Aw) (.slice Ao85 Am.length co85))) (Kd.R_base ho0) hb);replace Ap:=A_ (Kd.R_elder' (rq_ (rf_ Ap Ah (.int .i64 Aw) (.slice Ao85 Am.length co85))) (Kd.R_base ho0) hb);replace Aq:=A_ (Kd.R_elder' (rq_ (rf_ Aq Ah (.int .i64 Aw) (.slice Ao85 Am.length co85))) (Kd.R_base ho0) hb);replace Bc:=A_ (Kd.R_elder' (rq_ (rf_ Bc Ah (.int .i64 Aw) (.slice Ao85 Am.length co85))) (Kd.R_base ho0) hb);replace Ac:=A_ (blk_below (g:=As) (o:=.cells #[.int .i64 Ba,.slice Ao14 Ag.length co14] 26 (0,0)) (by (with_reducible repeat (first|refine blk_drewN ?_ _|refine blk_drew ?_|refine blk_alloc ?_ _));refine blk_far ?_ Bd.1 _;(with_reducible repeat (first|refine blk_drewN ?_ _|refine blk_drew ?_|refine blk_alloc ?_ _));refine blk_far ?_ Bd.1 _;(with_reducible repeat (first|refine blk_drewN ?_ _|refine blk_drew ?_|refine blk_alloc ?_ _));exact Ac.1) hb);replace Ad:=A_ (blk_below (g:=At) (o:=.cells #[.int .i64 A9,.slice Ao16 Ae.length co16] 26 (0,0)) (by (with_reducible repeat (first|refine blk_drewN ?_ _|refine blk_drew ?_|refine blk_alloc ?_ _));refine blk_far ?_ Be.1 _;(with_reducible repeat (first|refine blk_drewN ?_ _|refine blk_drew ?_|refine blk_alloc ?_ _));refine blk_far ?_ Be.1 _;(with_reducible repeat (first|refine blk_drewN ?_ _|refine blk_drew ?_|refine blk_alloc ?_ _));exact Ad.1) hb);replace Af:=A_ (blk_below (g:=Ck) (o:=.cells #[.int .i64 Au,.slice Ao77 Al.length co77] 26 (0,0)) (by (with_reducible repeat (first|refine blk_drewN ?_ _|refine blk_drew ?_|refine blk_alloc ?_ _));refine blk_far ?_ Bk.1 _;(with_reducible repeat (first|refine blk_drewN ?_ _|refine blk_drew ?_|refine blk_alloc ?_ _));refine blk_far ?_ Bk.1 _;(with_reducible repeat (first|refine blk_drewN ?_ _|refine blk_drew ?_|refine blk_alloc ?_ _));exact Af.1) hb);replace Ah:=A_ (blk_below (g:=Cu) (o:=.cells #[.int .i64 Aw,.slice Ao85 Am.length co85] 26 (0,0)) (by (with_reducible repeat (first|refine blk_drewN ?_ _|refine blk_drew ?_|refine blk_alloc ?_ _));refine blk_put (cs:=#[.int .i64 Aw,.slice none 0 0]) ?_ 1 _ rfl;(with_reducible repeat (first|refine blk_drewN ?_ _|refine blk_drew ?_|refine blk_alloc ?_ _));refine blk_put (cs:=#[.int .i64 0,.slice none 0 0]) ?_ 0 _ rfl;(with_reducible repeat (first|refine blk_drewN ?_ _|refine blk_drew ?_|refine blk_alloc ?_ _));exact Ah.1) hb);replace HB:=A_ (below_step bb_ hb);(try clear hb);(try clear hb2);(try clear hk);(try clear hi);(try clear ho0))|((with_reducible refine gate_dst (N:=19) rfl ?_);refine box_event ?hg (N:=19) ?hd (cs:=#[.int .i64 0,.slice none 0 0]) (t:=26) ?hr ?_;(case hd=>rfl);(case hg=>rfl);(case hr=>go_simp;try rfl);intro Bz hg w88 hbox hb;replace Ab:=rb_ Ab hb;replace Aa:=rb_ Aa hb;replace Ap:=rb_ Ap hb;replace Aq:=rb_ Aq hb;replace Bc:=rb_ Bc hb;replace Bs:=rb_ Bs hb;have Ao:=A_ (hbox);have Eu:=A_ (gw_ (w:=w) hg bb_);have Ew:=A_ (gw_ (w:=w) hg bb_);replace HB:=A_ (below_step bb_ hb);have Bp:=A_ (nl_ hg Ac);have Co:=A_ (ng_ hg Ac);replace Ac:=bz Ac hb;have Bq:=A_ (nl_ hg Ad);have Cp:=A_ (ng_ hg Ad);replace Ad:=bz Ad hb;have Bg:=A_ (nl_ hg Af);have B1:=A_ (ng_ hg Af);replace Af:=bz Af hb;have Bb:=A_ (nl_ hg Ah);have Br:=A_ (ng_ hg Ah);replace Ah:=bz Ah hb;clear hb hbox hg;have Z:=Co.1;have Z:=Bp.1;have Z:=Cp.1;have Z:=Bq.1;have Z:=B1.1;have Z:=Bg.1;have Z:=Br.1;have Z:=Bb.1;obtain ⟨Z,Z,Z,Z⟩:=o2_ Ao.1;obtain ⟨Ao94,co94,eo94⟩:=Kd.R_slice Bs.1;subst eo94))
       repeat (go_quiet (first|(go_at_call 26;(with_reducible refine (Aa0.calls kj25 _ _ l1 Au Al Aj _ ?side1 ?side2 A68.1).mono ?_);(case side1=>exact cl_ (Kd.C_below HR1.1 HB.1));(case side2=>exact HC1.1);rintro e w72 ⟨Fc,Fd,rfl,ho0,ho1,hb⟩;have Ap:=A_ (Kd.R_lower (Kd.R_new' (Kd.R_new' ho0 (Kd.R_lt (rl_ Ab))) (Kd.R_lt (rl_ Aa))) (below_size bb_));have Aq:=A_ (Kd.R_lower (Kd.R_new' (Kd.R_new' ho1 (Kd.R_lt (rl_ Ab))) (Kd.R_lt (rl_ Aa))) (below_size bb_));replace Ab:=A_ (Kd.R_mono (Kd.R_told (Kd.R_told (Kd.R_old (rl_ Ab) hb) (Kd.R_base ho0)) (Kd.R_base ho1)) (fun _ h_=>h_.1));replace Aa:=A_ (Kd.R_mono (Kd.R_told (Kd.R_told (Kd.R_old (rl_ Aa) hb) (Kd.R_base ho0)) (Kd.R_base ho1)) (fun _ h_=>h_.1));replace Ac:=bz Ac hb;replace Ad:=bz Ad hb;replace HB:=A_ (below_step bb_ hb);(try clear hb);(try clear hb2);(try clear hk);(try clear hi);(try clear ho0);(try clear ho1))|((with_reducible refine gate_dst (N:=15) rfl ?_);refine box_event ?hg (N:=15) ?hd (cs:=#[.int .i64 0,.slice none 0 0]) (t:=26) ?hr ?_;(case hd=>rfl);(case hg=>rfl);(case hr=>go_simp;try rfl);intro Ck hg w73 hbox hb;replace Ab:=rb_ Ab hb;replace Aa:=rb_ Aa hb;replace Ap:=rb_ Ap hb;replace Aq:=rb_ Aq hb;have Af:=A_ (hbox);have Ep:=A_ (gw_ (w:=w) hg bb_);have Er:=A_ (gw_ (w:=w) hg bb_);replace HB:=A_ (below_step bb_ hb);have Bl:=A_ (nl_ hg Ac);have Cg:=A_ (ng_ hg Ac);replace Ac:=bz Ac hb;have Bm:=A_ (nl_ hg Ad);have Ch:=A_ (ng_ hg Ad);replace Ad:=bz Ad hb;clear hb hbox hg;have Z:=Cg.1;have Z:=Bl.1;have Z:=Ch.1;have Z:=Bm.1;obtain ⟨Z,Z,Z,Z⟩:=o2_ Af.1;obtain ⟨Ao77,co77,eo77⟩:=Kd.R_slice Ap.1;subst eo77;obtain ⟨Ao78,co78,eo78⟩:=Kd.R_slice Aq.1;subst eo78)|(go_at_call 27;(with_reducible refine (Aag.calls kj25 Au _ _ Al _ _ Aj Aw Am C1 _ ?side1 ?side2 ?side3 ?side4 ?side5 A69.1).mono ?_);(case side1=>refine (Kd.R_reads' (e:=3) (base:=w.heap.size) (ok:=fun k_=>((some k_ ≠ (.slice Ao78 Aj.length co78 : Value).ownBlock ∧ some k_ ≠ (.slice Ao14 Ag.length co14 : Value).ownBlock) ∧ some k_ ≠ (.slice Ao16 Ae.length co16 : Value).ownBlock)) (n:=Al.length) (c:=co77) ?_).2.2;exact (rq_ (rf_ Ap Af (.int .i64 Au) (.slice Ao77 Al.length co77))));(case side2=>exact (Kd.R_reads' Ap.1).2.1);(case side3=>refine (Kd.R_reads' (e:=3) (base:=w.heap.size) (ok:=fun k_=>((some k_ ≠ (.slice Ao77 Al.length co77 : Value).ownBlock ∧ some k_ ≠ (.slice Ao14 Ag.length co14 : Value).ownBlock) ∧ some k_ ≠ (.slice Ao16 Ae.length co16 : Value).ownBlock)) (n:=Aj.length) (c:=co78) ?_).2.2;exact (rq_ (rf_ Aq Af (.int .i64 Au) (.slice Ao77 Al.length co77))));(case side4=>exact (Kd.R_reads' Aq.1).2.1);(case side5=>first|exact HT.1|exact HT.1.below bb_|(repeat (first|exact HT.1|apply TabOK.drewN|apply TabOK.drew|apply TabOK.alloc)));rintro e w79 ⟨Fe,rfl,ho0,hb⟩;have Bc:=A_ (Kd.R_lower (Kd.R_new' (Kd.R_new' (Kd.R_new' (Kd.R_new' ho0 (Kd.R_lt (rq_ (rf_ Ab Af (.int .i64 Au) (.slice Ao77 Al.length co77))))) (Kd.R_lt (rq_ (rf_ Aa Af (.int .i64 Au) (.slice Ao77 Al.length co77))))) (Kd.R_lt (rq_ (rf_ Ap Af (.int .i64 Au) (.slice Ao77 Al.length co77))))) (Kd.R_lt (rq_ (rf_ Aq Af (.int .i64 Au) (.slice Ao77 Al.length co77))))) (below_size bb_));replace Ab:=A_ (Kd.R_elder' (rq_ (rf_ Ab Af (.int .i64 Au) (.slice Ao77 Al.length co77))) (Kd.R_base ho0) hb);replace Aa:=A_ (Kd.R_elder' (rq_ (rf_ Aa Af (.int .i64 Au) (.slice Ao77 Al.length co77))) (Kd.R_base ho0) hb);replace Ap:=A_ (Kd.R_elder' (rq_ (rf_ Ap Af (.int .i64 Au) (.slice Ao77 Al.length co77))) (Kd.R_base ho0) hb);replace Aq:=A_ (Kd.R_elder' (rq_ (rf_ Aq Af (.int .i64 Au) (.slice Ao77 Al.length co77))) (Kd.R_base ho0) hb);replace Ac:=A_ (blk_below (g:=As) (o:=.cells #[.int .i64 Ba,.slice Ao14 Ag.length co14] 26 (0,0)) (by (with_reducible repeat (first|refine blk_drewN ?_ _|refine blk_drew ?_|refine blk_alloc ?_ _));refine blk_far ?_ Bl.1 _;(with_reducible repeat (first|refine blk_drewN ?_ _|refine blk_drew ?_|refine blk_alloc ?_ _));refine blk_far ?_ Bl.1 _;(with_reducible repeat (first|refine blk_drewN ?_ _|refine blk_drew ?_|refine blk_alloc ?_ _));exact Ac.1) hb);replace Ad:=A_ (blk_below (g:=At) (o:=.cells #[.int .i64 A9,.slice Ao16 Ae.length co16] 26 (0,0)) (by (with_reducible repeat (first|refine blk_drewN ?_ _|refine blk_drew ?_|refine blk_alloc ?_ _));refine blk_far ?_ Bm.1 _;(with_reducible repeat (first|refine blk_drewN ?_ _|refine blk_drew ?_|refine blk_alloc ?_ _));refine blk_far ?_ Bm.1 _;(with_reducible repeat (first|refine blk_drewN ?_ _|refine blk_drew ?_|refine blk_alloc ?_ _));exact Ad.1) hb);replace Af:=A_ (blk_below (g:=Ck) (o:=.cells #[.int .i64 Au,.slice Ao77 Al.length co77] 26 (0,0)) (by (with_reducible repeat (first|refine blk_drewN ?_ _|refine blk_drew ?_|refine blk_alloc ?_ _));refine blk_put (cs:=#[.int .i64 Au,.slice none 0 0]) ?_ 1 _ rfl;(with_reducible repeat (first|refine blk_drewN ?_ _|refine blk_drew ?_|refine blk_alloc ?_ _));refine blk_put (cs:=#[.int .i64 0,.slice none 0 0]) ?_ 0 _ rfl;(with_reducible repeat (first|refine blk_drewN ?_ _|refine blk_drew ?_|refine blk_alloc ?_ _));exact Af.1) hb);replace HB:=A_ (below_step bb_ hb);(try clear hb);(try clear hb2);(try clear hk);(try clear hi);(try clear ho0))|((with_reducible refine gate_dst (N:=17) rfl ?_);refine box_event ?hg (N:=17) ?hd (cs:=#[.int .i64 0,.slice none 0 0]) (t:=26) ?hr ?_;(case hd=>rfl);(case hg=>rfl);(case hr=>go_simp;try rfl);intro Cu hg w80 hbox hb;replace Ab:=rb_ Ab hb;replace Aa:=rb_ Aa hb;replace Ap:=rb_ Ap hb;replace Aq:=rb_ Aq hb;replace Bc:=rb_ Bc hb;have Ah:=A_ (hbox);have Es:=A_ (gw_ (w:=w) hg bb_);have Et:=A_ (gw_ (w:=w) hg bb_);replace HB:=A_ (below_step bb_ hb);have Bd:=A_ (nl_ hg Ac);have Bn:=A_ (ng_ hg Ac);replace Ac:=bz Ac hb;have Be:=A_ (nl_ hg Ad);have Bo:=A_ (ng_ hg Ad);replace Ad:=bz Ad hb;have Bk:=A_ (nl_ hg Af);have B0:=A_ (ng_ hg Af);replace Af:=bz Af hb;clear hb hbox hg;have Z:=Bn.1;have Z:=Bd.1;have Z:=Bo.1;have Z:=Be.1;have Z:=B0.1;have Z:=Bk.1;obtain ⟨Z,Z,Z,Z⟩:=o2_ Ah.1;obtain ⟨Ao85,co85,eo85⟩:=Kd.R_slice Bc.1;subst eo85;obtain ⟨Z,Z,Z,Z⟩:=o2_ Af.1)|(go_at_call 28;(with_reducible refine (Aap.calls kj25 Au _ _ Al _ _ Aj Bf Av Db _ ?side1 ?side2 ?side3 ?side4 A70.1).mono ?_);(case side1=>refine (Kd.R_reads' (e:=3) (base:=w.heap.size) (ok:=fun k_=>(((some k_ ≠ (.slice Ao78 Aj.length co78 : Value).ownBlock ∧ some k_ ≠ (.slice Ao14 Ag.length co14 : Value).ownBlock) ∧ some k_ ≠ (.slice Ao16 Ae.length co16 : Value).ownBlock) ∧ some k_ ≠ (.slice Ao85 Am.length co85 : Value).ownBlock)) (n:=Al.length) (c:=co77) ?_).2.2;exact (rq_ (rf_ Ap Ah (.int .i64 Aw) (.slice Ao85 Am.length co85))));(case side2=>exact (Kd.R_reads' Ap.1).2.1);(case side3=>refine (Kd.R_reads' (e:=3) (base:=w.heap.size) (ok:=fun k_=>(((some k_ ≠ (.slice Ao77 Al.length co77 : Value).ownBlock ∧ some k_ ≠ (.slice Ao14 Ag.length co14 : Value).ownBlock) ∧ some k_ ≠ (.slice Ao16 Ae.length co16 : Value).ownBlock) ∧ some k_ ≠ (.slice Ao85 Am.length co85 : Value).ownBlock)) (n:=Aj.length) (c:=co78) ?_).2.2;exact (rq_ (rf_ Aq Ah (.int .i64 Aw) (.slice Ao85 Am.length co85))));(case side4=>exact (Kd.R_reads' Aq.1).2.1);rintro e w87 ⟨Ff,rfl,ho0,hb⟩;have Bs:=A_ (Kd.R_lower (Kd.R_new' (Kd.R_new' (Kd.R_new' (Kd.R_new' (Kd.R_new' ho0 (Kd.R_lt (rq_ (rf_ Ab Ah (.int .i64 Aw) (.slice Ao85 Am.length co85))))) (Kd.R_lt (rq_ (rf_ Aa Ah (.int .i64 Aw) (.slice Ao85 Am.length co85))))) (Kd.R_lt (rq_ (rf_ Ap Ah (.int .i64 Aw) (.slice Ao85 Am.length co85))))) (Kd.R_lt (rq_ (rf_ Aq Ah (.int .i64 Aw) (.slice Ao85 Am.length co85))))) (Kd.R_lt (rq_ (rf_ Bc Ah (.int .i64 Aw) (.slice Ao85 Am.length co85))))) (below_size bb_));replace Ab:=A_ (Kd.R_elder' (rq_ (rf_ Ab Ah (.int .i64 Aw) (.slice Ao85 Am.length co85))) (Kd.R_base ho0) hb);replace Aa:=A_ (Kd.R_elder' (rq_ (rf_ Aa Ah (.int .i64 Aw) (.slice Ao85 Am.length co85))) (Kd.R_base ho0) hb);replace Ap:=A_ (Kd.R_elder' (rq_ (rf_ Ap Ah (.int .i64 Aw) (.slice Ao85 Am.length co85))) (Kd.R_base ho0) hb);replace Aq:=A_ (Kd.R_elder' (rq_ (rf_ Aq Ah (.int .i64 Aw) (.slice Ao85 Am.length co85))) (Kd.R_base ho0) hb);replace Bc:=A_ (Kd.R_elder' (rq_ (rf_ Bc Ah (.int .i64 Aw) (.slice Ao85 Am.length co85))) (Kd.R_base ho0) hb);replace Ac:=A_ (blk_below (g:=As) (o:=.cells #[.int .i64 Ba,.slice Ao14 Ag.length co14] 26 (0,0)) (by (with_reducible repeat (first|refine blk_drewN ?_ _|refine blk_drew ?_|refine blk_alloc ?_ _));refine blk_far ?_ Bd.1 _;(with_reducible repeat (first|refine blk_drewN ?_ _|refine blk_drew ?_|refine blk_alloc ?_ _));refine blk_far ?_ Bd.1 _;(with_reducible repeat (first|refine blk_drewN ?_ _|refine blk_drew ?_|refine blk_alloc ?_ _));exact Ac.1) hb);replace Ad:=A_ (blk_below (g:=At) (o:=.cells #[.int .i64 A9,.slice Ao16 Ae.length co16] 26 (0,0)) (by (with_reducible repeat (first|refine blk_drewN ?_ _|refine blk_drew ?_|refine blk_alloc ?_ _));refine blk_far ?_ Be.1 _;(with_reducible repeat (first|refine blk_drewN ?_ _|refine blk_drew ?_|refine blk_alloc ?_ _));refine blk_far ?_ Be.1 _;(with_reducible repeat (first|refine blk_drewN ?_ _|refine blk_drew ?_|refine blk_alloc ?_ _));exact Ad.1) hb);replace Af:=A_ (blk_below (g:=Ck) (o:=.cells #[.int .i64 Au,.slice Ao77 Al.length co77] 26 (0,0)) (by (with_reducible repeat (first|refine blk_drewN ?_ _|refine blk_drew ?_|refine blk_alloc ?_ _));refine blk_far ?_ Bk.1 _;(with_reducible repeat (first|refine blk_drewN ?_ _|refine blk_drew ?_|refine blk_alloc ?_ _));refine blk_far ?_ Bk.1 _;(with_reducible repeat (first|refine blk_drewN ?_ _|refine blk_drew ?_|refine blk_alloc ?_ _));exact Af.1) hb);replace Ah:=A_ (blk_below (g:=Cu) (o:=.cells #[.int .i64 Aw,.slice Ao85 Am.length co85] 26 (0,0)) (by (with_reducible repeat (first|refine blk_drewN ?_ _|refine blk_drew ?_|refine blk_alloc ?_ _));refine blk_put (cs:=#[.int .i64 Aw,.slice none 0 0]) ?_ 1 _ rfl;(with_reducible repeat (first|refine blk_drewN ?_ _|refine blk_drew ?_|refine blk_alloc ?_ _));refine blk_put (cs:=#[.int .i64 0,.slice none 0 0]) ?_ 0 _ rfl;(with_reducible repeat (first|refine blk_drewN ?_ _|refine blk_drew ?_|refine blk_alloc ?_ _));exact Ah.1) hb);replace HB:=A_ (below_step bb_ hb);(try clear hb);(try clear hb2);(try clear hk);(try clear hi);(try clear ho0))|((with_reducible refine gate_dst (N:=19) rfl ?_);refine box_event ?hg (N:=19) ?hd (cs:=#[.int .i64 0,.slice none 0 0]) (t:=26) ?hr ?_;(case hd=>rfl);(case hg=>rfl);(case hr=>go_simp;try rfl);intro Bz hg w88 hbox hb;replace Ab:=rb_ Ab hb;replace Aa:=rb_ Aa hb;replace Ap:=rb_ Ap hb;replace Aq:=rb_ Aq hb;replace Bc:=rb_ Bc hb;replace Bs:=rb_ Bs hb;have Ao:=A_ (hbox);have Eu:=A_ (gw_ (w:=w) hg bb_);have Ew:=A_ (gw_ (w:=w) hg bb_);replace HB:=A_ (below_step bb_ hb);have Bp:=A_ (nl_ hg Ac);have Co:=A_ (ng_ hg Ac);replace Ac:=bz Ac hb;have Bq:=A_ (nl_ hg Ad);have Cp:=A_ (ng_ hg Ad);replace Ad:=bz Ad hb;have Bg:=A_ (nl_ hg Af);have B1:=A_ (ng_ hg Af);replace Af:=bz Af hb;have Bb:=A_ (nl_ hg Ah);have Br:=A_ (ng_ hg Ah);replace Ah:=bz Ah hb;clear hb hbox hg;have Z:=Co.1;have Z:=Bp.1;have Z:=Cp.1;have Z:=Bq.1;have Z:=B1.1;have Z:=Bg.1;have Z:=Br.1;have Z:=Bb.1;obtain ⟨Z,Z,Z,Z⟩:=o2_ Ao.1;obtain ⟨Ao94,co94,eo94⟩:=Kd.R_slice Bs.1;subst eo94));go_upto_region 24 with (first|(go_at_call 26;(with_reducible refine (Aa0.calls kj25 _ _ l1 Au Al Aj _ ?side1 ?side2 A68.1).mono ?_);(case side1=>exact cl_ (Kd.C_below HR1.1 HB.1));(case side2=>exact HC1.1);rintro e w72 ⟨Fc,Fd,rfl,ho0,ho1,hb⟩;have Ap:=A_ (Kd.R_lower (Kd.R_new' (Kd.R_new' ho0 (Kd.R_lt (rl_ Ab))) (Kd.R_lt (rl_ Aa))) (below_size bb_));have Aq:=A_ (Kd.R_lower (Kd.R_new' (Kd.R_new' ho1 (Kd.R_lt (rl_ Ab))) (Kd.R_lt (rl_ Aa))) (below_size bb_));replace Ab:=A_ (Kd.R_mono (Kd.R_told (Kd.R_told (Kd.R_old (rl_ Ab) hb) (Kd.R_base ho0)) (Kd.R_base ho1)) (fun _ h_=>h_.1));replace Aa:=A_ (Kd.R_mono (Kd.R_told (Kd.R_told (Kd.R_old (rl_ Aa) hb) (Kd.R_base ho0)) (Kd.R_base ho1)) (fun _ h_=>h_.1));replace Ac:=bz Ac hb;replace Ad:=bz Ad hb;replace HB:=A_ (below_step bb_ hb);(try clear hb);(try clear hb2);(try clear hk);(try clear hi);(try clear ho0);(try clear ho1))|((with_reducible refine gate_dst (N:=15) rfl ?_);refine box_event ?hg (N:=15) ?hd (cs:=#[.int .i64 0,.slice none 0 0]) (t:=26) ?hr ?_;(case hd=>rfl);(case hg=>rfl);(case hr=>go_simp;try rfl);intro Ck hg w73 hbox hb;replace Ab:=rb_ Ab hb;replace Aa:=rb_ Aa hb;replace Ap:=rb_ Ap hb;replace Aq:=rb_ Aq hb;have Af:=A_ (hbox);have Ep:=A_ (gw_ (w:=w) hg bb_);have Er:=A_ (gw_ (w:=w) hg bb_);replace HB:=A_ (below_step bb_ hb);have Bl:=A_ (nl_ hg Ac);have Cg:=A_ (ng_ hg Ac);replace Ac:=bz Ac hb;have Bm:=A_ (nl_ hg Ad);have Ch:=A_ (ng_ hg Ad);replace Ad:=bz Ad hb;clear hb hbox hg;have Z:=Cg.1;have Z:=Bl.1;have Z:=Ch.1;have Z:=Bm.1;obtain ⟨Z,Z,Z,Z⟩:=o2_ Af.1;obtain ⟨Ao77,co77,eo77⟩:=Kd.R_slice Ap.1;subst eo77;obtain ⟨Ao78,co78,eo78⟩:=Kd.R_slice Aq.1;subst eo78)|(go_at_call 27;(with_reducible refine (Aag.calls kj25 Au _ _ Al _ _ Aj Aw Am C1 _ ?side1 ?side2 ?side3 ?side4 ?side5 A69.1).mono ?_);(case side1=>refine (Kd.R_reads' (e:=3) (base:=w.heap.size) (ok:=fun k_=>((some k_ ≠ (.slice Ao78 Aj.length co78 : Value).ownBlock ∧ some k_ ≠ (.slice Ao14 Ag.length co14 : Value).ownBlock) ∧ some k_ ≠ (.slice Ao16 Ae.length co16 : Value).ownBlock)) (n:=Al.length) (c:=co77) ?_).2.2;exact (rq_ (rf_ Ap Af (.int .i64 Au) (.slice Ao77 Al.length co77))));(case side2=>exact (Kd.R_reads' Ap.1).2.1);(case side3=>refine (Kd.R_reads' (e:=3) (base:=w.heap.size) (ok:=fun k_=>((some k_ ≠ (.slice Ao77 Al.length co77 : Value).ownBlock ∧ some k_ ≠ (.slice Ao14 Ag.length co14 : Value).ownBlock) ∧ some k_ ≠ (.slice Ao16 Ae.length co16 : Value).ownBlock)) (n:=Aj.length) (c:=co78) ?_).2.2;exact (rq_ (rf_ Aq Af (.int .i64 Au) (.slice Ao77 Al.length co77))));(case side4=>exact (Kd.R_reads' Aq.1).2.1);(case side5=>first|exact HT.1|exact HT.1.below bb_|(repeat (first|exact HT.1|apply TabOK.drewN|apply TabOK.drew|apply TabOK.alloc)));rintro e w79 ⟨Fe,rfl,ho0,hb⟩;have Bc:=A_ (Kd.R_lower (Kd.R_new' (Kd.R_new' (Kd.R_new' (Kd.R_new' ho0 (Kd.R_lt (rq_ (rf_ Ab Af (.int .i64 Au) (.slice Ao77 Al.length co77))))) (Kd.R_lt (rq_ (rf_ Aa Af (.int .i64 Au) (.slice Ao77 Al.length co77))))) (Kd.R_lt (rq_ (rf_ Ap Af (.int .i64 Au) (.slice Ao77 Al.length co77))))) (Kd.R_lt (rq_ (rf_ Aq Af (.int .i64 Au) (.slice Ao77 Al.length co77))))) (below_size bb_));replace Ab:=A_ (Kd.R_elder' (rq_ (rf_ Ab Af (.int .i64 Au) (.slice Ao77 Al.length co77))) (Kd.R_base ho0) hb);replace Aa:=A_ (Kd.R_elder' (rq_ (rf_ Aa Af (.int .i64 Au) (.slice Ao77 Al.length co77))) (Kd.R_base ho0) hb);replace Ap:=A_ (Kd.R_elder' (rq_ (rf_ Ap Af (.int .i64 Au) (.slice Ao77 Al.length co77))) (Kd.R_base ho0) hb);replace Aq:=A_ (Kd.R_elder' (rq_ (rf_ Aq Af (.int .i64 Au) (.slice Ao77 Al.length co77))) (Kd.R_base ho0) hb);replace Ac:=A_ (blk_below (g:=As) (o:=.cells #[.int .i64 Ba,.slice Ao14 Ag.length co14] 26 (0,0)) (by (with_reducible repeat (first|refine blk_drewN ?_ _|refine blk_drew ?_|refine blk_alloc ?_ _));refine blk_far ?_ Bl.1 _;(with_reducible repeat (first|refine blk_drewN ?_ _|refine blk_drew ?_|refine blk_alloc ?_ _));refine blk_far ?_ Bl.1 _;(with_reducible repeat (first|refine blk_drewN ?_ _|refine blk_drew ?_|refine blk_alloc ?_ _));exact Ac.1) hb);replace Ad:=A_ (blk_below (g:=At) (o:=.cells #[.int .i64 A9,.slice Ao16 Ae.length co16] 26 (0,0)) (by (with_reducible repeat (first|refine blk_drewN ?_ _|refine blk_drew ?_|refine blk_alloc ?_ _));refine blk_far ?_ Bm.1 _;(with_reducible repeat (first|refine blk_drewN ?_ _|refine blk_drew ?_|refine blk_alloc ?_ _));refine blk_far ?_ Bm.1 _;(with_reducible repeat (first|refine blk_drewN ?_ _|refine blk_drew ?_|refine blk_alloc ?_ _));exact Ad.1) hb);replace Af:=A_ (blk_below (g:=Ck) (o:=.cells #[.int .i64 Au,.slice Ao77 Al.length co77] 26 (0,0)) (by (with_reducible repeat (first|refine blk_drewN ?_ _|refine blk_drew ?_|refine blk_alloc ?_ _));refine blk_put (cs:=#[.int .i64 Au,.slice none 0 0]) ?_ 1 _ rfl;(with_reducible repeat (first|refine blk_drewN ?_ _|refine blk_drew ?_|refine blk_alloc ?_ _));refine blk_put (cs:=#[.int .i64 0,.slice none 0 0]) ?_ 0 _ rfl;(with_reducible repeat (first|refine blk_drewN ?_ _|refine blk_drew ?_|refine blk_alloc ?_ _));exact Af.1) hb);replace HB:=A_ (below_step bb_ hb);(try clear hb);(try clear hb2);(try clear hk);(try clear hi);(try clear ho0))|((with_reducible refine gate_dst (N:=17) rfl ?_);refine box_event ?hg (N:=17) ?hd (cs:=#[.int .i64 0,.slice none 0 0]) (t:=26) ?hr ?_;(case hd=>rfl);(case hg=>rfl);(case hr=>go_simp;try rfl);intro Cu hg w80 hbox hb;replace Ab:=rb_ Ab hb;replace Aa:=rb_ Aa hb;replace Ap:=rb_ Ap hb;replace Aq:=rb_ Aq hb;replace Bc:=rb_ Bc hb;have Ah:=A_ (hbox);have Es:=A_ (gw_ (w:=w) hg bb_);have Et:=A_ (gw_ (w:=w) hg bb_);replace HB:=A_ (below_step bb_ hb);have Bd:=A_ (nl_ hg Ac);have Bn:=A_ (ng_ hg Ac);replace Ac:=bz Ac hb;have Be:=A_ (nl_ hg Ad);have Bo:=A_ (ng_ hg Ad);replace Ad:=bz Ad hb;have Bk:=A_ (nl_ hg Af);have B0:=A_ (ng_ hg Af);replace Af:=bz Af hb;clear hb hbox hg;have Z:=Bn.1;have Z:=Bd.1;have Z:=Bo.1;have Z:=Be.1;have Z:=B0.1;have Z:=Bk.1;obtain ⟨Z,Z,Z,Z⟩:=o2_ Ah.1;obtain ⟨Ao85,co85,eo85⟩:=Kd.R_slice Bc.1;subst eo85;obtain ⟨Z,Z,Z,Z⟩:=o2_ Af.1)|(go_at_call 28;(with_reducible refine (Aap.calls kj25 Au _ _ Al _ _ Aj Bf Av Db _ ?side1 ?side2 ?side3 ?side4 A70.1).mono ?_);(case side1=>refine (Kd.R_reads' (e:=3) (base:=w.heap.size) (ok:=fun k_=>(((some k_ ≠ (.slice Ao78 Aj.length co78 : Value).ownBlock ∧ some k_ ≠ (.slice Ao14 Ag.length co14 : Value).ownBlock) ∧ some k_ ≠ (.slice Ao16 Ae.length co16 : Value).ownBlock) ∧ some k_ ≠ (.slice Ao85 Am.length co85 : Value).ownBlock)) (n:=Al.length) (c:=co77) ?_).2.2;exact (rq_ (rf_ Ap Ah (.int .i64 Aw) (.slice Ao85 Am.length co85))));(case side2=>exact (Kd.R_reads' Ap.1).2.1);(case side3=>refine (Kd.R_reads' (e:=3) (base:=w.heap.size) (ok:=fun k_=>(((some k_ ≠ (.slice Ao77 Al.length co77 : Value).ownBlock ∧ some k_ ≠ (.slice Ao14 Ag.length co14 : Value).ownBlock) ∧ some k_ ≠ (.slice Ao16 Ae.length co16 : Value).ownBlock) ∧ some k_ ≠ (.slice Ao85 Am.length co85 : Value).ownBlock)) (n:=Aj.length) (c:=co78) ?_).2.2;exact (rq_ (rf_ Aq Ah (.int .i64 Aw) (.slice Ao85 Am.length co85))));(case side4=>exact (Kd.R_reads' Aq.1).2.1);rintro e w87 ⟨Ff,rfl,ho0,hb⟩;have Bs:=A_ (Kd.R_lower (Kd.R_new' (Kd.R_new' (Kd.R_new' (Kd.R_new' (Kd.R_new' ho0 (Kd.R_lt (rq_ (rf_ Ab Ah (.int .i64 Aw) (.slice Ao85 Am.length co85))))) (Kd.R_lt (rq_ (rf_ Aa Ah (.int .i64 Aw) (.slice Ao85 Am.length co85))))) (Kd.R_lt (rq_ (rf_ Ap Ah (.int .i64 Aw) (.slice Ao85 Am.length co85))))) (Kd.R_lt (rq_ (rf_ Aq Ah (.int .i64 Aw) (.slice Ao85 Am.length co85))))) (Kd.R_lt (rq_ (rf_ Bc Ah (.int .i64 Aw) (.slice Ao85 Am.length co85))))) (below_size bb_));replace Ab:=A_ (Kd.R_elder' (rq_ (rf_ Ab Ah (.int .i64 Aw) (.slice Ao85 Am.length co85))) (Kd.R_base ho0) hb);replace Aa:=A_ (Kd.R_elder' (rq_ (rf_ Aa Ah (.int .i64 Aw) (.slice Ao85 Am.length co85))) (Kd.R_base ho0) hb);replace Ap:=A_ (Kd.R_elder' (rq_ (rf_ Ap Ah (.int .i64 Aw) (.slice Ao85 Am.length co85))) (Kd.R_base ho0) hb);replace Aq:=A_ (Kd.R_elder' (rq_ (rf_ Aq Ah (.int .i64 Aw) (.slice Ao85 Am.length co85))) (Kd.R_base ho0) hb);replace Bc:=A_ (Kd.R_elder' (rq_ (rf_ Bc Ah (.int .i64 Aw) (.slice Ao85 Am.length co85))) (Kd.R_base ho0) hb);replace Ac:=A_ (blk_below (g:=As) (o:=.cells #[.int .i64 Ba,.slice Ao14 Ag.length co14] 26 (0,0)) (by (with_reducible repeat (first|refine blk_drewN ?_ _|refine blk_drew ?_|refine blk_alloc ?_ _));refine blk_far ?_ Bd.1 _;(with_reducible repeat (first|refine blk_drewN ?_ _|refine blk_drew ?_|refine blk_alloc ?_ _));refine blk_far ?_ Bd.1 _;(with_reducible repeat (first|refine blk_drewN ?_ _|refine blk_drew ?_|refine blk_alloc ?_ _));exact Ac.1) hb);replace Ad:=A_ (blk_below (g:=At) (o:=.cells #[.int .i64 A9,.slice Ao16 Ae.length co16] 26 (0,0)) (by (with_reducible repeat (first|refine blk_drewN ?_ _|refine blk_drew ?_|refine blk_alloc ?_ _));refine blk_far ?_ Be.1 _;(with_reducible repeat (first|refine blk_drewN ?_ _|refine blk_drew ?_|refine blk_alloc ?_ _));refine blk_far ?_ Be.1 _;(with_reducible repeat (first|refine blk_drewN ?_ _|refine blk_drew ?_|refine blk_alloc ?_ _));exact Ad.1) hb);replace Af:=A_ (blk_below (g:=Ck) (o:=.cells #[.int .i64 Au,.slice Ao77 Al.length co77] 26 (0,0)) (by (with_reducible repeat (first|refine blk_drewN ?_ _|refine blk_drew ?_|refine blk_alloc ?_ _));refine blk_far ?_ Bk.1 _;(with_reducible repeat (first|refine blk_drewN ?_ _|refine blk_drew ?_|refine blk_alloc ?_ _));refine blk_far ?_ Bk.1 _;(with_reducible repeat (first|refine blk_drewN ?_ _|refine blk_drew ?_|refine blk_alloc ?_ _));exact Af.1) hb);replace Ah:=A_ (blk_below (g:=Cu) (o:=.cells #[.int .i64 Aw,.slice Ao85 Am.length co85] 26 (0,0)) (by (with_reducible repeat (first|refine blk_drewN ?_ _|refine blk_drew ?_|refine blk_alloc ?_ _));refine blk_put (cs:=#[.int .i64 Aw,.slice none 0 0]) ?_ 1 _ rfl;(with_reducible repeat (first|refine blk_drewN ?_ _|refine blk_drew ?_|refine blk_alloc ?_ _));refine blk_put (cs:=#[.int .i64 0,.slice none 0 0]) ?_ 0 _ rfl;(with_reducible repeat (first|refine blk_drewN ?_ _|refine blk_drew ?_|refine blk_alloc ?_ _));exact Ah.1) hb);replace HB:=A_ (below_step bb_ hb);(try clear hb);(try clear hb2);(try clear hk);(try clear hi);(try clear ho0))|((with_reducible refine gate_dst (N:=19) rfl ?_);refine box_event ?hg (N:=19) ?hd (cs:=#[.int .i64 0,.slice none 0 0]) (t:=26) ?hr ?_;(case hd=>rfl);(case hg=>rfl);(case hr=>go_simp;try rfl);intro Bz hg w88 hbox hb;replace Ab:=rb_ Ab hb;replace Aa:=rb_ Aa hb;replace Ap:=rb_ Ap hb;replace Aq:=rb_ Aq hb;replace Bc:=rb_ Bc hb;replace Bs:=rb_ Bs hb;have Ao:=A_ (hbox);have Eu:=A_ (gw_ (w:=w) hg bb_);have Ew:=A_ (gw_ (w:=w) hg bb_);replace HB:=A_ (below_step bb_ hb);have Bp:=A_ (nl_ hg Ac);have Co:=A_ (ng_ hg Ac);replace Ac:=bz Ac hb;have Bq:=A_ (nl_ hg Ad);have Cp:=A_ (ng_ hg Ad);replace Ad:=bz Ad hb;have Bg:=A_ (nl_ hg Af);have B1:=A_ (ng_ hg Af);replace Af:=bz Af hb;have Bb:=A_ (nl_ hg Ah);have Br:=A_ (ng_ hg Ah);replace Ah:=bz Ah hb;clear hb hbox hg;have Z:=Co.1;have Z:=Bp.1;have Z:=Cp.1;have Z:=Bq.1;have Z:=B1.1;have Z:=Bg.1;have Z:=Br.1;have Z:=Bb.1;obtain ⟨Z,Z,Z,Z⟩:=o2_ Ao.1;obtain ⟨Ao94,co94,eo94⟩:=Kd.R_slice Bs.1;subst eo94)))
       (try simp only [Act.put,L_,M_,N_]);go_cut [126] (fun Ft wc=>∃ (kq : Nat) (Dq : Bool),Ft = .bool Dq ∧ Aside0 (Aad.j4 kq Aj C1 Dq Au Al Aw Am = some r) ∧ Aside0 (kq ≤ kj25) ∧ Aside0 (Kd.R (Kd.int .i64) 3 wc w.heap.size (fun k_=>some k_ ≠ ((.slice Ao14 Ag.length co14) : Value).ownBlock ∧ some k_ ≠ ((.slice Ao16 Ae.length co16) : Value).ownBlock ∧ some k_ ≠ ((.slice Ao77 Al.length co77) : Value).ownBlock ∧ some k_ ≠ ((.slice Ao85 Am.length co85) : Value).ownBlock ∧ some k_ ≠ ((.slice Ao94 Av.length co94) : Value).ownBlock) (.slice Ao78 Aj.length co78) Aj) ∧ Aside0 (Kd.R (Kd.int .i64) 3 wc w.heap.size (fun k_=>some k_ ≠ ((.slice Ao78 Aj.length co78) : Value).ownBlock ∧ some k_ ≠ ((.slice Ao16 Ae.length co16) : Value).ownBlock ∧ some k_ ≠ ((.slice Ao77 Al.length co77) : Value).ownBlock ∧ some k_ ≠ ((.slice Ao85 Am.length co85) : Value).ownBlock ∧ some k_ ≠ ((.slice Ao94 Av.length co94) : Value).ownBlock) (.slice Ao14 Ag.length co14) Ag) ∧ Aside0 (Kd.R (Kd.int .i64) 3 wc w.heap.size (fun k_=>some k_ ≠ ((.slice Ao78 Aj.length co78) : Value).ownBlock ∧ some k_ ≠ ((.slice Ao14 Ag.length co14) : Value).ownBlock ∧ some k_ ≠ ((.slice Ao77 Al.length co77) : Value).ownBlock ∧ some k_ ≠ ((.slice Ao85 Am.length co85) : Value).ownBlock ∧ some k_ ≠ ((.slice Ao94 Av.length co94) : Value).ownBlock) (.slice Ao16 Ae.length co16) Ae) ∧ Aside0 (Kd.R (Kd.int .i64) 3 wc w.heap.size (fun k_=>some k_ ≠ ((.slice Ao78 Aj.length co78) : Value).ownBlock ∧ some k_ ≠ ((.slice Ao14 Ag.length co14) : Value).ownBlock ∧ some k_ ≠ ((.slice Ao16 Ae.length co16) : Value).ownBlock ∧ some k_ ≠ ((.slice Ao85 Am.length co85) : Value).ownBlock ∧ some k_ ≠ ((.slice Ao94 Av.length co94) : Value).ownBlock) (.slice Ao77 Al.length co77) Al) ∧ Aside0 (Kd.R (Kd.int .i64) 3 wc w.heap.size (fun k_=>some k_ ≠ ((.slice Ao78 Aj.length co78) : Value).ownBlock ∧ some k_ ≠ ((.slice Ao14 Ag.length co14) : Value).ownBlock ∧ some k_ ≠ ((.slice Ao16 Ae.length co16) : Value).ownBlock ∧ some k_ ≠ ((.slice Ao77 Al.length co77) : Value).ownBlock ∧ some k_ ≠ ((.slice Ao94 Av.length co94) : Value).ownBlock) (.slice Ao85 Am.length co85) Am) ∧ Aside0 (Kd.R (Kd.int .i64) 3 wc w.heap.size (fun k_=>some k_ ≠ ((.slice Ao78 Aj.length co78) : Value).ownBlock ∧ some k_ ≠ ((.slice Ao14 Ag.length co14) : Value).ownBlock ∧ some k_ ≠ ((.slice Ao16 Ae.length co16) : Value).ownBlock ∧ some k_ ≠ ((.slice Ao77 Al.length co77) : Value).ownBlock ∧ some k_ ≠ ((.slice Ao85 Am.length co85) : Value).ownBlock) (.slice Ao94 Av.length co94) Av) ∧ Aside0 (wc.heap[As]? = some (.cells #[.int .i64 Ba,(.slice Ao14 Ag.length co14)] 26 (0,0))) ∧ Aside0 (wc.heap[At]? = some (.cells #[.int .i64 A9,(.slice Ao16 Ae.length co16)] 26 (0,0))) ∧ Aside0 (wc.heap[Ck]? = some (.cells #[.int .i64 Au,(.slice Ao77 Al.length co77)] 26 (0,0))) ∧ Aside0 (wc.heap[Cu]? = some (.cells #[.int .i64 Aw,(.slice Ao85 Am.length co85)] 26 (0,0))) ∧ Aside0 (wc.heap[Bz]? = some (.cells #[.int .i64 Bf,(.slice Ao94 Av.length co94)] 26 (0,0))) ∧ Aside0 (Below w.heap.size w wc))
       case first =>
        have H:=HC71.1;clear HC71;by_cases c95 : (C1 != Db) = true
        ·rw [if_pos c95] at H;have c95b0 : (C1 != Db) = true:=c95;(try (have c95b1 : decide (C1 = Db) = false:=by simpa using c95));(try (have c95b2 : (C1 == Db) = false:=by simpa using c95));(try (have c95b3 : ¬ (C1 = Db):=by simpa using c95));clear c95;(first|rw [c95b0]|(simp only [i64_w,i32_w];rw [c95b0])|skip)
         have H':=A_ H;clear H;go_wp2
         repeat (go_quiet (fail);try go_wp2)
         go_meet
         case rel=>exact ⟨_,(true),(by first|rfl|(simp;done)|(simp [*];done)),H',⟨by have:=HJ7.1;have:=HJ25.1;first|omega|exact Nat.le_refl _⟩,⟨rq_ (Kd.R_mono (Kd.R_far (p:=⟨Bz,1,none⟩) (Kd.R_far (p:=⟨Bz,0,none⟩) (Kd.R_types Aq.1 Ao.1 (by decide)) (fun _ hk=>hk.2) (.int .i64 Bf)) (fun _ hk=>hk.2) (.slice Ao94 Av.length co94)) (fun _ hk=>⟨hk.1.1.1.1.2,⟨hk.1.1.1.2,⟨hk.1.1.1.1.1,⟨hk.1.1.2,hk.1.2⟩⟩⟩⟩))⟩,⟨rq_ (Kd.R_mono (Kd.R_far (p:=⟨Bz,1,none⟩) (Kd.R_far (p:=⟨Bz,0,none⟩) (Kd.R_types Ab.1 Ao.1 (by decide)) (fun _ hk=>hk.2) (.int .i64 Bf)) (fun _ hk=>hk.2) (.slice Ao94 Av.length co94)) (fun _ hk=>⟨hk.1.1.1.2,⟨hk.1.1.1.1.1,⟨hk.1.1.1.1.2,⟨hk.1.1.2,hk.1.2⟩⟩⟩⟩))⟩,⟨rq_ (Kd.R_mono (Kd.R_far (p:=⟨Bz,1,none⟩) (Kd.R_far (p:=⟨Bz,0,none⟩) (Kd.R_types Aa.1 Ao.1 (by decide)) (fun _ hk=>hk.2) (.int .i64 Bf)) (fun _ hk=>hk.2) (.slice Ao94 Av.length co94)) (fun _ hk=>⟨hk.1.1.1.2,⟨hk.1.1.1.1.1,⟨hk.1.1.1.1.2,⟨hk.1.1.2,hk.1.2⟩⟩⟩⟩))⟩,⟨rq_ (Kd.R_mono (Kd.R_far (p:=⟨Bz,1,none⟩) (Kd.R_far (p:=⟨Bz,0,none⟩) (Kd.R_types Ap.1 Ao.1 (by decide)) (fun _ hk=>hk.2) (.int .i64 Bf)) (fun _ hk=>hk.2) (.slice Ao94 Av.length co94)) (fun _ hk=>⟨hk.1.1.1.1.1,⟨hk.1.1.1.1.2,⟨hk.1.1.1.2,⟨hk.1.1.2,hk.1.2⟩⟩⟩⟩))⟩,⟨rq_ (Kd.R_mono (Kd.R_far (p:=⟨Bz,1,none⟩) (Kd.R_far (p:=⟨Bz,0,none⟩) (Kd.R_types Bc.1 Ao.1 (by decide)) (fun _ hk=>hk.2) (.int .i64 Bf)) (fun _ hk=>hk.2) (.slice Ao94 Av.length co94)) (fun _ hk=>⟨hk.1.1.2,⟨hk.1.1.1.1.1.2,⟨hk.1.1.1.1.2,⟨hk.1.1.1.2,hk.1.2⟩⟩⟩⟩))⟩,⟨rq_ (Kd.R_mono (Kd.R_far (p:=⟨Bz,1,none⟩) (Kd.R_far (p:=⟨Bz,0,none⟩) (Kd.R_types Bs.1 Ao.1 (by decide)) (fun _ hk=>hk.2) (.int .i64 Bf)) (fun _ hk=>hk.2) (.slice Ao94 Av.length co94)) (fun _ hk=>⟨hk.1.1.2,⟨hk.1.1.1.1.1.2,⟨hk.1.1.1.1.2,⟨hk.1.1.1.2,hk.1.2⟩⟩⟩⟩))⟩,⟨by (with_reducible repeat (first|refine blk_drewN ?_ _|refine blk_drew ?_|refine blk_alloc ?_ _));refine blk_far ?_ Bp.1 _;(with_reducible repeat (first|refine blk_drewN ?_ _|refine blk_drew ?_|refine blk_alloc ?_ _));refine blk_far ?_ Bp.1 _;(with_reducible repeat (first|refine blk_drewN ?_ _|refine blk_drew ?_|refine blk_alloc ?_ _));exact Ac.1⟩,⟨by (with_reducible repeat (first|refine blk_drewN ?_ _|refine blk_drew ?_|refine blk_alloc ?_ _));refine blk_far ?_ Bq.1 _;(with_reducible repeat (first|refine blk_drewN ?_ _|refine blk_drew ?_|refine blk_alloc ?_ _));refine blk_far ?_ Bq.1 _;(with_reducible repeat (first|refine blk_drewN ?_ _|refine blk_drew ?_|refine blk_alloc ?_ _));exact Ad.1⟩,⟨by (with_reducible repeat (first|refine blk_drewN ?_ _|refine blk_drew ?_|refine blk_alloc ?_ _));refine blk_far ?_ Bg.1 _;(with_reducible repeat (first|refine blk_drewN ?_ _|refine blk_drew ?_|refine blk_alloc ?_ _));refine blk_far ?_ Bg.1 _;(with_reducible repeat (first|refine blk_drewN ?_ _|refine blk_drew ?_|refine blk_alloc ?_ _));exact Af.1⟩,⟨by (with_reducible repeat (first|refine blk_drewN ?_ _|refine blk_drew ?_|refine blk_alloc ?_ _));refine blk_far ?_ Bb.1 _;(with_reducible repeat (first|refine blk_drewN ?_ _|refine blk_drew ?_|refine blk_alloc ?_ _));refine blk_far ?_ Bb.1 _;(with_reducible repeat (first|refine blk_drewN ?_ _|refine blk_drew ?_|refine blk_alloc ?_ _));exact Ah.1⟩,⟨by (with_reducible repeat (first|refine blk_drewN ?_ _|refine blk_drew ?_|refine blk_alloc ?_ _));refine blk_put (cs:=#[.int .i64 Bf,.slice none 0 0]) ?_ 1 _ rfl;(with_reducible repeat (first|refine blk_drewN ?_ _|refine blk_drew ?_|refine blk_alloc ?_ _));refine blk_put (cs:=#[.int .i64 0,.slice none 0 0]) ?_ 0 _ rfl;(with_reducible repeat (first|refine blk_drewN ?_ _|refine blk_drew ?_|refine blk_alloc ?_ _));exact Ao.1⟩,⟨bb_⟩⟩
        ·rw [if_neg c95] at H;have c95b0 : (C1 != Db) = false:=by simpa using c95
         (try (have c95b1 : decide (C1 = Db) = true:=by simpa using c95));(try (have c95b2 : (C1 == Db) = true:=by simpa using c95));clear c95;(first|rw [c95b0]|(simp only [i64_w,i32_w];rw [c95b0])|skip)
         replace H:=Option.bind_eq_some_iff.mp H;obtain ⟨D9,Fg,H⟩:=H;(try dsimp only at H);have A96:=A_ Fg;clear Fg;have H':=A_ H;clear H;have Z:=Bn.1;have Z:=Bd.1;have Z:=Bo.1;have Z:=Be.1;have Z:=B0.1;have Z:=Bk.1;have Z:=Bb.1;have Z:=Br.1;obtain ⟨Z,Z,Z,Z⟩:=o2_ Ah.1;have Z:=Co.1;have Z:=Bp.1;have Z:=Cp.1;have Z:=Bq.1;have Z:=B1.1;have Z:=Bg.1;obtain ⟨Z,Z,Z,Z⟩:=o2_ Ao.1;go_wp2_with (first|(go_at_call 13;(with_reducible refine (Abk.calls kj25 Aw _ _ Am Bf _ _ Av D9 _ ?side1 ?side2 ?side3 ?side4 A96.1).mono ?_);(case side1=>refine (Kd.R_reads' (e:=3) (base:=w.heap.size) (ok:=fun k_=>(((((True ∧ some k_ ≠ (.slice Ao14 Ag.length co14 : Value).ownBlock) ∧ some k_ ≠ (.slice Ao16 Ae.length co16 : Value).ownBlock) ∧ some k_ ≠ (.slice Ao77 Al.length co77 : Value).ownBlock) ∧ some k_ ≠ (.slice Ao78 Aj.length co78 : Value).ownBlock) ∧ some k_ ≠ (.slice Ao94 Av.length co94 : Value).ownBlock)) (n:=Am.length) (c:=co85) ?_).2.2;exact (rq_ (rf_ Bc Ao (.int .i64 Bf) (.slice Ao94 Av.length co94))));(case side2=>exact (Kd.R_reads' Bc.1).2.1);(case side3=>refine (Kd.R_reads' (e:=3) (base:=w.heap.size) (ok:=fun k_=>(((((True ∧ some k_ ≠ (.slice Ao14 Ag.length co14 : Value).ownBlock) ∧ some k_ ≠ (.slice Ao16 Ae.length co16 : Value).ownBlock) ∧ some k_ ≠ (.slice Ao77 Al.length co77 : Value).ownBlock) ∧ some k_ ≠ (.slice Ao78 Aj.length co78 : Value).ownBlock) ∧ some k_ ≠ (.slice Ao85 Am.length co85 : Value).ownBlock)) (n:=Av.length) (c:=co94) ?_).2.2;exact (rq_ (rf_ Bs Ao (.int .i64 Bf) (.slice Ao94 Av.length co94))));(case side4=>exact (Kd.R_reads' Bs.1).2.1);rintro e Fh ⟨rfl,hb⟩;replace Ab:=A_ (Kd.R_below (rq_ (rf_ Ab Ao (.int .i64 Bf) (.slice Ao94 Av.length co94))) hb);replace Aa:=A_ (Kd.R_below (rq_ (rf_ Aa Ao (.int .i64 Bf) (.slice Ao94 Av.length co94))) hb);replace Ap:=A_ (Kd.R_below (rq_ (rf_ Ap Ao (.int .i64 Bf) (.slice Ao94 Av.length co94))) hb);replace Aq:=A_ (Kd.R_below (rq_ (rf_ Aq Ao (.int .i64 Bf) (.slice Ao94 Av.length co94))) hb);replace Bc:=A_ (Kd.R_below (rq_ (rf_ Bc Ao (.int .i64 Bf) (.slice Ao94 Av.length co94))) hb);replace Bs:=A_ (Kd.R_below (rq_ (rf_ Bs Ao (.int .i64 Bf) (.slice Ao94 Av.length co94))) hb);replace Ac:=A_ (blk_below (g:=As) (o:=.cells #[.int .i64 Ba,.slice Ao14 Ag.length co14] 26 (0,0)) (by (with_reducible repeat (first|refine blk_drewN ?_ _|refine blk_drew ?_|refine blk_alloc ?_ _));refine blk_far ?_ Bp.1 _;(with_reducible repeat (first|refine blk_drewN ?_ _|refine blk_drew ?_|refine blk_alloc ?_ _));refine blk_far ?_ Bp.1 _;(with_reducible repeat (first|refine blk_drewN ?_ _|refine blk_drew ?_|refine blk_alloc ?_ _));exact Ac.1) hb);replace Ad:=A_ (blk_below (g:=At) (o:=.cells #[.int .i64 A9,.slice Ao16 Ae.length co16] 26 (0,0)) (by (with_reducible repeat (first|refine blk_drewN ?_ _|refine blk_drew ?_|refine blk_alloc ?_ _));refine blk_far ?_ Bq.1 _;(with_reducible repeat (first|refine blk_drewN ?_ _|refine blk_drew ?_|refine blk_alloc ?_ _));refine blk_far ?_ Bq.1 _;(with_reducible repeat (first|refine blk_drewN ?_ _|refine blk_drew ?_|refine blk_alloc ?_ _));exact Ad.1) hb);replace Af:=A_ (blk_below (g:=Ck) (o:=.cells #[.int .i64 Au,.slice Ao77 Al.length co77] 26 (0,0)) (by (with_reducible repeat (first|refine blk_drewN ?_ _|refine blk_drew ?_|refine blk_alloc ?_ _));refine blk_far ?_ Bg.1 _;(with_reducible repeat (first|refine blk_drewN ?_ _|refine blk_drew ?_|refine blk_alloc ?_ _));refine blk_far ?_ Bg.1 _;(with_reducible repeat (first|refine blk_drewN ?_ _|refine blk_drew ?_|refine blk_alloc ?_ _));exact Af.1) hb);replace Ah:=A_ (blk_below (g:=Cu) (o:=.cells #[.int .i64 Aw,.slice Ao85 Am.length co85] 26 (0,0)) (by (with_reducible repeat (first|refine blk_drewN ?_ _|refine blk_drew ?_|refine blk_alloc ?_ _));refine blk_far ?_ Bb.1 _;(with_reducible repeat (first|refine blk_drewN ?_ _|refine blk_drew ?_|refine blk_alloc ?_ _));refine blk_far ?_ Bb.1 _;(with_reducible repeat (first|refine blk_drewN ?_ _|refine blk_drew ?_|refine blk_alloc ?_ _));exact Ah.1) hb);replace Ao:=A_ (blk_below (g:=Bz) (o:=.cells #[.int .i64 Bf,.slice Ao94 Av.length co94] 26 (0,0)) (by (with_reducible repeat (first|refine blk_drewN ?_ _|refine blk_drew ?_|refine blk_alloc ?_ _));refine blk_put (cs:=#[.int .i64 Bf,.slice none 0 0]) ?_ 1 _ rfl;(with_reducible repeat (first|refine blk_drewN ?_ _|refine blk_drew ?_|refine blk_alloc ?_ _));refine blk_put (cs:=#[.int .i64 0,.slice none 0 0]) ?_ 0 _ rfl;(with_reducible repeat (first|refine blk_drewN ?_ _|refine blk_drew ?_|refine blk_alloc ?_ _));exact Ao.1) hb);replace HB:=A_ (below_step bb_ hb);(try clear hb);(try clear hb2);(try clear hk);(try clear hi)))
         repeat (go_quiet (first|(go_at_call 13;(with_reducible refine (Abk.calls kj25 Aw _ _ Am Bf _ _ Av D9 _ ?side1 ?side2 ?side3 ?side4 A96.1).mono ?_);(case side1=>refine (Kd.R_reads' (e:=3) (base:=w.heap.size) (ok:=fun k_=>(((((True ∧ some k_ ≠ (.slice Ao14 Ag.length co14 : Value).ownBlock) ∧ some k_ ≠ (.slice Ao16 Ae.length co16 : Value).ownBlock) ∧ some k_ ≠ (.slice Ao77 Al.length co77 : Value).ownBlock) ∧ some k_ ≠ (.slice Ao78 Aj.length co78 : Value).ownBlock) ∧ some k_ ≠ (.slice Ao94 Av.length co94 : Value).ownBlock)) (n:=Am.length) (c:=co85) ?_).2.2;exact (rq_ (rf_ Bc Ao (.int .i64 Bf) (.slice Ao94 Av.length co94))));(case side2=>exact (Kd.R_reads' Bc.1).2.1);(case side3=>refine (Kd.R_reads' (e:=3) (base:=w.heap.size) (ok:=fun k_=>(((((True ∧ some k_ ≠ (.slice Ao14 Ag.length co14 : Value).ownBlock) ∧ some k_ ≠ (.slice Ao16 Ae.length co16 : Value).ownBlock) ∧ some k_ ≠ (.slice Ao77 Al.length co77 : Value).ownBlock) ∧ some k_ ≠ (.slice Ao78 Aj.length co78 : Value).ownBlock) ∧ some k_ ≠ (.slice Ao85 Am.length co85 : Value).ownBlock)) (n:=Av.length) (c:=co94) ?_).2.2;exact (rq_ (rf_ Bs Ao (.int .i64 Bf) (.slice Ao94 Av.length co94))));(case side4=>exact (Kd.R_reads' Bs.1).2.1);rintro e Fh ⟨rfl,hb⟩;replace Ab:=A_ (Kd.R_below (rq_ (rf_ Ab Ao (.int .i64 Bf) (.slice Ao94 Av.length co94))) hb);replace Aa:=A_ (Kd.R_below (rq_ (rf_ Aa Ao (.int .i64 Bf) (.slice Ao94 Av.length co94))) hb);replace Ap:=A_ (Kd.R_below (rq_ (rf_ Ap Ao (.int .i64 Bf) (.slice Ao94 Av.length co94))) hb);replace Aq:=A_ (Kd.R_below (rq_ (rf_ Aq Ao (.int .i64 Bf) (.slice Ao94 Av.length co94))) hb);replace Bc:=A_ (Kd.R_below (rq_ (rf_ Bc Ao (.int .i64 Bf) (.slice Ao94 Av.length co94))) hb);replace Bs:=A_ (Kd.R_below (rq_ (rf_ Bs Ao (.int .i64 Bf) (.slice Ao94 Av.length co94))) hb);replace Ac:=A_ (blk_below (g:=As) (o:=.cells #[.int .i64 Ba,.slice Ao14 Ag.length co14] 26 (0,0)) (by (with_reducible repeat (first|refine blk_drewN ?_ _|refine blk_drew ?_|refine blk_alloc ?_ _));refine blk_far ?_ Bp.1 _;(with_reducible repeat (first|refine blk_drewN ?_ _|refine blk_drew ?_|refine blk_alloc ?_ _));refine blk_far ?_ Bp.1 _;(with_reducible repeat (first|refine blk_drewN ?_ _|refine blk_drew ?_|refine blk_alloc ?_ _));exact Ac.1) hb);replace Ad:=A_ (blk_below (g:=At) (o:=.cells #[.int .i64 A9,.slice Ao16 Ae.length co16] 26 (0,0)) (by (with_reducible repeat (first|refine blk_drewN ?_ _|refine blk_drew ?_|refine blk_alloc ?_ _));refine blk_far ?_ Bq.1 _;(with_reducible repeat (first|refine blk_drewN ?_ _|refine blk_drew ?_|refine blk_alloc ?_ _));refine blk_far ?_ Bq.1 _;(with_reducible repeat (first|refine blk_drewN ?_ _|refine blk_drew ?_|refine blk_alloc ?_ _));exact Ad.1) hb);replace Af:=A_ (blk_below (g:=Ck) (o:=.cells #[.int .i64 Au,.slice Ao77 Al.length co77] 26 (0,0)) (by (with_reducible repeat (first|refine blk_drewN ?_ _|refine blk_drew ?_|refine blk_alloc ?_ _));refine blk_far ?_ Bg.1 _;(with_reducible repeat (first|refine blk_drewN ?_ _|refine blk_drew ?_|refine blk_alloc ?_ _));refine blk_far ?_ Bg.1 _;(with_reducible repeat (first|refine blk_drewN ?_ _|refine blk_drew ?_|refine blk_alloc ?_ _));exact Af.1) hb);replace Ah:=A_ (blk_below (g:=Cu) (o:=.cells #[.int .i64 Aw,.slice Ao85 Am.length co85] 26 (0,0)) (by (with_reducible repeat (first|refine blk_drewN ?_ _|refine blk_drew ?_|refine blk_alloc ?_ _));refine blk_far ?_ Bb.1 _;(with_reducible repeat (first|refine blk_drewN ?_ _|refine blk_drew ?_|refine blk_alloc ?_ _));refine blk_far ?_ Bb.1 _;(with_reducible repeat (first|refine blk_drewN ?_ _|refine blk_drew ?_|refine blk_alloc ?_ _));exact Ah.1) hb);replace Ao:=A_ (blk_below (g:=Bz) (o:=.cells #[.int .i64 Bf,.slice Ao94 Av.length co94] 26 (0,0)) (by (with_reducible repeat (first|refine blk_drewN ?_ _|refine blk_drew ?_|refine blk_alloc ?_ _));refine blk_put (cs:=#[.int .i64 Bf,.slice none 0 0]) ?_ 1 _ rfl;(with_reducible repeat (first|refine blk_drewN ?_ _|refine blk_drew ?_|refine blk_alloc ?_ _));refine blk_put (cs:=#[.int .i64 0,.slice none 0 0]) ?_ 0 _ rfl;(with_reducible repeat (first|refine blk_drewN ?_ _|refine blk_drew ?_|refine blk_alloc ?_ _));exact Ao.1) hb);replace HB:=A_ (below_step bb_ hb);(try clear hb);(try clear hb2);(try clear hk);(try clear hi)));try go_wp2_with (first|(go_at_call 13;(with_reducible refine (Abk.calls kj25 Aw _ _ Am Bf _ _ Av D9 _ ?side1 ?side2 ?side3 ?side4 A96.1).mono ?_);(case side1=>refine (Kd.R_reads' (e:=3) (base:=w.heap.size) (ok:=fun k_=>(((((True ∧ some k_ ≠ (.slice Ao14 Ag.length co14 : Value).ownBlock) ∧ some k_ ≠ (.slice Ao16 Ae.length co16 : Value).ownBlock) ∧ some k_ ≠ (.slice Ao77 Al.length co77 : Value).ownBlock) ∧ some k_ ≠ (.slice Ao78 Aj.length co78 : Value).ownBlock) ∧ some k_ ≠ (.slice Ao94 Av.length co94 : Value).ownBlock)) (n:=Am.length) (c:=co85) ?_).2.2;exact (rq_ (rf_ Bc Ao (.int .i64 Bf) (.slice Ao94 Av.length co94))));(case side2=>exact (Kd.R_reads' Bc.1).2.1);(case side3=>refine (Kd.R_reads' (e:=3) (base:=w.heap.size) (ok:=fun k_=>(((((True ∧ some k_ ≠ (.slice Ao14 Ag.length co14 : Value).ownBlock) ∧ some k_ ≠ (.slice Ao16 Ae.length co16 : Value).ownBlock) ∧ some k_ ≠ (.slice Ao77 Al.length co77 : Value).ownBlock) ∧ some k_ ≠ (.slice Ao78 Aj.length co78 : Value).ownBlock) ∧ some k_ ≠ (.slice Ao85 Am.length co85 : Value).ownBlock)) (n:=Av.length) (c:=co94) ?_).2.2;exact (rq_ (rf_ Bs Ao (.int .i64 Bf) (.slice Ao94 Av.length co94))));(case side4=>exact (Kd.R_reads' Bs.1).2.1);rintro e Fh ⟨rfl,hb⟩;replace Ab:=A_ (Kd.R_below (rq_ (rf_ Ab Ao (.int .i64 Bf) (.slice Ao94 Av.length co94))) hb);replace Aa:=A_ (Kd.R_below (rq_ (rf_ Aa Ao (.int .i64 Bf) (.slice Ao94 Av.length co94))) hb);replace Ap:=A_ (Kd.R_below (rq_ (rf_ Ap Ao (.int .i64 Bf) (.slice Ao94 Av.length co94))) hb);replace Aq:=A_ (Kd.R_below (rq_ (rf_ Aq Ao (.int .i64 Bf) (.slice Ao94 Av.length co94))) hb);replace Bc:=A_ (Kd.R_below (rq_ (rf_ Bc Ao (.int .i64 Bf) (.slice Ao94 Av.length co94))) hb);replace Bs:=A_ (Kd.R_below (rq_ (rf_ Bs Ao (.int .i64 Bf) (.slice Ao94 Av.length co94))) hb);replace Ac:=A_ (blk_below (g:=As) (o:=.cells #[.int .i64 Ba,.slice Ao14 Ag.length co14] 26 (0,0)) (by (with_reducible repeat (first|refine blk_drewN ?_ _|refine blk_drew ?_|refine blk_alloc ?_ _));refine blk_far ?_ Bp.1 _;(with_reducible repeat (first|refine blk_drewN ?_ _|refine blk_drew ?_|refine blk_alloc ?_ _));refine blk_far ?_ Bp.1 _;(with_reducible repeat (first|refine blk_drewN ?_ _|refine blk_drew ?_|refine blk_alloc ?_ _));exact Ac.1) hb);replace Ad:=A_ (blk_below (g:=At) (o:=.cells #[.int .i64 A9,.slice Ao16 Ae.length co16] 26 (0,0)) (by (with_reducible repeat (first|refine blk_drewN ?_ _|refine blk_drew ?_|refine blk_alloc ?_ _));refine blk_far ?_ Bq.1 _;(with_reducible repeat (first|refine blk_drewN ?_ _|refine blk_drew ?_|refine blk_alloc ?_ _));refine blk_far ?_ Bq.1 _;(with_reducible repeat (first|refine blk_drewN ?_ _|refine blk_drew ?_|refine blk_alloc ?_ _));exact Ad.1) hb);replace Af:=A_ (blk_below (g:=Ck) (o:=.cells #[.int .i64 Au,.slice Ao77 Al.length co77] 26 (0,0)) (by (with_reducible repeat (first|refine blk_drewN ?_ _|refine blk_drew ?_|refine blk_alloc ?_ _));refine blk_far ?_ Bg.1 _;(with_reducible repeat (first|refine blk_drewN ?_ _|refine blk_drew ?_|refine blk_alloc ?_ _));refine blk_far ?_ Bg.1 _;(with_reducible repeat (first|refine blk_drewN ?_ _|refine blk_drew ?_|refine blk_alloc ?_ _));exact Af.1) hb);replace Ah:=A_ (blk_below (g:=Cu) (o:=.cells #[.int .i64 Aw,.slice Ao85 Am.length co85] 26 (0,0)) (by (with_reducible repeat (first|refine blk_drewN ?_ _|refine blk_drew ?_|refine blk_alloc ?_ _));refine blk_far ?_ Bb.1 _;(with_reducible repeat (first|refine blk_drewN ?_ _|refine blk_drew ?_|refine blk_alloc ?_ _));refine blk_far ?_ Bb.1 _;(with_reducible repeat (first|refine blk_drewN ?_ _|refine blk_drew ?_|refine blk_alloc ?_ _));exact Ah.1) hb);replace Ao:=A_ (blk_below (g:=Bz) (o:=.cells #[.int .i64 Bf,.slice Ao94 Av.length co94] 26 (0,0)) (by (with_reducible repeat (first|refine blk_drewN ?_ _|refine blk_drew ?_|refine blk_alloc ?_ _));refine blk_put (cs:=#[.int .i64 Bf,.slice none 0 0]) ?_ 1 _ rfl;(with_reducible repeat (first|refine blk_drewN ?_ _|refine blk_drew ?_|refine blk_alloc ?_ _));refine blk_put (cs:=#[.int .i64 0,.slice none 0 0]) ?_ 0 _ rfl;(with_reducible repeat (first|refine blk_drewN ?_ _|refine blk_drew ?_|refine blk_alloc ?_ _));exact Ao.1) hb);replace HB:=A_ (below_step bb_ hb);(try clear hb);(try clear hb2);(try clear hk);(try clear hi))))
         go_meet
         case rel=>exact ⟨_,(!D9),(by first|rfl|(simp;done)|(simp [*];done)),H',⟨by have:=HJ7.1;have:=HJ25.1;first|omega|exact Nat.le_refl _⟩,⟨rq_ (Kd.R_mono Aq.1 (fun _ hk=>⟨hk.1.1.1.2,⟨hk.1.1.2,⟨hk.1.1.1.1,⟨hk.1.2,hk.2⟩⟩⟩⟩))⟩,⟨rq_ (Kd.R_mono Ab.1 (fun _ hk=>⟨hk.1.1.2,⟨hk.1.1.1.1,⟨hk.1.1.1.2,⟨hk.1.2,hk.2⟩⟩⟩⟩))⟩,⟨rq_ (Kd.R_mono Aa.1 (fun _ hk=>⟨hk.1.1.2,⟨hk.1.1.1.1,⟨hk.1.1.1.2,⟨hk.1.2,hk.2⟩⟩⟩⟩))⟩,⟨rq_ (Kd.R_mono Ap.1 (fun _ hk=>⟨hk.1.1.1.1,⟨hk.1.1.1.2,⟨hk.1.1.2,⟨hk.1.2,hk.2⟩⟩⟩⟩))⟩,⟨rq_ (Kd.R_mono Bc.1 (fun _ hk=>⟨hk.1.2,⟨hk.1.1.1.1.2,⟨hk.1.1.1.2,⟨hk.1.1.2,hk.2⟩⟩⟩⟩))⟩,⟨rq_ (Kd.R_mono Bs.1 (fun _ hk=>⟨hk.1.2,⟨hk.1.1.1.1.2,⟨hk.1.1.1.2,⟨hk.1.1.2,hk.2⟩⟩⟩⟩))⟩,⟨bl_ Ac⟩,⟨bl_ Ad⟩,⟨bl_ Af⟩,⟨bl_ Ah⟩,⟨bl_ Ao⟩,⟨bb_⟩⟩
       case rest =>
        clear HC71;try clear c1
        try clear c2
        try clear p2
        try clear c3
        try clear c4
        try clear c5
        try clear c6
        try clear p6
        try clear q6
        try clear hx6
        try clear c7
        try clear p7
        try clear q7
        try clear hx7
        try clear c8
        try clear c9
        try clear c10
        try clear c12
        try clear c21
        try clear c21b0
        try clear c21b1
        try clear c21b2
        try clear c25
        try clear c27
        try clear c29
        try clear c29b0
        try clear c30
        try clear c30b0
        try clear c31
        try clear c31b0
        try clear c32
        try clear c32b0
        try clear c33
        try clear c33b0
        try clear c34
        try clear c34b0
        try clear c35
        try clear c35b0
        try clear c35b1
        try clear c36
        try clear c36b0
        try clear c37
        try clear c37b0
        try clear c39
        try clear c39b0
        try clear c40
        try clear c40b0
        try clear c42
        try clear c42b0
        try clear c42b1
        try clear c42b2
        try clear c43
        try clear c46
        try clear c49
        try clear c49b0
        try clear c49b1
        try clear c50
        try clear c50b0
        try clear c51
        try clear c51b0
        try clear c53
        try clear c53b0
        try clear c54
        try clear c54b0
        try clear c56
        try clear c56b0
        try clear c56b1
        try clear c56b2
        try clear c57
        try clear c60
        try clear c63
        try clear c63b0
        try clear c63b1
        try clear c64
        try clear p64
        try clear c66
        try clear p69
        try clear q69
        try clear hx69
        try clear p70
        try clear q70
        try clear hx70
        try clear c74
        try clear c75
        try clear c81
        try clear c82
        try clear c83
        try clear c89
        try clear c90
        try clear c91
        try clear c92
        try clear c95
        try clear c95b0
        try clear c95b1
        try clear c95b2
        try clear c97
        try clear c98
        try clear c99
        try clear Fi
        try clear Fj
        try clear Fk
        try clear Fl
        repeat clear Z
        try clear Dh
        try clear Cn
        try clear Di
        try clear Cl
        try clear Dj
        try clear Cm
        try clear p2
        try clear p6
        try clear p64
        try clear Do
        try clear p7
        try clear B2
        try clear C5
        try clear Bt
        try clear C8
        try clear Bv
        try clear q6
        try clear Dp
        try clear q7
        try clear B4
        try clear C6
        try clear Bu
        try clear C9
        try clear Bw
        obtain ⟨kq,Dq,rfl,HA,HJ70,HO_16,Ab,Aa,Ar,An,Bh,Ac,Ad,Af,Ah,Ao,HB⟩:=hcut;cases kq with
        | zero=>exact absurd HA.1 (by simp [Aad.j4])
        | succ kj70 =>
         have H:=HA.1;clear HA;simp only [Aad.j4] at H
         by_cases Dz : Dq = true
         ·subst Dz;rw [if_pos rfl] at H;obtain rfl:=Option.some.inj H;go_wp2
          repeat (go_quiet (fail);try go_wp2)
          go_ret
          exact ⟨by first|rfl|(simp [errW_none,errW_some] <;> rfl)|(simp [*,errW_none,errW_some] <;> rfl),bb_⟩
         ·replace Dz:=Bool.eq_false_iff.mpr Dz;subst Dz;rw [if_neg nf_] at H;by_cases D0 : C1 = true
          ·subst D0;rw [if_pos rfl] at H;have H':=A_ H;clear H;go_wp2
           repeat (go_quiet (fail);try go_wp2)
           go_loopg [131] kj70 (fun kq Fu w'=>∃ (Ak : Int),Fu = .int .i64 Ak ∧ Aside0 (Aad.l2 kq Aj (Aj.length : Int) Ak Au Al Aw Am = some r) ∧ Aside0 (kq ≤ kj70) ∧ Aside0 (Kd.R (Kd.int .i64) 3 w' w.heap.size (fun k_=>some k_ ≠ ((.slice Ao14 Ag.length co14) : Value).ownBlock ∧ some k_ ≠ ((.slice Ao16 Ae.length co16) : Value).ownBlock ∧ some k_ ≠ ((.slice Ao77 Al.length co77) : Value).ownBlock ∧ some k_ ≠ ((.slice Ao85 Am.length co85) : Value).ownBlock ∧ some k_ ≠ ((.slice Ao94 Av.length co94) : Value).ownBlock) (.slice Ao78 Aj.length co78) Aj) ∧ Aside0 (Kd.R (Kd.int .i64) 3 w' w.heap.size (fun k_=>some k_ ≠ ((.slice Ao78 Aj.length co78) : Value).ownBlock ∧ some k_ ≠ ((.slice Ao16 Ae.length co16) : Value).ownBlock ∧ some k_ ≠ ((.slice Ao77 Al.length co77) : Value).ownBlock ∧ some k_ ≠ ((.slice Ao85 Am.length co85) : Value).ownBlock ∧ some k_ ≠ ((.slice Ao94 Av.length co94) : Value).ownBlock) (.slice Ao14 Ag.length co14) Ag) ∧ Aside0 (Kd.R (Kd.int .i64) 3 w' w.heap.size (fun k_=>some k_ ≠ ((.slice Ao78 Aj.length co78) : Value).ownBlock ∧ some k_ ≠ ((.slice Ao14 Ag.length co14) : Value).ownBlock ∧ some k_ ≠ ((.slice Ao77 Al.length co77) : Value).ownBlock ∧ some k_ ≠ ((.slice Ao85 Am.length co85) : Value).ownBlock ∧ some k_ ≠ ((.slice Ao94 Av.length co94) : Value).ownBlock) (.slice Ao16 Ae.length co16) Ae) ∧ Aside0 (Kd.R (Kd.int .i64) 3 w' w.heap.size (fun k_=>some k_ ≠ ((.slice Ao78 Aj.length co78) : Value).ownBlock ∧ some k_ ≠ ((.slice Ao14 Ag.length co14) : Value).ownBlock ∧ some k_ ≠ ((.slice Ao16 Ae.length co16) : Value).ownBlock ∧ some k_ ≠ ((.slice Ao85 Am.length co85) : Value).ownBlock ∧ some k_ ≠ ((.slice Ao94 Av.length co94) : Value).ownBlock) (.slice Ao77 Al.length co77) Al) ∧ Aside0 (Kd.R (Kd.int .i64) 3 w' w.heap.size (fun k_=>some k_ ≠ ((.slice Ao78 Aj.length co78) : Value).ownBlock ∧ some k_ ≠ ((.slice Ao14 Ag.length co14) : Value).ownBlock ∧ some k_ ≠ ((.slice Ao16 Ae.length co16) : Value).ownBlock ∧ some k_ ≠ ((.slice Ao77 Al.length co77) : Value).ownBlock ∧ some k_ ≠ ((.slice Ao94 Av.length co94) : Value).ownBlock) (.slice Ao85 Am.length co85) Am) ∧ Aside0 (Kd.R (Kd.int .i64) 3 w' w.heap.size (fun k_=>some k_ ≠ ((.slice Ao78 Aj.length co78) : Value).ownBlock ∧ some k_ ≠ ((.slice Ao14 Ag.length co14) : Value).ownBlock ∧ some k_ ≠ ((.slice Ao16 Ae.length co16) : Value).ownBlock ∧ some k_ ≠ ((.slice Ao77 Al.length co77) : Value).ownBlock ∧ some k_ ≠ ((.slice Ao85 Am.length co85) : Value).ownBlock) (.slice Ao94 Av.length co94) Av) ∧ Aside0 (w'.heap[As]? = some (.cells #[.int .i64 Ba,(.slice Ao14 Ag.length co14)] 26 (0,0))) ∧ Aside0 (w'.heap[At]? = some (.cells #[.int .i64 A9,(.slice Ao16 Ae.length co16)] 26 (0,0))) ∧ Aside0 (w'.heap[Ck]? = some (.cells #[.int .i64 Au,(.slice Ao77 Al.length co77)] 26 (0,0))) ∧ Aside0 (w'.heap[Cu]? = some (.cells #[.int .i64 Aw,(.slice Ao85 Am.length co85)] 26 (0,0))) ∧ Aside0 (w'.heap[Bz]? = some (.cells #[.int .i64 Bf,(.slice Ao94 Av.length co94)] 26 (0,0))) ∧ Aside0 (Below w.heap.size w w'))
           case atStart=>exact ⟨(0),(by first|rfl|(simp;done)|(simp [*];done)),H',⟨Nat.le_refl _⟩,⟨rl_ HO_16⟩,⟨rl_ Ab⟩,⟨rl_ Aa⟩,⟨rl_ Ar⟩,⟨rl_ An⟩,⟨rl_ Bh⟩,⟨bl_ Ac⟩,⟨bl_ Ad⟩,⟨bl_ Af⟩,⟨bl_ Ah⟩,⟨bl_ Ao⟩,⟨bb_⟩⟩
           case round =>
            clear H';try clear c1
            try clear c2
            try clear p2
            try clear c3
            try clear c4
            try clear c5
            try clear c6
            try clear p6
            try clear q6
            try clear hx6
            try clear c7
            try clear p7
            try clear q7
            try clear hx7
            try clear c8
            try clear c9
            try clear c10
            try clear c12
            try clear c21
            try clear c21b0
            try clear c21b1
            try clear c21b2
            try clear c25
            try clear c27
            try clear c29
            try clear c29b0
            try clear c30
            try clear c30b0
            try clear c31
            try clear c31b0
            try clear c32
            try clear c32b0
            try clear c33
            try clear c33b0
            try clear c34
            try clear c34b0
            try clear c35
            try clear c35b0
            try clear c35b1
            try clear c36
            try clear c36b0
            try clear c37
            try clear c37b0
            try clear c39
            try clear c39b0
            try clear c40
            try clear c40b0
            try clear c42
            try clear c42b0
            try clear c42b1
            try clear c42b2
            try clear c43
            try clear c46
            try clear c49
            try clear c49b0
            try clear c49b1
            try clear c50
            try clear c50b0
            try clear c51
            try clear c51b0
            try clear c53
            try clear c53b0
            try clear c54
            try clear c54b0
            try clear c56
            try clear c56b0
            try clear c56b1
            try clear c56b2
            try clear c57
            try clear c60
            try clear c63
            try clear c63b0
            try clear c63b1
            try clear c64
            try clear p64
            try clear c66
            try clear p69
            try clear q69
            try clear hx69
            try clear p70
            try clear q70
            try clear hx70
            try clear c74
            try clear c75
            try clear c81
            try clear c82
            try clear c83
            try clear c89
            try clear c90
            try clear c91
            try clear c92
            try clear c95
            try clear c95b0
            try clear c95b1
            try clear c95b2
            try clear c97
            try clear c98
            try clear c99
            try clear Fi
            try clear Fj
            try clear Fk
            try clear Fl
            try clear Dz
            try clear D0
            repeat clear Z
            try clear Dh
            try clear Cn
            try clear Di
            try clear Cl
            try clear Dj
            try clear Cm
            try clear p2
            try clear p6
            try clear p64
            try clear p69
            try clear Do
            try clear p7
            try clear p70
            try clear B2
            try clear C5
            try clear Bt
            try clear C8
            try clear Bv
            try clear q6
            try clear q69
            try clear Dp
            try clear q7
            try clear q70
            try clear B4
            try clear C6
            try clear Bu
            try clear C9
            try clear Bw
            obtain ⟨Ak,rfl,HA,HK4,HO_16,Ab,Aa,Ar,An,Bh,Ac,Ad,Af,Ah,Ao,HB⟩:=hrel;cases gk with
            | zero=>exact absurd HA.1 (by simp [Aad.l2])
            | succ k4 =>
             have H:=HA.1;clear HA;simp only [Aad.l2] at H
             by_cases Dr : Ak < (Aj.length : Int)
             ·rw [if_pos Dr] at H;have c109b0 : decide (Ak < (Aj.length : Int)) = true:=decide_eq_true Dr;clear Dr;have H':=A_ H;clear H;go_wp2
              repeat (go_quiet (fail);try go_wp2)
              go_loopg [136] k4 (fun kq Fv w'=>∃ (Ax : Int),Fv = .int .i64 Ax ∧ Aside0 (Aad.l3 kq Aj Ak (Aj.length : Int) Ak (Aj.length : Int) Ax Au Al Aw Am = some r) ∧ Aside0 (kq ≤ k4) ∧ Aside0 (Kd.R (Kd.int .i64) 3 w' w.heap.size (fun k_=>some k_ ≠ ((.slice Ao14 Ag.length co14) : Value).ownBlock ∧ some k_ ≠ ((.slice Ao16 Ae.length co16) : Value).ownBlock ∧ some k_ ≠ ((.slice Ao77 Al.length co77) : Value).ownBlock ∧ some k_ ≠ ((.slice Ao85 Am.length co85) : Value).ownBlock ∧ some k_ ≠ ((.slice Ao94 Av.length co94) : Value).ownBlock) (.slice Ao78 Aj.length co78) Aj) ∧ Aside0 (Kd.R (Kd.int .i64) 3 w' w.heap.size (fun k_=>some k_ ≠ ((.slice Ao78 Aj.length co78) : Value).ownBlock ∧ some k_ ≠ ((.slice Ao16 Ae.length co16) : Value).ownBlock ∧ some k_ ≠ ((.slice Ao77 Al.length co77) : Value).ownBlock ∧ some k_ ≠ ((.slice Ao85 Am.length co85) : Value).ownBlock ∧ some k_ ≠ ((.slice Ao94 Av.length co94) : Value).ownBlock) (.slice Ao14 Ag.length co14) Ag) ∧ Aside0 (Kd.R (Kd.int .i64) 3 w' w.heap.size (fun k_=>some k_ ≠ ((.slice Ao78 Aj.length co78) : Value).ownBlock ∧ some k_ ≠ ((.slice Ao14 Ag.length co14) : Value).ownBlock ∧ some k_ ≠ ((.slice Ao77 Al.length co77) : Value).ownBlock ∧ some k_ ≠ ((.slice Ao85 Am.length co85) : Value).ownBlock ∧ some k_ ≠ ((.slice Ao94 Av.length co94) : Value).ownBlock) (.slice Ao16 Ae.length co16) Ae) ∧ Aside0 (Kd.R (Kd.int .i64) 3 w' w.heap.size (fun k_=>some k_ ≠ ((.slice Ao78 Aj.length co78) : Value).ownBlock ∧ some k_ ≠ ((.slice Ao14 Ag.length co14) : Value).ownBlock ∧ some k_ ≠ ((.slice Ao16 Ae.length co16) : Value).ownBlock ∧ some k_ ≠ ((.slice Ao85 Am.length co85) : Value).ownBlock ∧ some k_ ≠ ((.slice Ao94 Av.length co94) : Value).ownBlock) (.slice Ao77 Al.length co77) Al) ∧ Aside0 (Kd.R (Kd.int .i64) 3 w' w.heap.size (fun k_=>some k_ ≠ ((.slice Ao78 Aj.length co78) : Value).ownBlock ∧ some k_ ≠ ((.slice Ao14 Ag.length co14) : Value).ownBlock ∧ some k_ ≠ ((.slice Ao16 Ae.length co16) : Value).ownBlock ∧ some k_ ≠ ((.slice Ao77 Al.length co77) : Value).ownBlock ∧ some k_ ≠ ((.slice Ao94 Av.length co94) : Value).ownBlock) (.slice Ao85 Am.length co85) Am) ∧ Aside0 (Kd.R (Kd.int .i64) 3 w' w.heap.size (fun k_=>some k_ ≠ ((.slice Ao78 Aj.length co78) : Value).ownBlock ∧ some k_ ≠ ((.slice Ao14 Ag.length co14) : Value).ownBlock ∧ some k_ ≠ ((.slice Ao16 Ae.length co16) : Value).ownBlock ∧ some k_ ≠ ((.slice Ao77 Al.length co77) : Value).ownBlock ∧ some k_ ≠ ((.slice Ao85 Am.length co85) : Value).ownBlock) (.slice Ao94 Av.length co94) Av) ∧ Aside0 (w'.heap[As]? = some (.cells #[.int .i64 Ba,(.slice Ao14 Ag.length co14)] 26 (0,0))) ∧ Aside0 (w'.heap[At]? = some (.cells #[.int .i64 A9,(.slice Ao16 Ae.length co16)] 26 (0,0))) ∧ Aside0 (w'.heap[Ck]? = some (.cells #[.int .i64 Au,(.slice Ao77 Al.length co77)] 26 (0,0))) ∧ Aside0 (w'.heap[Cu]? = some (.cells #[.int .i64 Aw,(.slice Ao85 Am.length co85)] 26 (0,0))) ∧ Aside0 (w'.heap[Bz]? = some (.cells #[.int .i64 Bf,(.slice Ao94 Av.length co94)] 26 (0,0))) ∧ Aside0 (Below w.heap.size w w'))
              case atStart=>exact ⟨(0),(by first|rfl|(simp;done)|(simp [*];done)),H',⟨Nat.le_refl _⟩,⟨rl_ HO_16⟩,⟨rl_ Ab⟩,⟨rl_ Aa⟩,⟨rl_ Ar⟩,⟨rl_ An⟩,⟨rl_ Bh⟩,⟨bl_ Ac⟩,⟨bl_ Ad⟩,⟨bl_ Af⟩,⟨bl_ Ah⟩,⟨bl_ Ao⟩,⟨bb_⟩⟩
              case round =>
               clear H';try clear c1
               try clear c2
               try clear p2
               try clear c3
               try clear c4
               try clear c5
               try clear c6
               try clear p6
               try clear q6
               try clear hx6
               try clear c7
               try clear p7
               try clear q7
               try clear hx7
               try clear c8
               try clear c9
               try clear c10
               try clear c12
               try clear c21
               try clear c21b0
               try clear c21b1
               try clear c21b2
               try clear c25
               try clear c27
               try clear c29
               try clear c29b0
               try clear c30
               try clear c30b0
               try clear c31
               try clear c31b0
               try clear c32
               try clear c32b0
               try clear c33
               try clear c33b0
               try clear c34
               try clear c34b0
               try clear c35
               try clear c35b0
               try clear c35b1
               try clear c36
               try clear c36b0
               try clear c37
               try clear c37b0
               try clear c39
               try clear c39b0
               try clear c40
               try clear c40b0
               try clear c42
               try clear c42b0
               try clear c42b1
               try clear c42b2
               try clear c43
               try clear c46
               try clear c49
               try clear c49b0
               try clear c49b1
               try clear c50
               try clear c50b0
               try clear c51
               try clear c51b0
               try clear c53
               try clear c53b0
               try clear c54
               try clear c54b0
               try clear c56
               try clear c56b0
               try clear c56b1
               try clear c56b2
               try clear c57
               try clear c60
               try clear c63
               try clear c63b0
               try clear c63b1
               try clear c64
               try clear p64
               try clear c66
               try clear p69
               try clear q69
               try clear hx69
               try clear p70
               try clear q70
               try clear hx70
               try clear c74
               try clear c75
               try clear c81
               try clear c82
               try clear c83
               try clear c89
               try clear c90
               try clear c91
               try clear c92
               try clear c95
               try clear c95b0
               try clear c95b1
               try clear c95b2
               try clear c97
               try clear c98
               try clear c99
               try clear Fi
               try clear Fj
               try clear Fk
               try clear Fl
               try clear Dz
               try clear D0
               try clear Dr
               try clear c109b0
               repeat clear Z
               try clear Dh
               try clear Cn
               try clear Di
               try clear Cl
               try clear Dj
               try clear Cm
               try clear p2
               try clear p6
               try clear p64
               try clear p69
               try clear Do
               try clear p7
               try clear p70
               try clear B2
               try clear C5
               try clear Bt
               try clear C8
               try clear Bv
               try clear q6
               try clear q69
               try clear Dp
               try clear q7
               try clear q70
               try clear B4
               try clear C6
               try clear Bu
               try clear C9
               try clear Bw
               obtain ⟨Ax,rfl,HA,HK5,HO_16,Ab,Aa,Ar,An,Bh,Ac,Ad,Af,Ah,Ao,HB⟩:=hrel;cases gk with
               | zero=>exact absurd HA.1 (by simp [Aad.l3])
               | succ k5 =>
                have H:=HA.1;clear HA;simp only [Aad.l3] at H
                by_cases D1 : Ax < (Aj.length : Int)
                ·rw [if_pos D1] at H;have c110b0 : decide (Ax < (Aj.length : Int)) = true:=decide_eq_true D1;clear D1;by_cases Ea : 0 ≤ Ak
                 ·rw [if_pos Ea] at H;have c111b0 : decide (0 ≤ Ak) = true:=decide_eq_true Ea;clear Ea;by_cases Eb : Ak < (Al.length : Int)
                  ·rw [if_pos Eb] at H;have c112b0 : decide (Ak < (Al.length : Int)) = true:=decide_eq_true Eb;clear Eb;replace H:=Option.bind_eq_some_iff.mp H;obtain ⟨Cv,Ex,H⟩:=H;(try dsimp only at H);have D2:=A_ Ex;clear Ex;by_cases Ec : Ak < (Aj.length : Int)
                   ·rw [if_pos Ec] at H;have c114b0 : decide (Ak < (Aj.length : Int)) = true:=decide_eq_true Ec;clear Ec;by_cases Ed : 0 ≤ (rd Aj Ak)
                    ·rw [if_pos Ed] at H;have c115b0 : decide (0 ≤ (rd Aj Ak)) = true:=decide_eq_true Ed;clear Ed;by_cases Ee : (rd Aj Ak) < (Am.length : Int)
                     ·rw [if_pos Ee] at H;have c116b0 : decide ((rd Aj Ak) < (Am.length : Int)) = true:=decide_eq_true Ee;clear Ee;by_cases Ef : 0 ≤ Ax
                      ·rw [if_pos Ef] at H;have c117b0 : decide (0 ≤ Ax) = true:=decide_eq_true Ef;clear Ef;by_cases Eg : Ax < (Aj.length : Int)
                       ·rw [if_pos Eg] at H;have c118b0 : decide (Ax < (Aj.length : Int)) = true:=decide_eq_true Eg;clear Eg;replace H:=Option.bind_eq_some_iff.mp H;obtain ⟨Cw,Ey,H⟩:=H;(try dsimp only at H);have D3:=A_ Ey;clear Ey;by_cases Dc : (Cv != Cw) = true
                        ·rw [if_pos Dc] at H;have c120b0 : (Cv != Cw) = true:=Dc;(try (have c120b1 : decide (Cv = Cw) = false:=by simpa using Dc));(try (have c120b2 : (Cv == Cw) = false:=by simpa using Dc));(try (have c120b3 : ¬ (Cv = Cw):=by simpa using Dc));clear Dc;obtain rfl:=Option.some.inj H;have Z:=Cg.1;have Z:=Bl.1;have Z:=Ch.1;have Z:=Bm.1;have Z:=Bk.1;have Z:=B0.1;have Z:=Bg.1;have Z:=B1.1;obtain ⟨Z,Z,Z,Z⟩:=o2_ Af.1;have Ds : 0 ≤ (Ak : Int):=of_decide_eq_true (by first|(with_reducible assumption)|assumption);have Dt : Ak < (Al.length : Int):=of_decide_eq_true (by first|(with_reducible assumption)|assumption);obtain ⟨Fr,Ek,E0⟩:=Kd.at_int (Kd.R_reads' Ar.1).2.2 Ak Ds Dt;cases Ek
                         replace Ds:=eq_true Ds;replace Dt:=eq_true Dt;go_wp2_with (first|(go_at_call 17;(with_reducible refine (Aax.calls (rd Al Ak) Ax Cv _ D2.1).mono ?_);rintro e w' ⟨rfl,⟨nd,rfl⟩⟩;(try first|exact ⟨rfl,_,World.drewN_drewN _ _ _⟩|exact ⟨rfl,_,Eq.trans (World.drewN_drewN _ _ _) (congrArg (World.drewN _) (Nat.add_assoc _ _ _))⟩);have Z:=Bn.1;have Z:=Bd.1;have Z:=Bo.1;have Z:=Be.1;have Z:=Bb.1;have Z:=Br.1;obtain ⟨Z,Z,Z,Z⟩:=o2_ Ah.1;have Ca : 0 ≤ (Ak : Int):=of_decide_eq_true (by first|(with_reducible assumption)|assumption);have Cb : Ak < (Aj.length : Int):=of_decide_eq_true (by first|(with_reducible assumption)|assumption);obtain ⟨Cx,Dd,Dk⟩:=Kd.at_int (Kd.R_reads' HO_16.1).2.2 Ak Ca Cb;cases Dd;replace Ca:=eq_true Ca;replace Cb:=eq_true Cb;have Cc : 0 ≤ ((rd Aj Ak) : Int):=of_decide_eq_true (by first|(with_reducible assumption)|assumption);have Cd : (rd Aj Ak) < (Am.length : Int):=of_decide_eq_true (by first|(with_reducible assumption)|assumption);obtain ⟨Dw,De,Dl⟩:=Kd.at_int (Kd.R_reads' An.1).2.2 (rd Aj Ak) Cc Cd;cases De;replace Cc:=eq_true Cc;replace Cd:=eq_true Cd;have Ce : 0 ≤ (Ax : Int):=of_decide_eq_true (by first|(with_reducible assumption)|assumption);have Cf : Ax < (Aj.length : Int):=of_decide_eq_true (by first|(with_reducible assumption)|assumption);obtain ⟨Cy,Df,Dm⟩:=Kd.at_int (Kd.R_reads' HO_16.1).2.2 Ax Ce Cf;obtain rfl : Cx = Cy:=(by injection Df);replace Ce:=eq_true Ce;replace Cf:=eq_true Cf)|(go_at_call 17;(with_reducible refine (Aax.calls (rd Am (rd Aj Ak)) (rd Aj Ax) Cw _ D3.1).mono ?_);rintro e w' ⟨rfl,⟨nd,rfl⟩⟩;(try first|exact ⟨rfl,_,World.drewN_drewN _ _ _⟩|exact ⟨rfl,_,Eq.trans (World.drewN_drewN _ _ _) (congrArg (World.drewN _) (Nat.add_assoc _ _ _))⟩)))
                         repeat (go_quiet (first|(go_at_call 17;(with_reducible refine (Aax.calls (rd Al Ak) Ax Cv _ D2.1).mono ?_);rintro e w' ⟨rfl,⟨nd,rfl⟩⟩;(try first|exact ⟨rfl,_,World.drewN_drewN _ _ _⟩|exact ⟨rfl,_,Eq.trans (World.drewN_drewN _ _ _) (congrArg (World.drewN _) (Nat.add_assoc _ _ _))⟩);have Z:=Bn.1;have Z:=Bd.1;have Z:=Bo.1;have Z:=Be.1;have Z:=Bb.1;have Z:=Br.1;obtain ⟨Z,Z,Z,Z⟩:=o2_ Ah.1;have Ca : 0 ≤ (Ak : Int):=of_decide_eq_true (by first|(with_reducible assumption)|assumption);have Cb : Ak < (Aj.length : Int):=of_decide_eq_true (by first|(with_reducible assumption)|assumption);obtain ⟨Cx,Dd,Dk⟩:=Kd.at_int (Kd.R_reads' HO_16.1).2.2 Ak Ca Cb;cases Dd;replace Ca:=eq_true Ca;replace Cb:=eq_true Cb;have Cc : 0 ≤ ((rd Aj Ak) : Int):=of_decide_eq_true (by first|(with_reducible assumption)|assumption);have Cd : (rd Aj Ak) < (Am.length : Int):=of_decide_eq_true (by first|(with_reducible assumption)|assumption);obtain ⟨Dw,De,Dl⟩:=Kd.at_int (Kd.R_reads' An.1).2.2 (rd Aj Ak) Cc Cd;cases De;replace Cc:=eq_true Cc;replace Cd:=eq_true Cd;have Ce : 0 ≤ (Ax : Int):=of_decide_eq_true (by first|(with_reducible assumption)|assumption);have Cf : Ax < (Aj.length : Int):=of_decide_eq_true (by first|(with_reducible assumption)|assumption);obtain ⟨Cy,Df,Dm⟩:=Kd.at_int (Kd.R_reads' HO_16.1).2.2 Ax Ce Cf;obtain rfl : Cx = Cy:=(by injection Df);replace Ce:=eq_true Ce;replace Cf:=eq_true Cf)|(go_at_call 17;(with_reducible refine (Aax.calls (rd Am (rd Aj Ak)) (rd Aj Ax) Cw _ D3.1).mono ?_);rintro e w' ⟨rfl,⟨nd,rfl⟩⟩;(try first|exact ⟨rfl,_,World.drewN_drewN _ _ _⟩|exact ⟨rfl,_,Eq.trans (World.drewN_drewN _ _ _) (congrArg (World.drewN _) (Nat.add_assoc _ _ _))⟩)));try go_wp2_with (first|(go_at_call 17;(with_reducible refine (Aax.calls (rd Al Ak) Ax Cv _ D2.1).mono ?_);rintro e w' ⟨rfl,⟨nd,rfl⟩⟩;(try first|exact ⟨rfl,_,World.drewN_drewN _ _ _⟩|exact ⟨rfl,_,Eq.trans (World.drewN_drewN _ _ _) (congrArg (World.drewN _) (Nat.add_assoc _ _ _))⟩);have Z:=Bn.1;have Z:=Bd.1;have Z:=Bo.1;have Z:=Be.1;have Z:=Bb.1;have Z:=Br.1;obtain ⟨Z,Z,Z,Z⟩:=o2_ Ah.1;have Ca : 0 ≤ (Ak : Int):=of_decide_eq_true (by first|(with_reducible assumption)|assumption);have Cb : Ak < (Aj.length : Int):=of_decide_eq_true (by first|(with_reducible assumption)|assumption);obtain ⟨Cx,Dd,Dk⟩:=Kd.at_int (Kd.R_reads' HO_16.1).2.2 Ak Ca Cb;cases Dd;replace Ca:=eq_true Ca;replace Cb:=eq_true Cb;have Cc : 0 ≤ ((rd Aj Ak) : Int):=of_decide_eq_true (by first|(with_reducible assumption)|assumption);have Cd : (rd Aj Ak) < (Am.length : Int):=of_decide_eq_true (by first|(with_reducible assumption)|assumption);obtain ⟨Dw,De,Dl⟩:=Kd.at_int (Kd.R_reads' An.1).2.2 (rd Aj Ak) Cc Cd;cases De;replace Cc:=eq_true Cc;replace Cd:=eq_true Cd;have Ce : 0 ≤ (Ax : Int):=of_decide_eq_true (by first|(with_reducible assumption)|assumption);have Cf : Ax < (Aj.length : Int):=of_decide_eq_true (by first|(with_reducible assumption)|assumption);obtain ⟨Cy,Df,Dm⟩:=Kd.at_int (Kd.R_reads' HO_16.1).2.2 Ax Ce Cf;obtain rfl : Cx = Cy:=(by injection Df);replace Ce:=eq_true Ce;replace Cf:=eq_true Cf)|(go_at_call 17;(with_reducible refine (Aax.calls (rd Am (rd Aj Ak)) (rd Aj Ax) Cw _ D3.1).mono ?_);rintro e w' ⟨rfl,⟨nd,rfl⟩⟩;(try first|exact ⟨rfl,_,World.drewN_drewN _ _ _⟩|exact ⟨rfl,_,Eq.trans (World.drewN_drewN _ _ _) (congrArg (World.drewN _) (Nat.add_assoc _ _ _))⟩))))
                         go_ret
                         exact ⟨by first|rfl|(simp [errW_none,errW_some] <;> rfl)|(simp [*,errW_none,errW_some] <;> rfl),bb_⟩
                        ·rw [if_neg Dc] at H;have c120b0 : (Cv != Cw) = false:=by simpa using Dc
                         (try (have c120b1 : decide (Cv = Cw) = true:=by simpa using Dc));(try (have c120b2 : (Cv == Cw) = true:=by simpa using Dc));clear Dc;have H':=A_ H;clear H;have Z:=Cg.1;have Z:=Bl.1;have Z:=Ch.1;have Z:=Bm.1;have Z:=Bk.1;have Z:=B0.1;have Z:=Bg.1;have Z:=B1.1;obtain ⟨Z,Z,Z,Z⟩:=o2_ Af.1;have Ds : 0 ≤ (Ak : Int):=of_decide_eq_true (by first|(with_reducible assumption)|assumption);have Dt : Ak < (Al.length : Int):=of_decide_eq_true (by first|(with_reducible assumption)|assumption);obtain ⟨Fr,Ek,E0⟩:=Kd.at_int (Kd.R_reads' Ar.1).2.2 Ak Ds Dt;cases Ek
                         replace Ds:=eq_true Ds;replace Dt:=eq_true Dt;go_wp2_with (first|(go_at_call 17;(with_reducible refine (Aax.calls (rd Al Ak) Ax Cv _ D2.1).mono ?_);rintro e w' ⟨rfl,⟨nd,rfl⟩⟩;(try first|exact ⟨rfl,_,World.drewN_drewN _ _ _⟩|exact ⟨rfl,_,Eq.trans (World.drewN_drewN _ _ _) (congrArg (World.drewN _) (Nat.add_assoc _ _ _))⟩);have Z:=Bn.1;have Z:=Bd.1;have Z:=Bo.1;have Z:=Be.1;have Z:=Bb.1;have Z:=Br.1;obtain ⟨Z,Z,Z,Z⟩:=o2_ Ah.1;have Ca : 0 ≤ (Ak : Int):=of_decide_eq_true (by first|(with_reducible assumption)|assumption);have Cb : Ak < (Aj.length : Int):=of_decide_eq_true (by first|(with_reducible assumption)|assumption);obtain ⟨Cx,Dd,Dk⟩:=Kd.at_int (Kd.R_reads' HO_16.1).2.2 Ak Ca Cb;cases Dd;replace Ca:=eq_true Ca;replace Cb:=eq_true Cb;have Cc : 0 ≤ ((rd Aj Ak) : Int):=of_decide_eq_true (by first|(with_reducible assumption)|assumption);have Cd : (rd Aj Ak) < (Am.length : Int):=of_decide_eq_true (by first|(with_reducible assumption)|assumption);obtain ⟨Dw,De,Dl⟩:=Kd.at_int (Kd.R_reads' An.1).2.2 (rd Aj Ak) Cc Cd;cases De;replace Cc:=eq_true Cc;replace Cd:=eq_true Cd;have Ce : 0 ≤ (Ax : Int):=of_decide_eq_true (by first|(with_reducible assumption)|assumption);have Cf : Ax < (Aj.length : Int):=of_decide_eq_true (by first|(with_reducible assumption)|assumption);obtain ⟨Cy,Df,Dm⟩:=Kd.at_int (Kd.R_reads' HO_16.1).2.2 Ax Ce Cf;obtain rfl : Cx = Cy:=(by injection Df);replace Ce:=eq_true Ce;replace Cf:=eq_true Cf)|(go_at_call 17;(with_reducible refine (Aax.calls (rd Am (rd Aj Ak)) (rd Aj Ax) Cw _ D3.1).mono ?_);rintro e w' ⟨rfl,⟨nd,rfl⟩⟩;(try first|exact ⟨rfl,_,World.drewN_drewN _ _ _⟩|exact ⟨rfl,_,Eq.trans (World.drewN_drewN _ _ _) (congrArg (World.drewN _) (Nat.add_assoc _ _ _))⟩)))
                         repeat (go_quiet (first|(go_at_call 17;(with_reducible refine (Aax.calls (rd Al Ak) Ax Cv _ D2.1).mono ?_);rintro e w' ⟨rfl,⟨nd,rfl⟩⟩;(try first|exact ⟨rfl,_,World.drewN_drewN _ _ _⟩|exact ⟨rfl,_,Eq.trans (World.drewN_drewN _ _ _) (congrArg (World.drewN _) (Nat.add_assoc _ _ _))⟩);have Z:=Bn.1;have Z:=Bd.1;have Z:=Bo.1;have Z:=Be.1;have Z:=Bb.1;have Z:=Br.1;obtain ⟨Z,Z,Z,Z⟩:=o2_ Ah.1;have Ca : 0 ≤ (Ak : Int):=of_decide_eq_true (by first|(with_reducible assumption)|assumption);have Cb : Ak < (Aj.length : Int):=of_decide_eq_true (by first|(with_reducible assumption)|assumption);obtain ⟨Cx,Dd,Dk⟩:=Kd.at_int (Kd.R_reads' HO_16.1).2.2 Ak Ca Cb;cases Dd;replace Ca:=eq_true Ca;replace Cb:=eq_true Cb;have Cc : 0 ≤ ((rd Aj Ak) : Int):=of_decide_eq_true (by first|(with_reducible assumption)|assumption);have Cd : (rd Aj Ak) < (Am.length : Int):=of_decide_eq_true (by first|(with_reducible assumption)|assumption);obtain ⟨Dw,De,Dl⟩:=Kd.at_int (Kd.R_reads' An.1).2.2 (rd Aj Ak) Cc Cd;cases De;replace Cc:=eq_true Cc;replace Cd:=eq_true Cd;have Ce : 0 ≤ (Ax : Int):=of_decide_eq_true (by first|(with_reducible assumption)|assumption);have Cf : Ax < (Aj.length : Int):=of_decide_eq_true (by first|(with_reducible assumption)|assumption);obtain ⟨Cy,Df,Dm⟩:=Kd.at_int (Kd.R_reads' HO_16.1).2.2 Ax Ce Cf;obtain rfl : Cx = Cy:=(by injection Df);replace Ce:=eq_true Ce;replace Cf:=eq_true Cf)|(go_at_call 17;(with_reducible refine (Aax.calls (rd Am (rd Aj Ak)) (rd Aj Ax) Cw _ D3.1).mono ?_);rintro e w' ⟨rfl,⟨nd,rfl⟩⟩;(try first|exact ⟨rfl,_,World.drewN_drewN _ _ _⟩|exact ⟨rfl,_,Eq.trans (World.drewN_drewN _ _ _) (congrArg (World.drewN _) (Nat.add_assoc _ _ _))⟩)));try go_wp2_with (first|(go_at_call 17;(with_reducible refine (Aax.calls (rd Al Ak) Ax Cv _ D2.1).mono ?_);rintro e w' ⟨rfl,⟨nd,rfl⟩⟩;(try first|exact ⟨rfl,_,World.drewN_drewN _ _ _⟩|exact ⟨rfl,_,Eq.trans (World.drewN_drewN _ _ _) (congrArg (World.drewN _) (Nat.add_assoc _ _ _))⟩);have Z:=Bn.1;have Z:=Bd.1;have Z:=Bo.1;have Z:=Be.1;have Z:=Bb.1;have Z:=Br.1;obtain ⟨Z,Z,Z,Z⟩:=o2_ Ah.1;have Ca : 0 ≤ (Ak : Int):=of_decide_eq_true (by first|(with_reducible assumption)|assumption);have Cb : Ak < (Aj.length : Int):=of_decide_eq_true (by first|(with_reducible assumption)|assumption);obtain ⟨Cx,Dd,Dk⟩:=Kd.at_int (Kd.R_reads' HO_16.1).2.2 Ak Ca Cb;cases Dd;replace Ca:=eq_true Ca;replace Cb:=eq_true Cb;have Cc : 0 ≤ ((rd Aj Ak) : Int):=of_decide_eq_true (by first|(with_reducible assumption)|assumption);have Cd : (rd Aj Ak) < (Am.length : Int):=of_decide_eq_true (by first|(with_reducible assumption)|assumption);obtain ⟨Dw,De,Dl⟩:=Kd.at_int (Kd.R_reads' An.1).2.2 (rd Aj Ak) Cc Cd;cases De;replace Cc:=eq_true Cc;replace Cd:=eq_true Cd;have Ce : 0 ≤ (Ax : Int):=of_decide_eq_true (by first|(with_reducible assumption)|assumption);have Cf : Ax < (Aj.length : Int):=of_decide_eq_true (by first|(with_reducible assumption)|assumption);obtain ⟨Cy,Df,Dm⟩:=Kd.at_int (Kd.R_reads' HO_16.1).2.2 Ax Ce Cf;obtain rfl : Cx = Cy:=(by injection Df);replace Ce:=eq_true Ce;replace Cf:=eq_true Cf)|(go_at_call 17;(with_reducible refine (Aax.calls (rd Am (rd Aj Ak)) (rd Aj Ax) Cw _ D3.1).mono ?_);rintro e w' ⟨rfl,⟨nd,rfl⟩⟩;(try first|exact ⟨rfl,_,World.drewN_drewN _ _ _⟩|exact ⟨rfl,_,Eq.trans (World.drewN_drewN _ _ _) (congrArg (World.drewN _) (Nat.add_assoc _ _ _))⟩))))
                         go_roundg k5
                         case measure=>have:=HJ7.1;have:=HJ25.1;have:=HJ70.1;have:=HK4.1;have:=HK5.1;omega
                         case rel=>exact ⟨(wrap64 (Ax + 1)),(by first|rfl|(simp;done)|(simp [*];done)),H',⟨by have:=HJ7.1;have:=HJ25.1;have:=HJ70.1;have:=HK4.1;have:=HK5.1;omega⟩,⟨rl_ HO_16⟩,⟨rl_ Ab⟩,⟨rl_ Aa⟩,⟨rl_ Ar⟩,⟨rl_ An⟩,⟨rl_ Bh⟩,⟨bl_ Ac⟩,⟨bl_ Ad⟩,⟨bl_ Af⟩,⟨bl_ Ah⟩,⟨bl_ Ao⟩,⟨bb_⟩⟩
                       ·rw [if_neg Eg] at H;exact absurd H (by simp)
                      ·rw [if_neg Ef] at H;exact absurd H (by simp)
                     ·rw [if_neg Ee] at H;exact absurd H (by simp)
                    ·rw [if_neg Ed] at H;exact absurd H (by simp)
                   ·rw [if_neg Ec] at H;exact absurd H (by simp)
                  ·rw [if_neg Eb] at H;exact absurd H (by simp)
                 ·rw [if_neg Ea] at H;exact absurd H (by simp)
                ·rw [if_neg D1] at H;have c110b0 : decide (Ax < (Aj.length : Int)) = false:=decide_eq_false D1;clear D1;have H':=A_ H;clear H;go_wp2
                 repeat (go_quiet (fail);try go_wp2)
                 go_roundg k5
                 case measure=>have:=HJ7.1;have:=HJ25.1;have:=HJ70.1;have:=HK4.1;have:=HK5.1;omega
                 case rel=>exact ⟨(wrap64 (Ak + 1)),(by first|rfl|(simp;done)|(simp [*];done)),H',⟨by have:=HJ7.1;have:=HJ25.1;have:=HJ70.1;have:=HK4.1;have:=HK5.1;omega⟩,⟨rl_ HO_16⟩,⟨rl_ Ab⟩,⟨rl_ Aa⟩,⟨rl_ Ar⟩,⟨rl_ An⟩,⟨rl_ Bh⟩,⟨bl_ Ac⟩,⟨bl_ Ad⟩,⟨bl_ Af⟩,⟨bl_ Ah⟩,⟨bl_ Ao⟩,⟨bb_⟩⟩
             ·rw [if_neg Dr] at H;have c109b0 : decide (Ak < (Aj.length : Int)) = false:=decide_eq_false Dr;clear Dr;replace H:=Option.bind_eq_some_iff.mp H;obtain ⟨⟨D4,Cz⟩,Ez,H⟩:=H;(try dsimp only at H);have D5:=A_ Ez;clear Ez;by_cases Dg : (Cz == (decide (Au ≤ 6))) = true
              ·rw [if_pos Dg] at H;have c140b0 : (Cz == (decide (Au ≤ 6))) = true:=Dg;(try (have c140b1 : decide (Cz = (decide (Au ≤ 6))) = true:=by simpa using Dg));(try (have c140b2 : (Cz == (decide (Au ≤ 6))) = true:=by simpa using Dg));clear Dg;obtain rfl:=Option.some.inj H;have Z:=Cg.1;have Z:=Bl.1;have Z:=Ch.1;have Z:=Bm.1;have Z:=Bk.1;have Z:=B0.1;have Z:=Bg.1;have Z:=B1.1;obtain ⟨Z,Z,Z,Z⟩:=o2_ Af.1;have Z:=Bn.1;have Z:=Bd.1;have Z:=Bo.1;have Z:=Be.1;have Z:=Bb.1;have Z:=Br.1;obtain ⟨Z,Z,Z,Z⟩:=o2_ Ah.1;go_wp2_with (first|(go_at_call 29;(with_reducible refine (Aa4.calls k4 Au _ _ Al Aw _ _ Am D4 Cz _ ?side1 ?side2 ?side3 ?side4 D5.1).mono ?_);(case side1=>exact cl_ (Kd.R_reads' Ar.1).2.2);(case side2=>exact (Kd.R_reads' Ar.1).2.1);(case side3=>exact cl_ (Kd.R_reads' An.1).2.2);(case side4=>exact (Kd.R_reads' An.1).2.1);rintro e Fm ⟨rfl,hb⟩;replace HO_16:=rb_ HO_16 hb;replace Ab:=rb_ Ab hb;replace Aa:=rb_ Aa hb;replace Ar:=rb_ Ar hb;replace An:=rb_ An hb;replace Bh:=rb_ Bh hb;replace Ac:=bz Ac hb;replace Ad:=bz Ad hb;replace Af:=bz Af hb;replace Ah:=bz Ah hb;replace Ao:=bz Ao hb;replace HB:=A_ (below_step bb_ hb);(try clear hb);(try clear hb2);(try clear hk);(try clear hi);obtain ⟨Z,Z,Z,Z⟩:=o2_ Af.1))
               repeat (go_quiet (first|(go_at_call 29;(with_reducible refine (Aa4.calls k4 Au _ _ Al Aw _ _ Am D4 Cz _ ?side1 ?side2 ?side3 ?side4 D5.1).mono ?_);(case side1=>exact cl_ (Kd.R_reads' Ar.1).2.2);(case side2=>exact (Kd.R_reads' Ar.1).2.1);(case side3=>exact cl_ (Kd.R_reads' An.1).2.2);(case side4=>exact (Kd.R_reads' An.1).2.1);rintro e Fm ⟨rfl,hb⟩;replace HO_16:=rb_ HO_16 hb;replace Ab:=rb_ Ab hb;replace Aa:=rb_ Aa hb;replace Ar:=rb_ Ar hb;replace An:=rb_ An hb;replace Bh:=rb_ Bh hb;replace Ac:=bz Ac hb;replace Ad:=bz Ad hb;replace Af:=bz Af hb;replace Ah:=bz Ah hb;replace Ao:=bz Ao hb;replace HB:=A_ (below_step bb_ hb);(try clear hb);(try clear hb2);(try clear hk);(try clear hi);obtain ⟨Z,Z,Z,Z⟩:=o2_ Af.1));try go_wp2_with (first|(go_at_call 29;(with_reducible refine (Aa4.calls k4 Au _ _ Al Aw _ _ Am D4 Cz _ ?side1 ?side2 ?side3 ?side4 D5.1).mono ?_);(case side1=>exact cl_ (Kd.R_reads' Ar.1).2.2);(case side2=>exact (Kd.R_reads' Ar.1).2.1);(case side3=>exact cl_ (Kd.R_reads' An.1).2.2);(case side4=>exact (Kd.R_reads' An.1).2.1);rintro e Fm ⟨rfl,hb⟩;replace HO_16:=rb_ HO_16 hb;replace Ab:=rb_ Ab hb;replace Aa:=rb_ Aa hb;replace Ar:=rb_ Ar hb;replace An:=rb_ An hb;replace Bh:=rb_ Bh hb;replace Ac:=bz Ac hb;replace Ad:=bz Ad hb;replace Af:=bz Af hb;replace Ah:=bz Ah hb;replace Ao:=bz Ao hb;replace HB:=A_ (below_step bb_ hb);(try clear hb);(try clear hb2);(try clear hk);(try clear hi);obtain ⟨Z,Z,Z,Z⟩:=o2_ Af.1)))
               go_ret
               exact ⟨by first|rfl|(simp [errW_none,errW_some] <;> rfl)|(simp [*,errW_none,errW_some] <;> rfl),bb_⟩
              ·rw [if_neg Dg] at H;have c140b0 : (Cz == (decide (Au ≤ 6))) = false:=by simpa using Dg
               (try (have c140b1 : decide (Cz = (decide (Au ≤ 6))) = false:=by simpa using Dg));(try (have c140b2 : (Cz == (decide (Au ≤ 6))) = false:=by simpa using Dg));(try (have c140b3 : ¬ (Cz = (decide (Au ≤ 6))):=by simpa using Dg));clear Dg;obtain rfl:=Option.some.inj H;have Z:=Cg.1;have Z:=Bl.1;have Z:=Ch.1;have Z:=Bm.1;have Z:=Bk.1;have Z:=B0.1;have Z:=Bg.1;have Z:=B1.1;obtain ⟨Z,Z,Z,Z⟩:=o2_ Af.1;have Z:=Bn.1;have Z:=Bd.1;have Z:=Bo.1;have Z:=Be.1;have Z:=Bb.1;have Z:=Br.1;obtain ⟨Z,Z,Z,Z⟩:=o2_ Ah.1;go_wp2_with (first|(go_at_call 29;(with_reducible refine (Aa4.calls k4 Au _ _ Al Aw _ _ Am D4 Cz _ ?side1 ?side2 ?side3 ?side4 D5.1).mono ?_);(case side1=>exact cl_ (Kd.R_reads' Ar.1).2.2);(case side2=>exact (Kd.R_reads' Ar.1).2.1);(case side3=>exact cl_ (Kd.R_reads' An.1).2.2);(case side4=>exact (Kd.R_reads' An.1).2.1);rintro e Fo ⟨rfl,hb⟩;replace HO_16:=rb_ HO_16 hb;replace Ab:=rb_ Ab hb;replace Aa:=rb_ Aa hb;replace Ar:=rb_ Ar hb;replace An:=rb_ An hb;replace Bh:=rb_ Bh hb;replace Ac:=bz Ac hb;replace Ad:=bz Ad hb;replace Af:=bz Af hb;replace Ah:=bz Ah hb;replace Ao:=bz Ao hb;replace HB:=A_ (below_step bb_ hb);(try clear hb);(try clear hb2);(try clear hk);(try clear hi);obtain ⟨Z,Z,Z,Z⟩:=o2_ Af.1))
               repeat (go_quiet (first|(go_at_call 29;(with_reducible refine (Aa4.calls k4 Au _ _ Al Aw _ _ Am D4 Cz _ ?side1 ?side2 ?side3 ?side4 D5.1).mono ?_);(case side1=>exact cl_ (Kd.R_reads' Ar.1).2.2);(case side2=>exact (Kd.R_reads' Ar.1).2.1);(case side3=>exact cl_ (Kd.R_reads' An.1).2.2);(case side4=>exact (Kd.R_reads' An.1).2.1);rintro e Fo ⟨rfl,hb⟩;replace HO_16:=rb_ HO_16 hb;replace Ab:=rb_ Ab hb;replace Aa:=rb_ Aa hb;replace Ar:=rb_ Ar hb;replace An:=rb_ An hb;replace Bh:=rb_ Bh hb;replace Ac:=bz Ac hb;replace Ad:=bz Ad hb;replace Af:=bz Af hb;replace Ah:=bz Ah hb;replace Ao:=bz Ao hb;replace HB:=A_ (below_step bb_ hb);(try clear hb);(try clear hb2);(try clear hk);(try clear hi);obtain ⟨Z,Z,Z,Z⟩:=o2_ Af.1));try go_wp2_with (first|(go_at_call 29;(with_reducible refine (Aa4.calls k4 Au _ _ Al Aw _ _ Am D4 Cz _ ?side1 ?side2 ?side3 ?side4 D5.1).mono ?_);(case side1=>exact cl_ (Kd.R_reads' Ar.1).2.2);(case side2=>exact (Kd.R_reads' Ar.1).2.1);(case side3=>exact cl_ (Kd.R_reads' An.1).2.2);(case side4=>exact (Kd.R_reads' An.1).2.1);rintro e Fo ⟨rfl,hb⟩;replace HO_16:=rb_ HO_16 hb;replace Ab:=rb_ Ab hb;replace Aa:=rb_ Aa hb;replace Ar:=rb_ Ar hb;replace An:=rb_ An hb;replace Bh:=rb_ Bh hb;replace Ac:=bz Ac hb;replace Ad:=bz Ad hb;replace Af:=bz Af hb;replace Ah:=bz Ah hb;replace Ao:=bz Ao hb;replace HB:=A_ (below_step bb_ hb);(try clear hb);(try clear hb2);(try clear hk);(try clear hi);obtain ⟨Z,Z,Z,Z⟩:=o2_ Af.1)))
               go_ret
               exact ⟨by first|rfl|(simp [errW_none,errW_some] <;> rfl)|(simp [*,errW_none,errW_some] <;> rfl),bb_⟩
          ·replace D0:=Bool.eq_false_iff.mpr D0;subst D0;rw [if_neg nf_] at H;obtain rfl:=Option.some.inj H;go_wp2
           repeat (go_quiet (fail);try go_wp2)
           go_ret
           exact ⟨by first|rfl|(simp [errW_none,errW_some] <;> rfl)|(simp [*,errW_none,errW_some] <;> rfl),bb_⟩
def Aad.Pure : Prop := ∀ (l0 : List Int) (l1 : List Int), l0.length ≤ maxLen → l0.length * 1 ≤ 140737488351232 → (∀ x ∈ l0, (Lit.int .u8 x).wf = true) → l1.length ≤ maxLen → l1.length * 1 ≤ 140737488351232 → (∀ x ∈ l1, (Lit.int .u8 x).wf = true) → ∃ k, Aad.f k l0 l1 = some true
theorem Aad.walk (P : Aad.Pure) (a0 : Option Addr) (len0 cap0 : Nat) (z0 : List Int) (a1 : Option Addr) (len1 cap1 : Nat) (z1 : List Int) (w : World) (w0 : (a0 = none ∧ len0 = 0 ∧ cap0 = 0 ∧ z0 = []) ∨ ∃ x,a0 = some x ∧ len0 ≤ cap0 ∧ cap0 ≤ maxLen ∧ z0.length = cap0 ∧ (∀ i,i < z0.length → w.cell? (x.add i) = some (.int .u8 (z0.getD i 0))) ∧ ∀ n ∈ z0,(Lit.int .u8 n).wf = true) (y0 : len0 * 1 ≤ 140737488351232) (w1 : (a1 = none ∧ len1 = 0 ∧ cap1 = 0 ∧ z1 = []) ∨ ∃ x,a1 = some x ∧ len1 ≤ cap1 ∧ cap1 ≤ maxLen ∧ z1.length = cap1 ∧ (∀ i,i < z1.length → w.cell? (x.add i) = some (.int .u8 (z1.getD i 0))) ∧ ∀ n ∈ z1,(Lit.int .u8 n).wf = true) (y1 : len1 * 1 ≤ 140737488351232) (hT : TabOK w) :
 Calls Tryd.prog 5 #[.slice a0 len0 cap0,.slice a1 len1 cap1] w fun e w'=>e = .returned (.bool true) ∧ Below w.heap.size w w':=by
 obtain ⟨l0,rfl,hr0,hm0,hw0,hc0⟩:=ReadsInt.ofRowC w0;obtain ⟨l1,rfl,hr1,hm1,hw1,hc1⟩:=ReadsInt.ofRowC w1;obtain ⟨k,h⟩:=P l0 l1 hm0 y0 hw0 hm1 y1 hw1;refine (Aad.calls k _ _ l0 _ _ l1 true w (Kd.C_of_reads (d:=(0 : Int)) (h1:=fun _=>rfl) hr0) hc0 (Kd.C_of_reads (d:=(0 : Int)) (h1:=fun _=>rfl) hr1) hc1 hT h).mono ?_
 rintro e w' ⟨rfl,hd⟩
 exact ⟨rfl,hd⟩
end Go.Proofs.YtfjpilcmjabikaaDoor.P
namespace Go.Proofs.YtfjpilcmjabikaaDoor.M
open Go.RowKit Go.Proofs.YtfjpilcmjabikaaDoorW.PrintMore Go.Proofs.YtfjpilcmjabikaaDoorW.PrintLast Go.Proofs.YtfjpilcmjabikaaDoorW.PrintWords
theorem i64_small (n : Nat) (h : n < 9223372036854775808) : IntKind.i64.wrap (n : Int) = (n : Int) := by
  simp [IntKind.wrap, IntKind.signed, IntKind.bits]
  omega
theorem wrap64_id (x : Int) (h0 : -9223372036854775808 ≤ x) (h1 : x ≤ 9223372036854775807) : wrap64 x = x := by
  unfold wrap64
  omega
theorem ofInt64 (a : Nat) (ha : a < 18446744073709551616) : (BitVec.ofInt 64 (a : Int)).toNat = a := by
  rw [BitVec.ofInt_natCast, BitVec.toNat_ofNat]; exact Nat.mod_eq_of_lt (by omega)
theorem and_i64 (a b : Nat) (ha : a < 9223372036854775808) (hb : b < 9223372036854775808) : Go.bits .and .i64 (a : Int) (b : Int) = ((a &&& b : Nat) : Int) := by
  have hx : a &&& b < 2 ^ 63 := Nat.and_lt_two_pow _ (by omega)
  show IntKind.i64.wrap ((BitVec.ofInt 64 (a : Int) &&& BitVec.ofInt 64 (b : Int)).toNat : Int) = _
  rw [BitVec.toNat_and, ofInt64 a (by omega), ofInt64 b (by omega), i64_small _ (by omega)]
theorem or_i64 (a b : Nat) (ha : a < 9223372036854775808) (hb : b < 9223372036854775808) : Go.bits .or .i64 (a : Int) (b : Int) = ((a ||| b : Nat) : Int) := by
  have hx : a ||| b < 2 ^ 63 := Nat.or_lt_two_pow (by omega) (by omega)
  show IntKind.i64.wrap ((BitVec.ofInt 64 (a : Int) ||| BitVec.ofInt 64 (b : Int)).toNat : Int) = _
  rw [BitVec.toNat_or, ofInt64 a (by omega), ofInt64 b (by omega), i64_small _ (by omega)]
def diff (a b : Nat) : Nat := a &&& (a ^^^ b)
theorem shl1 (j : Nat) (h : j ≤ 62) : shl .i64 1 (j : Int) = ((2 ^ j : Nat) : Int) := by
  unfold shl
  have h2 : (2 : Nat) ^ j < 9223372036854775808 := Nat.lt_of_le_of_lt (Nat.pow_le_pow_right (by decide) h) (by decide)
  rw [Int.toNat_natCast, Nat.min_eq_left (by show j ≤ 64; omega), Int.one_mul]
  have := i64_small (2 ^ j) h2
  rwa [Int.natCast_pow] at this ⊢
theorem shr_nat (a j : Nat) (h : j ≤ 64) : shr .i64 (a : Int) (j : Int) = ((a / 2 ^ j : Nat) : Int) := by
  unfold shr
  rw [Int.toNat_natCast, Nat.min_eq_left (by exact h)]
  simp
def bit (s : Int) (j : Nat) : Bool := s.toNat.testBit j
theorem bit_cast (a j : Nat) : bit (a : Int) j = a.testBit j := by simp [bit]
theorem and_one (a : Nat) (j : Nat) : ((a / 2 ^ j) &&& 1 : Nat) = if a.testBit j then 1 else 0 := by
  rw [Nat.and_one_is_mod, Nat.testBit_eq_decide_div_mod_eq]
  rcases Nat.mod_two_eq_zero_or_one (a / 2 ^ j) with h | h <;> simp [h]
theorem has_and (s : Int) (j : Nat) (h0 : 0 ≤ s) (h1 : s < 9223372036854775808) (hj : j ≤ 64) : (Go.bits .and .i64 (shr .i64 s (j : Int)) 1 == 1) = bit s j := by
  obtain ⟨a, rfl⟩ := Int.eq_ofNat_of_zero_le h0
  have hl : a / 2 ^ j < 9223372036854775808 := Nat.lt_of_le_of_lt (Nat.div_le_self _ _) (by omega)
  rw [shr_nat a j hj, show (1 : Int) = ((1 : Nat) : Int) from rfl, and_i64 _ 1 hl (by decide), and_one, bit_cast]
  cases a.testBit j <;> rfl
theorem has_mod (s : Int) (j : Nat) (h0 : 0 ≤ s) (hj : j ≤ 64) : (Int.tmod (shr .i64 s (j : Int)) 2 == 1) = bit s j := by
  obtain ⟨a, rfl⟩ := Int.eq_ofNat_of_zero_le h0
  rw [shr_nat a j hj, bit_cast, Nat.testBit_eq_decide_div_mod_eq, Int.tmod_eq_emod_of_nonneg (Int.natCast_nonneg _)]
  rcases Nat.mod_two_eq_zero_or_one (a / 2 ^ j) with h | h
  · rw [show ((a / 2 ^ j : Nat) : Int) % 2 = 0 from by omega]; simp [h]
  · rw [show ((a / 2 ^ j : Nat) : Int) % 2 = 1 from by omega]; simp [h]
def setOf : Nat → (Nat → Bool) → Nat
  | 0, _ => 0
  | n + 1, q => setOf n q ||| (if q n then 2 ^ n else 0)
theorem testBit_setOf (n : Nat) (q : Nat → Bool) (j : Nat) : (setOf n q).testBit j = (decide (j < n) && q j) := by
  induction n with
  | zero => simp [setOf]
  | succ n ih =>
    unfold setOf
    rw [Nat.testBit_or, ih]
    by_cases hq : q n
    · rw [if_pos hq, Nat.testBit_two_pow]
      by_cases h : n = j
      · subst h; simp [hq]
      · have : (j < n + 1) ↔ j < n := by omega
        simp [h, this]
    · rw [if_neg hq]
      by_cases h : n = j
      · subst h; simp [hq]
      · have : (j < n + 1) ↔ j < n := by omega
        simp [this]
theorem setOf_lt (n : Nat) (q : Nat → Bool) : setOf n q < 2 ^ n := by
  induction n with
  | zero => simp [setOf]
  | succ n ih =>
    unfold setOf
    have h1 : setOf n q < 2 ^ (n + 1) := Nat.lt_of_lt_of_le ih (Nat.pow_le_pow_right (by decide) (by omega))
    refine Nat.or_lt_two_pow h1 ?_
    split
    · exact Nat.pow_lt_pow_right (by decide) (by omega)
    · exact Nat.two_pow_pos _
theorem setOf_congr {n : Nat} {q q' : Nat → Bool} (h : ∀ j, j < n → q j = q' j) : setOf n q = setOf n q' := by
  apply Nat.eq_of_testBit_eq
  intro j
  rw [testBit_setOf, testBit_setOf]
  by_cases hj : j < n
  · rw [h j hj]
  · simp [hj]
theorem lt62 {n s : Nat} (h : s < 2 ^ n) (hn : n ≤ 62) : s < 9223372036854775808 := Nat.lt_of_lt_of_le h (Nat.le_trans (Nat.pow_le_pow_right (by decide) hn) (by decide))
theorem setOf_62 (n : Nat) (q : Nat → Bool) (hn : n ≤ 62) : setOf n q < 9223372036854775808 := lt62 (setOf_lt n q) hn
end Go.Proofs.YtfjpilcmjabikaaDoor.M
namespace Go.Proofs.YtfjpilcmjabikaaDoor.M
open Go.RowKit Go.Proofs.YtfjpilcmjabikaaDoorW.PrintMore Go.Proofs.YtfjpilcmjabikaaDoorW.PrintLast Go.Proofs.YtfjpilcmjabikaaDoorW.PrintWords
theorem Ev.up {α : Type} {r : α} (G : Nat → Nat → Option α) (n : Nat) (step : ∀ i, i < n → Ev (G (i + 1)) r → Ev (G i) r) (stop : Ev (G n) r) : Ev (G 0) r := by
  have key : ∀ m, m ≤ n → Ev (G (n - m)) r := by
    intro m
    induction m with
    | zero => intro _; exact stop
    | succ m ih =>
      intro hm
      have h := step (n - (m + 1)) (by omega)
      rw [show n - (m + 1) + 1 = n - m from by omega] at h
      exact h (ih (by omega))
  have := key n (Nat.le_refl _)
  rwa [Nat.sub_self] at this
theorem Ev.from {α : Type} {r : α} (G : Nat → Nat → Option α) (n i : Nat) (hi : i ≤ n) (step : ∀ i, i < n → Ev (G (i + 1)) r → Ev (G i) r) (stop : Ev (G n) r) : Ev (G i) r := by
  have h := Ev.up (fun j => G (i + j)) (n - i) (fun j hj h => step (i + j) (by omega) h) (by rw [show i + (n - i) = n from by omega]; exact stop)
  exact h
def allB (n : Nat) (p : Nat → Bool) : Bool := (List.range n).all p
theorem allB_iff {n : Nat} {p : Nat → Bool} : allB n p = true ↔ ∀ j, j < n → p j = true := by simp [allB]
theorem allB_false {n : Nat} {p : Nat → Bool} : allB n p = false ↔ ∃ j, j < n ∧ p j = false := by simp [allB]
theorem least_false {n : Nat} {p : Nat → Bool} (h : ∃ j, j < n ∧ p j = false) : ∃ j, j < n ∧ p j = false ∧ ∀ i, i < j → p i = true := by
  obtain ⟨j, hj, hp⟩ := h
  induction j using Nat.strongRecOn with
  | _ j ih =>
    by_cases hl : ∃ i, i < j ∧ p i = false
    · obtain ⟨i, hi, hpi⟩ := hl
      exact ih i hi (by omega) hpi
    · refine ⟨j, hj, hp, fun i hi => ?_⟩
      cases hc : p i with
      | true => rfl
      | false => exact absurd ⟨i, hi, hc⟩ hl
theorem Ev.all (G : Nat → Nat → Option Bool) (n : Nat) (p : Nat → Bool) (yes : ∀ i r, i < n → p i = true → Ev (G (i + 1)) r → Ev (G i) r) (no : ∀ i, i < n → p i = false → Ev (G i) false) (stop : Ev (G n) true) :
    Ev (G 0) (allB n p) := by
  cases h : allB n p with
  | true =>
    have h := allB_iff.1 h
    exact Ev.up G n (fun i hi => yes i true hi (h i hi)) stop
  | false =>
    obtain ⟨j, hj, hp, hl⟩ := least_false (allB_false.1 h)
    exact Ev.up G j (fun i hi => yes i false (by omega) (hl i hi)) (no j hj hp)
theorem Ev.to {α : Type} {g : Nat → Option α} {r r' : α} (h : Ev g r) (e : r = r') : Ev g r' := e ▸ h
theorem rd_nat (l : List Int) (i : Nat) : rd l (i : Int) = l.getD i 0 := by simp [rd]
theorem rd_get (l : List Int) (i : Nat) (h : i < l.length) : rd l (i : Int) = l[i] := by simp [rd, h]
theorem next64 (i n : Nat) (h : i < n) (hn : n ≤ 140737488355328) : wrap64 ((i : Int) + 1) = ((i + 1 : Nat) : Int) := by unfold wrap64; omega
theorem list_ext_getD {l l' : List Int} (hl : l.length = l'.length) (h : ∀ i, i < l.length → l.getD i 0 = l'.getD i 0) : l = l' := by
  apply List.ext_getElem hl
  intro i h1 h2
  have := h i h1
  simpa [h1, h2] using this
end Go.Proofs.YtfjpilcmjabikaaDoor.M
namespace Go.Proofs.YtfjpilcmjabikaaDoor.P
open Go.RowKit Go.Proofs.YtfjpilcmjabikaaDoorW.PrintWords Go.Proofs.YtfjpilcmjabikaaDoorW.PrintLast Go.Proofs.YtfjpilcmjabikaaDoorW.PrintMore
open Bool renaming true → T, false → F
open List renaming setIfInBounds_toArray → L_, set_cons_zero → M_, set_cons_succ → N_, map_toArray → P_, map_cons → Q_, map_nil → R_, length_drop → S_, length_take → U_
open Aside0 renaming mk → A_
attribute [local go_sem] max2_int min2_int max_two min_two max_three min_three max_four min_four
set_option linter.unusedVariables false
set_option linter.unusedSimpArgs false
attribute [local go_sem] fldOrder_0 fldOrder_1
def Abs.l0 : Nat → Int → List Int → Int → Option (List Int)
 | 0,_,_,_=>none
 | k + 1,x0,x3,x4=>if 0 ≤ x4 then (if (shr .i64 x0 x4) > 0 then ((Aay.f x0 x4).bind fun t320=>(if t320 = true then (if x3.length < 17592186044416 then (Abs.l0 k x0 (x3 ++ [x4]) (wrap64 (x4 + 1))) else (none)) else (Abs.l0 k x0 x3 (wrap64 (x4 + 1))))) else (some x3)) else (none)
def Abs.f (k : Nat) (a0 : Int) : Option (List Int) := Abs.l0 k a0 ([] : List Int) 0
end Go.Proofs.YtfjpilcmjabikaaDoor.P
namespace Go.Proofs.YtfjpilcmjabikaaDoor.M
open Go.RowKit Go.Proofs.YtfjpilcmjabikaaDoorW.PrintMore Go.Proofs.YtfjpilcmjabikaaDoorW.PrintLast Go.Proofs.YtfjpilcmjabikaaDoorW.PrintWords Go.Proofs.YtfjpilcmjabikaaDoor.P
def elems (n s : Nat) : List Nat := (List.range n).filter fun j => s.testBit j
theorem mem_elems {n s j : Nat} : j ∈ elems n s ↔ j < n ∧ s.testBit j = true := by simp [elems]
theorem elems_zero (n : Nat) : elems n 0 = [] := by simp [elems]
def ints (l : List Nat) : List Int := l.map fun (j : Nat) => (j : Int)
theorem ints_length (l : List Nat) : (ints l).length = l.length := by simp [ints]
theorem elems_length_le (n s : Nat) : (elems n s).length ≤ n := by
  unfold elems
  exact Nat.le_trans (List.length_filter_le _ _) (by simp)
theorem filter_range_split (n c : Nat) (h : c < n) (p : Nat → Bool) : (List.range n).filter p = (List.range c).filter p ++ ((if p c then [c] else []) ++ (List.range' (c + 1) (n - (c + 1))).filter p) := by
  have e : List.range n = List.range c ++ ([c] ++ List.range' (c + 1) (n - (c + 1))) := by
    rw [List.range_eq_range', List.range_eq_range']
    have h1 : n = c + (1 + (n - (c + 1))) := by omega
    have e1 : List.range' 0 n = List.range' 0 c ++ List.range' c (1 + (n - (c + 1))) := by
      have := List.range'_append_1 (s := 0) (m := c) (n := 1 + (n - (c + 1)))
      rw [Nat.zero_add] at this
      rw [this, ← h1]
    rw [e1, Nat.add_comm 1, List.range'_succ]
    rfl
  rw [e, List.filter_append, List.filter_append]
  congr 1
  cases hp : p c <;> simp [hp]
theorem elems_least (n s c m : Nat) (hs : s = 2 ^ c * (2 * m + 1)) (hn : s < 2 ^ n) : elems n s = c :: elems n (s &&& (s - 1)) := by
  have hp : 0 < 2 ^ c := Nat.two_pow_pos c
  have e1 : s - 1 = 2 ^ (c + 1) * m + (2 ^ c - 1) := by
    have a1 : 2 ^ c * (2 * m + 1) = 2 ^ (c + 1) * m + 2 ^ c := by rw [Nat.pow_succ, Nat.mul_add, Nat.mul_assoc]; simp
    omega
  have hb : ∀ j, s.testBit j = if j < c then false else if j = c then true else m.testBit (j - (c + 1)) := by
    intro j
    rw [hs, Nat.mul_comm, Nat.testBit_mul_two_pow]
    by_cases h1 : j < c
    · rw [if_pos h1]; simp; omega
    · rw [if_neg h1]
      by_cases h2 : j = c
      · subst h2; simp
      · rw [if_neg h2]
        obtain ⟨d, rfl⟩ : ∃ d, j = c + (d + 1) := ⟨j - c - 1, by omega⟩
        rw [show c + (d + 1) - c = d + 1 from by omega, show c + (d + 1) - (c + 1) = d from by omega, Nat.testBit_succ, show (2 * m + 1) / 2 = m from by omega]
        simp
  have hb1 : ∀ j, (s - 1).testBit j = if j < c then true else if j = c then false else m.testBit (j - (c + 1)) := by
    intro j
    rw [e1, Nat.testBit_two_pow_mul_add m (by have : 2 ^ c < 2 ^ (c + 1) := Nat.pow_lt_pow_right (by decide) (by omega); omega)]
    by_cases h1 : j < c
    · rw [if_pos (by omega), if_pos h1, Nat.testBit_two_pow_sub_one]; simp [h1]
    · rw [if_neg h1]
      by_cases h2 : j = c
      · subst h2; rw [if_pos (by omega), if_pos rfl, Nat.testBit_two_pow_sub_one]; simp
      · rw [if_neg (by omega), if_neg h2]
  have hb2 : ∀ j, (s &&& (s - 1)).testBit j = if j ≤ c then false else s.testBit j := by
    intro j
    rw [Nat.testBit_and, hb, hb1]
    by_cases h1 : j < c
    · simp [h1, Nat.le_of_lt h1]
    · by_cases h2 : j = c
      · simp [h2]
      · rw [if_neg h1, if_neg h1, if_neg h2, if_neg h2, if_neg (by omega)]; simp
  have hc : c < n := by
    apply Nat.lt_of_not_le
    intro hle
    have h1 : 2 ^ n ≤ 2 ^ c := Nat.pow_le_pow_right (by decide) hle
    have h2 : 2 ^ c ≤ s := by rw [hs]; exact Nat.le_mul_of_pos_right _ (by omega)
    omega
  unfold elems
  rw [filter_range_split n c hc, filter_range_split n c hc (fun j => (s &&& (s - 1)).testBit j)]
  have z1 : (List.range c).filter (fun j => s.testBit j) = [] := by
    rw [List.filter_eq_nil_iff]; intro j hj; simp at hj; rw [hb, if_pos hj]; simp
  have z2 : (List.range c).filter (fun j => (s &&& (s - 1)).testBit j) = [] := by
    rw [List.filter_eq_nil_iff]; intro j hj; simp at hj; rw [hb2, if_pos (by omega)]; simp
  have z3 : (List.range' (c + 1) (n - (c + 1))).filter (fun j => s.testBit j) = (List.range' (c + 1) (n - (c + 1))).filter (fun j => (s &&& (s - 1)).testBit j) := by
    apply List.filter_congr
    intro j hj
    rw [List.mem_range'] at hj
    obtain ⟨i, hi, rfl⟩ := hj
    rw [hb2, if_neg (by omega)]
  have y1 : s.testBit c = true := by rw [hb, if_neg (by omega), if_pos rfl]
  have y2 : (s &&& (s - 1)).testBit c = false := by rw [hb2, if_pos (Nat.le_refl _)]
  rw [z1, z2, z3, if_pos y1, y2]
  rfl
theorem and_pred_lt (s : Nat) (h : s ≠ 0) : s &&& (s - 1) < s := Nat.lt_of_le_of_lt Nat.and_le_right (by omega)
theorem u64_small (n : Nat) (h : n < 18446744073709551616) : IntKind.u64.wrap (n : Int) = (n : Int) := by
  simp [IntKind.wrap, IntKind.signed, IntKind.bits]
  omega
theorem members_ev (n : Nat) (hn : n ≤ 62) (s : Nat) (hs : s < 2 ^ n) : Ev (fun k => Aa8.f k (s : Int)) (ints (elems n s)) := by
  have key : ∀ d s, s ≤ d → s < 2 ^ n → ∀ acc : List Int, acc.length + (elems n s).length ≤ 64 → Ev (fun k => Aa8.l0 k (s : Int) acc) (acc ++ ints (elems n s)) := by
    intro d
    induction d with
    | zero =>
      intro s h0 _ acc _
      obtain rfl : s = 0 := by omega
      refine Ev.step (fun _ => rfl) ?_
      simp only [Aa8.l0, Int.natCast_zero, if_true]
      rw [elems_zero]
      simpa [ints] using Ev.now acc
    | succ d ih =>
      intro s h0 hs acc ha
      by_cases hz : s = 0
      · exact ih s (by omega) hs acc ha
      · have hs2 := lt62 hs hn
        obtain ⟨m, hm, hk⟩ := Lib.ctzFrom_spec 64 s (by omega) (by omega)
        have he := elems_least n s _ m hm hs
        have hl : (elems n s).length = (elems n (s &&& (s - 1))).length + 1 := by rw [he]; rfl
        refine Ev.step (fun _ => rfl) ?_
        have hc : Lib.ctz 64 s = Lib.ctzFrom 64 s := by unfold Lib.ctz; rw [if_neg hz]
        have e1 : Abl.f (IntKind.u64.wrap (s : Int)) = some ((Lib.ctzFrom 64 s : Nat) : Int) := by
          rw [u64_small s (by omega)]
          unfold Abl.f Abi.f
          rw [if_pos ⟨by omega, by omega⟩, Int.toNat_natCast, hc]
          rfl
        have e2 : Go.bits .and .i64 (s : Int) (wrap64 ((s : Int) - 1)) = ((s &&& (s - 1) : Nat) : Int) := by
          rw [show wrap64 ((s : Int) - 1) = ((s - 1 : Nat) : Int) from by unfold wrap64; omega]
          exact and_i64 _ _ (by omega) (by omega)
        simp only [Aa8.l0, if_neg (show ¬ (s : Int) = 0 by omega), e1, Option.bind_some, if_pos (show acc.length < 17592186044416 by omega), e2]
        have := ih (s &&& (s - 1)) (by have := and_pred_lt s hz; omega) (Nat.lt_of_le_of_lt Nat.and_le_left hs) (acc ++ [((Lib.ctzFrom 64 s : Nat) : Int)]) (by simp; omega)
        refine Ev.to this ?_
        rw [he]
        simp [ints]
  have h := key s s (Nat.le_refl _) hs [] (by have := elems_length_le n s; simp; omega)
  exact h
theorem orHas_eq (s : Nat) (j : Nat) (hj : j ≤ 64) : Aay.f (s : Int) (j : Int) = some (s.testBit j) := by
  unfold Aay.f
  rw [if_pos (by omega), has_mod _ _ (by omega) hj, bit_cast]
end Go.Proofs.YtfjpilcmjabikaaDoor.M
