/- A part of the proof that the law FnRefinements holds at every input. Written by wip/pack.py: the kit's printed words that are used, the functions' walks as wip/gen.py prints them, and hand proofs. -/
import Derived.Test.YtimjblnglhmakaaDoorKFnRefinements5
namespace Go.Proofs.YtimjblnglhmakaaDoor.P
open Go.RowKit Go.Proofs.YtimjblnglhmakaaDoorW.PrintWords Go.Proofs.YtimjblnglhmakaaDoorW.PrintLast Go.Proofs.YtimjblnglhmakaaDoorW.PrintMore
open Bool renaming true → T, false → F
open List renaming setIfInBounds_toArray → L_, set_cons_zero → M_, set_cons_succ → N_, map_toArray → P_, map_cons → Q_, map_nil → R_, length_drop → S_, length_take → U_
open Aside0 renaming mk → A_
attribute [local go_sem] max2_int min2_int max_two min_two max_three min_three max_four min_four
set_option linter.unusedVariables false
set_option linter.unusedSimpArgs false
attribute [local go_sem] fldOrder_0 fldOrder_1
mutual
def Aac.j0 : Nat → List Int → Bool → Bool → Bool → Int → List Int → Int → List Int → Int → List Int → Option (Bool)
 | 0,_,_,_,_,_,_,_,_,_,_=>none
 | k + 1,x1,x8,x11,x86,x1080000,x1080001,x1081000,x1081001,x1087000,x1087001=>if x86 = true then (some false) else (if x8 = true then ((Aaj.f k x1080000 x1080001 x1087000 x1087001).bind fun bt1098=>((Aaj.f k x1081000 x1081001 x1087000 x1087001).bind fun bt1100=>((Aap.f k x1087000 x1087001).bind fun t1102=>(if t1102 = true then (if bt1098.2 = true then (if bt1098.1 = true then (if bt1100.2 = true then (if bt1100.1 = true then ((Aaz.f k x1087000 x1087001 x1081000 x1081001).bind fun t1103=>(if (x11 != t1103) = true then (some false) else (Aac.j1 k x1))) else (some false)) else (some false)) else (some false)) else (some false)) else (some false))))) else (Aac.j1 k x1))
def Aac.j1 : Nat → List Int → Option (Bool)
 | 0,_=>none
 | k + 1,x1=>(Abp.f k x1).bind fun bt1104=>((Aak.f k bt1104.1 bt1104.2).bind fun bt1110=>((Aal.f k bt1104.1 bt1104.2).bind fun bt1114=>(if (bt1110.2 != bt1114.2) = true then (Aac.j2 k bt1104.1 bt1110.1 bt1110.2 true) else ((Aa8.f k bt1110.1 bt1114.1).bind fun t1118=>(Aac.j2 k bt1104.1 bt1110.1 bt1110.2 (!t1118))))))
def Aac.j2 : Nat → List Int → List Int → Bool → Bool → Option (Bool)
 | 0,_,_,_,_=>none
 | k + 1,x19,x21,x22,x151=>if x151 = true then (some false) else (if x22 = true then ((Aa0.f k x21).bind fun bt1119=>((Aa0.f k x19).bind fun bt1125=>((Aaj.f k bt1119.1 bt1119.2.1 bt1125.1 bt1125.2.1).bind fun bt1131=>(if bt1119.2.2 = true then (if bt1125.2.2 = true then (if bt1131.2 = true then (some bt1131.1) else (some false)) else (some false)) else (some false))))) else (some true))
end
def Aac.f (k : Nat) (l0 : List Int) (l1 : List Int) : Option (Bool) := (Abw.f l0 l1).bind fun t1070 => (if t1070 = true then (some true) else ((Abg.f k l0).bind fun bt1071 => ((Abm.f k bt1071.1 bt1071.2.1 bt1071.2.2.1 bt1071.2.2.2).bind fun bt1081 => ((Aai.f k bt1071.1 bt1071.2.1 bt1071.2.2.1 bt1071.2.2.2).bind fun bt1087 => ((Aaj.f k bt1071.1 bt1071.2.1 bt1071.2.2.1 bt1071.2.2.2).bind fun bt1093 => ((Aam.f k bt1071.1 bt1071.2.1 bt1071.2.2.1 bt1071.2.2.2).bind fun bt1095 => (if (bt1081.2.2 != bt1087.2.2) = true then (Aac.j0 k l1 bt1081.2.2 bt1093.1 true bt1071.1 bt1071.2.1 bt1071.2.2.1 bt1071.2.2.2 bt1081.1 bt1081.2.1) else ((Aaz.f k bt1081.1 bt1081.2.1 bt1087.1 bt1087.2.1).bind fun t1097 => (if t1097 = true then (if (bt1093.2 != bt1095.2) = true then (Aac.j0 k l1 bt1081.2.2 bt1093.1 true bt1071.1 bt1071.2.1 bt1071.2.2.1 bt1071.2.2.2 bt1081.1 bt1081.2.1) else (if (bt1093.1 != bt1095.1) = true then (Aac.j0 k l1 bt1081.2.2 bt1093.1 true bt1071.1 bt1071.2.1 bt1071.2.2.1 bt1071.2.2.2 bt1081.1 bt1081.2.1) else (Aac.j0 k l1 bt1081.2.2 bt1093.1 (bt1093.2 != bt1081.2.2) bt1071.1 bt1071.2.1 bt1071.2.2.1 bt1071.2.2.2 bt1081.1 bt1081.2.1))) else (Aac.j0 k l1 bt1081.2.2 bt1093.1 true bt1071.1 bt1071.2.1 bt1071.2.2.1 bt1071.2.2.2 bt1081.1 bt1081.2.1))))))))))
set_option maxHeartbeats 8000000 in
set_option maxRecDepth 100000 in
theorem Aac.calls (k : Nat) (A0 : Option Addr) (c0 : Nat) (l0 : List Int) (A1 : Option Addr) (c1 : Nat) (l1 : List Int) (r : Bool) (w : World) (hr0 : Kd.C (Kd.int .u8) w A0 l0.length l0) (hc0 : l0.length ≤ c0) (hr1 : Kd.C (Kd.int .u8) w A1 l1.length l1) (hc1 : l1.length ≤ c1) (hT : TabOK w) (h : Aac.f k l0 l1 = some r) :
 Calls Tryd.prog 10 #[.slice A0 l0.length c0,.slice A1 l1.length c1] w fun e w'=>e = .returned (.bool r) ∧ Below w.heap.size w w':=by
 have hu28:=Tryd.underlying28;have HT:=A_ hT;clear hT;have HR0:=A_ hr0;have HC0:=A_ hc0;clear hr0 hc0;have HR1:=A_ hr1;have HC1:=A_ hc1;clear hr1 hc1;have HB:=A_ (Below.refl w.heap.size w);have H : ((Abw.f l0 l1).bind fun D8=>(if D8 = true then (some true) else ((Abg.f k l0).bind fun An=>((Abm.f k An.1 An.2.1 An.2.2.1 An.2.2.2).bind fun Ar=>((Aai.f k An.1 An.2.1 An.2.2.1 An.2.2.2).bind fun Cl=>((Aaj.f k An.1 An.2.1 An.2.2.1 An.2.2.2).bind fun Aw=>((Aam.f k An.1 An.2.1 An.2.2.1 An.2.2.2).bind fun Ch=>(if (Ar.2.2 != Cl.2.2) = true then (Aac.j0 k l1 Ar.2.2 Aw.1 true An.1 An.2.1 An.2.2.1 An.2.2.2 Ar.1 Ar.2.1) else ((Aaz.f k Ar.1 Ar.2.1 Cl.1 Cl.2.1).bind fun Cy=>(if Cy = true then (if (Aw.2 != Ch.2) = true then (Aac.j0 k l1 Ar.2.2 Aw.1 true An.1 An.2.1 An.2.2.1 An.2.2.2 Ar.1 Ar.2.1) else (if (Aw.1 != Ch.1) = true then (Aac.j0 k l1 Ar.2.2 Aw.1 true An.1 An.2.1 An.2.2.1 An.2.2.2 Ar.1 Ar.2.1) else (Aac.j0 k l1 Ar.2.2 Aw.1 (Aw.2 != Ar.2.2) An.1 An.2.1 An.2.2.1 An.2.2.2 Ar.1 Ar.2.1))) else (Aac.j0 k l1 Ar.2.2 Aw.1 true An.1 An.2.1 An.2.2.1 An.2.2.2 Ar.1 Ar.2.1))))))))))) = some r:=h;clear h;replace H:=Option.bind_eq_some_iff.mp H;obtain ⟨D8,A30,H⟩:=H;replace H : (if D8 = true then (some true) else ((Abg.f k l0).bind fun An=>((Abm.f k An.1 An.2.1 An.2.2.1 An.2.2.2).bind fun Ar=>((Aai.f k An.1 An.2.1 An.2.2.1 An.2.2.2).bind fun Cl=>((Aaj.f k An.1 An.2.1 An.2.2.1 An.2.2.2).bind fun Aw=>((Aam.f k An.1 An.2.1 An.2.2.1 An.2.2.2).bind fun Ch=>(if (Ar.2.2 != Cl.2.2) = true then (Aac.j0 k l1 Ar.2.2 Aw.1 true An.1 An.2.1 An.2.2.1 An.2.2.2 Ar.1 Ar.2.1) else ((Aaz.f k Ar.1 Ar.2.1 Cl.1 Cl.2.1).bind fun Cy=>(if Cy = true then (if (Aw.2 != Ch.2) = true then (Aac.j0 k l1 Ar.2.2 Aw.1 true An.1 An.2.1 An.2.2.1 An.2.2.2 Ar.1 Ar.2.1) else (if (Aw.1 != Ch.1) = true then (Aac.j0 k l1 Ar.2.2 Aw.1 true An.1 An.2.1 An.2.2.1 An.2.2.2 Ar.1 Ar.2.1) else (Aac.j0 k l1 Ar.2.2 Aw.1 (Aw.2 != Ar.2.2) An.1 An.2.1 An.2.2.1 An.2.2.2 Ar.1 Ar.2.1))) else (Aac.j0 k l1 Ar.2.2 Aw.1 true An.1 An.2.1 An.2.2.1 An.2.2.2 Ar.1 Ar.2.1)))))))))) = some r:=H;have A3:=A_ A30;clear A30;by_cases c4 : D8 = true
 ·subst c4;have H1 : (some true) = some r:=by rw [if_pos rfl] at H;exact H
  clear H;have H:=H1;clear H1;obtain rfl:=Option.some.inj H;go_enter Tryd.func10,Tryd.ntmps10
  go_wp2_with (first|((with_reducible refine gate_callee (f:=25) rfl ?_);refine goesL_ (some 33) rfl rfl Tryd.func25 (by kernel_rfl) rfl #[.slice A0 l0.length c0,.slice A1 l1.length c1] rfl au_ ?_;(with_reducible refine (Abw.calls _ _ l0 _ _ l1 true _ ?side1 ?side2 ?side3 ?side4 A3.out).mono ?_);(case side1=>repeat (first|exact HR0.out|(with_reducible refine Kd.C_alloc ?_ _)|(with_reducible refine Kd.C_drewN ?_ _)|(with_reducible refine Kd.C_drew ?_)));(case side2=>exact HC0.out);(case side3=>repeat (first|exact HR1.out|(with_reducible refine Kd.C_alloc ?_ _)|(with_reducible refine Kd.C_drewN ?_ _)|(with_reducible refine Kd.C_drew ?_)));(case side4=>exact HC1.out);rintro e w' ⟨rfl,⟨nd,rfl⟩⟩;refine ⟨_,rfl,?_⟩))
  go_ret
  exact ⟨by first|rfl|(simp [errW_none,errW_some] <;> rfl)|(simp [*,errW_none,errW_some] <;> rfl),bb_⟩
 ·replace c4:=Bool.eq_false_iff.mpr c4;subst c4;have H1 : ((Abg.f k l0).bind fun An=>((Abm.f k An.1 An.2.1 An.2.2.1 An.2.2.2).bind fun Ar=>((Aai.f k An.1 An.2.1 An.2.2.1 An.2.2.2).bind fun Cl=>((Aaj.f k An.1 An.2.1 An.2.2.1 An.2.2.2).bind fun Aw=>((Aam.f k An.1 An.2.1 An.2.2.1 An.2.2.2).bind fun Ch=>(if (Ar.2.2 != Cl.2.2) = true then (Aac.j0 k l1 Ar.2.2 Aw.1 true An.1 An.2.1 An.2.2.1 An.2.2.2 Ar.1 Ar.2.1) else ((Aaz.f k Ar.1 Ar.2.1 Cl.1 Cl.2.1).bind fun Cy=>(if Cy = true then (if (Aw.2 != Ch.2) = true then (Aac.j0 k l1 Ar.2.2 Aw.1 true An.1 An.2.1 An.2.2.1 An.2.2.2 Ar.1 Ar.2.1) else (if (Aw.1 != Ch.1) = true then (Aac.j0 k l1 Ar.2.2 Aw.1 true An.1 An.2.1 An.2.2.1 An.2.2.2 Ar.1 Ar.2.1) else (Aac.j0 k l1 Ar.2.2 Aw.1 (Aw.2 != Ar.2.2) An.1 An.2.1 An.2.2.1 An.2.2.2 Ar.1 Ar.2.1))) else (Aac.j0 k l1 Ar.2.2 Aw.1 true An.1 An.2.1 An.2.2.1 An.2.2.2 Ar.1 Ar.2.1))))))))) = some r:=by rw [if_neg (show ¬ (false = true) by decide)] at H;exact H
  clear H;have H:=H1;clear H1;replace H:=Option.bind_eq_some_iff.mp H;obtain ⟨⟨Ap,Am,Ao,Al⟩,A50,H⟩:=H;replace H : ((Abm.f k Ap Am Ao Al).bind fun Ar=>((Aai.f k Ap Am Ao Al).bind fun Cl=>((Aaj.f k Ap Am Ao Al).bind fun Aw=>((Aam.f k Ap Am Ao Al).bind fun Ch=>(if (Ar.2.2 != Cl.2.2) = true then (Aac.j0 k l1 Ar.2.2 Aw.1 true Ap Am Ao Al Ar.1 Ar.2.1) else ((Aaz.f k Ar.1 Ar.2.1 Cl.1 Cl.2.1).bind fun Cy=>(if Cy = true then (if (Aw.2 != Ch.2) = true then (Aac.j0 k l1 Ar.2.2 Aw.1 true Ap Am Ao Al Ar.1 Ar.2.1) else (if (Aw.1 != Ch.1) = true then (Aac.j0 k l1 Ar.2.2 Aw.1 true Ap Am Ao Al Ar.1 Ar.2.1) else (Aac.j0 k l1 Ar.2.2 Aw.1 (Aw.2 != Ar.2.2) Ap Am Ao Al Ar.1 Ar.2.1))) else (Aac.j0 k l1 Ar.2.2 Aw.1 true Ap Am Ao Al Ar.1 Ar.2.1)))))))) = some r:=H;have A5:=A_ A50;clear A50;replace H:=Option.bind_eq_some_iff.mp H;obtain ⟨⟨Ak,Ai,Bc⟩,A60,H⟩:=H;replace H : ((Aai.f k Ap Am Ao Al).bind fun Cl=>((Aaj.f k Ap Am Ao Al).bind fun Aw=>((Aam.f k Ap Am Ao Al).bind fun Ch=>(if (Bc != Cl.2.2) = true then (Aac.j0 k l1 Bc Aw.1 true Ap Am Ao Al Ak Ai) else ((Aaz.f k Ak Ai Cl.1 Cl.2.1).bind fun Cy=>(if Cy = true then (if (Aw.2 != Ch.2) = true then (Aac.j0 k l1 Bc Aw.1 true Ap Am Ao Al Ak Ai) else (if (Aw.1 != Ch.1) = true then (Aac.j0 k l1 Bc Aw.1 true Ap Am Ao Al Ak Ai) else (Aac.j0 k l1 Bc Aw.1 (Aw.2 != Bc) Ap Am Ao Al Ak Ai))) else (Aac.j0 k l1 Bc Aw.1 true Ap Am Ao Al Ak Ai))))))) = some r:=H;have A6:=A_ A60;clear A60;replace H:=Option.bind_eq_some_iff.mp H;obtain ⟨⟨B4,Az,Dl⟩,A70,H⟩:=H;replace H : ((Aaj.f k Ap Am Ao Al).bind fun Aw=>((Aam.f k Ap Am Ao Al).bind fun Ch=>(if (Bc != Dl) = true then (Aac.j0 k l1 Bc Aw.1 true Ap Am Ao Al Ak Ai) else ((Aaz.f k Ak Ai B4 Az).bind fun Cy=>(if Cy = true then (if (Aw.2 != Ch.2) = true then (Aac.j0 k l1 Bc Aw.1 true Ap Am Ao Al Ak Ai) else (if (Aw.1 != Ch.1) = true then (Aac.j0 k l1 Bc Aw.1 true Ap Am Ao Al Ak Ai) else (Aac.j0 k l1 Bc Aw.1 (Aw.2 != Bc) Ap Am Ao Al Ak Ai))) else (Aac.j0 k l1 Bc Aw.1 true Ap Am Ao Al Ak Ai)))))) = some r:=H;have A7:=A_ A70;clear A70;replace H:=Option.bind_eq_some_iff.mp H;obtain ⟨⟨Bd,Cz⟩,A80,H⟩:=H;replace H : ((Aam.f k Ap Am Ao Al).bind fun Ch=>(if (Bc != Dl) = true then (Aac.j0 k l1 Bc Bd true Ap Am Ao Al Ak Ai) else ((Aaz.f k Ak Ai B4 Az).bind fun Cy=>(if Cy = true then (if (Cz != Ch.2) = true then (Aac.j0 k l1 Bc Bd true Ap Am Ao Al Ak Ai) else (if (Bd != Ch.1) = true then (Aac.j0 k l1 Bc Bd true Ap Am Ao Al Ak Ai) else (Aac.j0 k l1 Bc Bd (Cz != Bc) Ap Am Ao Al Ak Ai))) else (Aac.j0 k l1 Bc Bd true Ap Am Ao Al Ak Ai))))) = some r:=H;have A8:=A_ A80;clear A80;replace H:=Option.bind_eq_some_iff.mp H;obtain ⟨⟨Dm,Dn⟩,A90,H⟩:=H;replace H : (if (Bc != Dl) = true then (Aac.j0 k l1 Bc Bd true Ap Am Ao Al Ak Ai) else ((Aaz.f k Ak Ai B4 Az).bind fun Cy=>(if Cy = true then (if (Cz != Dn) = true then (Aac.j0 k l1 Bc Bd true Ap Am Ao Al Ak Ai) else (if (Bd != Dm) = true then (Aac.j0 k l1 Bc Bd true Ap Am Ao Al Ak Ai) else (Aac.j0 k l1 Bc Bd (Cz != Bc) Ap Am Ao Al Ak Ai))) else (Aac.j0 k l1 Bc Bd true Ap Am Ao Al Ak Ai)))) = some r:=H;have A9:=A_ A90;clear A90;have HC10:=A_ H;clear H;go_enter Tryd.func10,Tryd.ntmps10
  go_upto_region 8 with (first|((with_reducible refine gate_callee (f:=25) rfl ?_);refine goesL_ (some 33) rfl rfl Tryd.func25 (by kernel_rfl) rfl #[.slice A0 l0.length c0,.slice A1 l1.length c1] rfl au_ ?_;(with_reducible refine (Abw.calls _ _ l0 _ _ l1 false _ ?side1 ?side2 ?side3 ?side4 A3.out).mono ?_);(case side1=>repeat (first|exact HR0.out|(with_reducible refine Kd.C_alloc ?_ _)|(with_reducible refine Kd.C_drewN ?_ _)|(with_reducible refine Kd.C_drew ?_)));(case side2=>exact HC0.out);(case side3=>repeat (first|exact HR1.out|(with_reducible refine Kd.C_alloc ?_ _)|(with_reducible refine Kd.C_drewN ?_ _)|(with_reducible refine Kd.C_drew ?_)));(case side4=>exact HC1.out);rintro e w' ⟨rfl,⟨nd,rfl⟩⟩;refine ⟨_,rfl,?_⟩)|((with_reducible refine gate_callee (f:=81) rfl ?_);refine goesL_ (some 36) rfl rfl Tryd.func81 (by kernel_rfl) rfl #[.slice A0 l0.length c0] rfl au_ ?_;(with_reducible refine (Abg.calls k _ _ l0 Ap Am Ao Al _ ?side1 ?side2 A5.out).mono ?_);(case side1=>repeat (first|exact HR0.out|(with_reducible refine Kd.C_alloc ?_ _)|(with_reducible refine Kd.C_drewN ?_ _)|(with_reducible refine Kd.C_drew ?_)));(case side2=>exact HC0.out);rintro e w11 ⟨Ri,Rj,rfl,ho0,ho1,hb⟩;refine ⟨_,rfl,?_⟩;have Be:=A_ (Kd.R_lower ho0 (below_size bb_));have Bf:=A_ (Kd.R_lower ho1 (below_size bb_));replace HB:=A_ (below_step bb_ hb);(try clear hb);(try clear hb2);(try clear hk);(try clear hi);(try clear ho0);(try clear ho1))|((with_reducible refine gate_dst (N:=5) rfl ?_);refine box_event ?hg (N:=5) ?hd (cs:=#[.int .i64 0,.slice none 0 0]) (t:=28) ?hr ?_;(case hd=>rfl);(case hg=>rfl);(case hr=>go_simp;try rfl);intro Bb hg w12 hbox hb;replace Be:=rb_ Be hb;replace Bf:=rb_ Bf hb;have Af:=A_ (hbox);have M5:=A_ (gw_ (w:=w) hg bb_);have M6:=A_ (gw_ (w:=w) hg bb_);replace HB:=A_ (below_step bb_ hb);clear hb hbox hg)|((with_reducible refine gate_dst (N:=6) rfl ?_);refine box_event ?hg (N:=6) ?hd (cs:=#[.int .i64 0,.slice none 0 0]) (t:=28) ?hr ?_;(case hd=>rfl);(case hg=>rfl);(case hr=>go_simp;try rfl);intro Ax hg w13 hbox hb;replace Be:=rb_ Be hb;replace Bf:=rb_ Bf hb;have Ae:=A_ (hbox);have M7:=A_ (gw_ (w:=w) hg bb_);have M8:=A_ (gw_ (w:=w) hg bb_);replace HB:=A_ (below_step bb_ hb);have Cj:=A_ (nl_ hg Af);have Ck:=A_ (ng_ hg Af);replace Af:=bz Af hb;clear hb hbox hg;have hnb14:=Cj.out;have hnc14:=Ck.out;have hcz15_0 : w13.cell? ⟨Bb,0,none⟩ = some (.int .i64 0):=blk_cell Af.out 0;have hcz15_1 : w13.cell? ⟨Bb,1,none⟩ = some (.slice none 0 0):=blk_cell Af.out 1;have hfz15_0:=blk_frozen Af.out 0;have hfz15_1:=blk_frozen Af.out 1;obtain ⟨Ao16,co16,eo16⟩:=Kd.R_slice Be.out;subst eo16;have hcz17_0 : w13.cell? ⟨Ax,0,none⟩ = some (.int .i64 0):=blk_cell Ae.out 0;have hcz17_1 : w13.cell? ⟨Ax,1,none⟩ = some (.slice none 0 0):=blk_cell Ae.out 1;have hfz17_0:=blk_frozen Ae.out 0;have hfz17_1:=blk_frozen Ae.out 1;obtain ⟨Ao18,co18,eo18⟩:=Kd.R_slice Bf.out;subst eo18)|((with_reducible refine gate_callee (f:=82) rfl ?_);refine goesL_ (some 42) rfl rfl Tryd.func82 (by kernel_rfl) rfl #[.agg #[.int .i64 Ap,.slice Ao16 Am.length co16],.agg #[.int .i64 Ao,.slice Ao18 Al.length co18]] rfl au_ ?_;(with_reducible refine (Abm.calls k Ap _ _ Am Ao _ _ Al Ak Ai Bc _ ?side1 ?side2 ?side3 ?side4 ?side5 A6.out).mono ?_);(case side1=>refine (Kd.R_reads' (e:=3) (base:=w.heap.size) (ok:=fun k_=>some k_ ≠ (.slice Ao18 Al.length co18 : Value).ownBlock) (n:=Am.length) (c:=co16) ?_).2.2;exact (rq_ (Kd.R_mono (Kd.R_mono (Kd.R_far (p:=⟨Ax,1,none⟩) (Kd.R_far (p:=⟨Ax,0,none⟩) (Kd.R_far (p:=⟨Bb,1,none⟩) (Kd.R_far (p:=⟨Bb,0,none⟩) (Kd.R_types (Kd.R_types Be.out Af.out (by decide)) Ae.out (by decide)) (fun _ hk=>hk.1.2) (.int .i64 Ap)) (fun _ hk=>hk.1.2) (.slice Ao16 Am.length co16)) (fun _ hk=>hk.2) (.int .i64 Ao)) (fun _ hk=>hk.2) (.slice Ao18 Al.length co18)) (fun _ h_=>h_.1)) (fun _ h_=>h_.1))));(case side2=>exact (Kd.R_reads' Be.out).2.1);(case side3=>refine (Kd.R_reads' (e:=3) (base:=w.heap.size) (ok:=fun k_=>some k_ ≠ (.slice Ao16 Am.length co16 : Value).ownBlock) (n:=Al.length) (c:=co18) ?_).2.2;exact (rq_ (Kd.R_mono (Kd.R_mono (Kd.R_far (p:=⟨Ax,1,none⟩) (Kd.R_far (p:=⟨Ax,0,none⟩) (Kd.R_far (p:=⟨Bb,1,none⟩) (Kd.R_far (p:=⟨Bb,0,none⟩) (Kd.R_types (Kd.R_types Bf.out Af.out (by decide)) Ae.out (by decide)) (fun _ hk=>hk.1.2) (.int .i64 Ap)) (fun _ hk=>hk.1.2) (.slice Ao16 Am.length co16)) (fun _ hk=>hk.2) (.int .i64 Ao)) (fun _ hk=>hk.2) (.slice Ao18 Al.length co18)) (fun _ h_=>h_.1)) (fun _ h_=>h_.1))));(case side4=>exact (Kd.R_reads' Bf.out).2.1);(case side5=>first|exact HT.out|exact HT.out.below bb_|(repeat (first|exact HT.out|apply TabOK.drewN|apply TabOK.drew|apply TabOK.alloc)));rintro e w19 ⟨Rk,rfl,ho0,hb⟩;refine ⟨_,rfl,?_⟩;have Bh:=A_ (Kd.R_lower (Kd.R_new' (Kd.R_new' ho0 (Kd.R_lt (rq_ (Kd.R_mono (Kd.R_mono (Kd.R_far (p:=⟨Ax,1,none⟩) (Kd.R_far (p:=⟨Ax,0,none⟩) (Kd.R_far (p:=⟨Bb,1,none⟩) (Kd.R_far (p:=⟨Bb,0,none⟩) (Kd.R_types (Kd.R_types Be.out Af.out (by decide)) Ae.out (by decide)) (fun _ hk=>hk.1.2) (.int .i64 Ap)) (fun _ hk=>hk.1.2) (.slice Ao16 Am.length co16)) (fun _ hk=>hk.2) (.int .i64 Ao)) (fun _ hk=>hk.2) (.slice Ao18 Al.length co18)) (fun _ h_=>h_.1)) (fun _ h_=>h_.1))))) (Kd.R_lt (rq_ (Kd.R_mono (Kd.R_mono (Kd.R_far (p:=⟨Ax,1,none⟩) (Kd.R_far (p:=⟨Ax,0,none⟩) (Kd.R_far (p:=⟨Bb,1,none⟩) (Kd.R_far (p:=⟨Bb,0,none⟩) (Kd.R_types (Kd.R_types Bf.out Af.out (by decide)) Ae.out (by decide)) (fun _ hk=>hk.1.2) (.int .i64 Ap)) (fun _ hk=>hk.1.2) (.slice Ao16 Am.length co16)) (fun _ hk=>hk.2) (.int .i64 Ao)) (fun _ hk=>hk.2) (.slice Ao18 Al.length co18)) (fun _ h_=>h_.1)) (fun _ h_=>h_.1))))) (below_size bb_));replace Be:=A_ (Kd.R_elder' (rq_ (Kd.R_mono (Kd.R_mono (Kd.R_far (p:=⟨Ax,1,none⟩) (Kd.R_far (p:=⟨Ax,0,none⟩) (Kd.R_far (p:=⟨Bb,1,none⟩) (Kd.R_far (p:=⟨Bb,0,none⟩) (Kd.R_types (Kd.R_types Be.out Af.out (by decide)) Ae.out (by decide)) (fun _ hk=>hk.1.2) (.int .i64 Ap)) (fun _ hk=>hk.1.2) (.slice Ao16 Am.length co16)) (fun _ hk=>hk.2) (.int .i64 Ao)) (fun _ hk=>hk.2) (.slice Ao18 Al.length co18)) (fun _ h_=>h_.1)) (fun _ h_=>h_.1))) (Kd.R_base ho0) hb);replace Bf:=A_ (Kd.R_elder' (rq_ (Kd.R_mono (Kd.R_mono (Kd.R_far (p:=⟨Ax,1,none⟩) (Kd.R_far (p:=⟨Ax,0,none⟩) (Kd.R_far (p:=⟨Bb,1,none⟩) (Kd.R_far (p:=⟨Bb,0,none⟩) (Kd.R_types (Kd.R_types Bf.out Af.out (by decide)) Ae.out (by decide)) (fun _ hk=>hk.1.2) (.int .i64 Ap)) (fun _ hk=>hk.1.2) (.slice Ao16 Am.length co16)) (fun _ hk=>hk.2) (.int .i64 Ao)) (fun _ hk=>hk.2) (.slice Ao18 Al.length co18)) (fun _ h_=>h_.1)) (fun _ h_=>h_.1))) (Kd.R_base ho0) hb);replace Af:=A_ (blk_below (g:=Bb) (o:=.cells #[.int .i64 Ap,.slice Ao16 Am.length co16] 28 (0,0)) (by (with_reducible repeat (first|refine blk_drewN ?_ _|refine blk_drew ?_|refine blk_alloc ?_ _));refine blk_far ?_ Cj.out _;(with_reducible repeat (first|refine blk_drewN ?_ _|refine blk_drew ?_|refine blk_alloc ?_ _));refine blk_far ?_ Cj.out _;(with_reducible repeat (first|refine blk_drewN ?_ _|refine blk_drew ?_|refine blk_alloc ?_ _));refine blk_put (cs:=#[.int .i64 Ap,.slice none 0 0]) ?_ 1 _ rfl;(with_reducible repeat (first|refine blk_drewN ?_ _|refine blk_drew ?_|refine blk_alloc ?_ _));refine blk_put (cs:=#[.int .i64 0,.slice none 0 0]) ?_ 0 _ rfl;(with_reducible repeat (first|refine blk_drewN ?_ _|refine blk_drew ?_|refine blk_alloc ?_ _));exact Af.out) hb);replace Ae:=A_ (blk_below (g:=Ax) (o:=.cells #[.int .i64 Ao,.slice Ao18 Al.length co18] 28 (0,0)) (by (with_reducible repeat (first|refine blk_drewN ?_ _|refine blk_drew ?_|refine blk_alloc ?_ _));refine blk_put (cs:=#[.int .i64 Ao,.slice none 0 0]) ?_ 1 _ rfl;(with_reducible repeat (first|refine blk_drewN ?_ _|refine blk_drew ?_|refine blk_alloc ?_ _));refine blk_put (cs:=#[.int .i64 0,.slice none 0 0]) ?_ 0 _ rfl;(with_reducible repeat (first|refine blk_drewN ?_ _|refine blk_drew ?_|refine blk_alloc ?_ _));refine blk_far ?_ Ck.out _;(with_reducible repeat (first|refine blk_drewN ?_ _|refine blk_drew ?_|refine blk_alloc ?_ _));refine blk_far ?_ Ck.out _;(with_reducible repeat (first|refine blk_drewN ?_ _|refine blk_drew ?_|refine blk_alloc ?_ _));exact Ae.out) hb);replace HB:=A_ (below_step bb_ hb);(try clear hb);(try clear hb2);(try clear hk);(try clear hi);(try clear ho0))|((with_reducible refine gate_dst (N:=7) rfl ?_);refine box_event ?hg (N:=7) ?hd (cs:=#[.int .i64 0,.slice none 0 0]) (t:=28) ?hr ?_;(case hd=>rfl);(case hg=>rfl);(case hr=>go_simp;try rfl);intro At hg w20 hbox hb;replace Be:=rb_ Be hb;replace Bf:=rb_ Bf hb;replace Bh:=rb_ Bh hb;have Ab:=A_ (hbox);have M9:=A_ (gw_ (w:=w) hg bb_);have Na:=A_ (gw_ (w:=w) hg bb_);replace HB:=A_ (below_step bb_ hb);have Bx:=A_ (nl_ hg Af);have Cb:=A_ (ng_ hg Af);replace Af:=bz Af hb;have Bz:=A_ (nl_ hg Ae);have Cc:=A_ (ng_ hg Ae);replace Ae:=bz Ae hb;clear hb hbox hg;have hnb21:=Cb.out;have hnc21:=Bx.out;have hnb22:=Cc.out;have hnc22:=Bz.out;have hcz23_0 : w20.cell? ⟨At,0,none⟩ = some (.int .i64 0):=blk_cell Ab.out 0;have hcz23_1 : w20.cell? ⟨At,1,none⟩ = some (.slice none 0 0):=blk_cell Ab.out 1;have hfz23_0:=blk_frozen Ab.out 0;have hfz23_1:=blk_frozen Ab.out 1;obtain ⟨Ao24,co24,eo24⟩:=Kd.R_slice Bh.out;subst eo24;have hcz25_0 : w20.cell? ⟨Bb,0,none⟩ = some (.int .i64 Ap):=blk_cell Af.out 0;have hcz25_1 : w20.cell? ⟨Bb,1,none⟩ = some (.slice Ao16 Am.length co16):=blk_cell Af.out 1;have hfz25_0:=blk_frozen Af.out 0;have hfz25_1:=blk_frozen Af.out 1;have hcz26_0 : w20.cell? ⟨Ax,0,none⟩ = some (.int .i64 Ao):=blk_cell Ae.out 0;have hcz26_1 : w20.cell? ⟨Ax,1,none⟩ = some (.slice Ao18 Al.length co18):=blk_cell Ae.out 1;have hfz26_0:=blk_frozen Ae.out 0;have hfz26_1:=blk_frozen Ae.out 1)|((with_reducible refine gate_callee (f:=83) rfl ?_);refine goesL_ (some 48) rfl rfl Tryd.func83 (by kernel_rfl) rfl #[.agg #[.int .i64 Ap,.slice Ao16 Am.length co16],.agg #[.int .i64 Ao,.slice Ao18 Al.length co18]] rfl au_ ?_;(with_reducible refine (Aai.calls k Ap _ _ Am Ao _ _ Al B4 Az Dl _ ?side1 ?side2 ?side3 ?side4 A7.out).mono ?_);(case side1=>refine (Kd.R_reads' (e:=3) (base:=w.heap.size) (ok:=fun k_=>(some k_ ≠ (.slice Ao18 Al.length co18 : Value).ownBlock ∧ some k_ ≠ (.slice Ao24 Ai.length co24 : Value).ownBlock)) (n:=Am.length) (c:=co16) ?_).2.2;exact (rq_ (rf_ Be Ab (.int .i64 Ak) (.slice Ao24 Ai.length co24))));(case side2=>exact (Kd.R_reads' Be.out).2.1);(case side3=>refine (Kd.R_reads' (e:=3) (base:=w.heap.size) (ok:=fun k_=>(some k_ ≠ (.slice Ao16 Am.length co16 : Value).ownBlock ∧ some k_ ≠ (.slice Ao24 Ai.length co24 : Value).ownBlock)) (n:=Al.length) (c:=co18) ?_).2.2;exact (rq_ (rf_ Bf Ab (.int .i64 Ak) (.slice Ao24 Ai.length co24))));(case side4=>exact (Kd.R_reads' Bf.out).2.1);rintro e w27 ⟨Rl,rfl,ho0,hb⟩;refine ⟨_,rfl,?_⟩;have Bt:=A_ (Kd.R_lower (Kd.R_new' (Kd.R_new' (Kd.R_new' ho0 (Kd.R_lt (rq_ (rf_ Be Ab (.int .i64 Ak) (.slice Ao24 Ai.length co24))))) (Kd.R_lt (rq_ (rf_ Bf Ab (.int .i64 Ak) (.slice Ao24 Ai.length co24))))) (Kd.R_lt (rq_ (rf_ Bh Ab (.int .i64 Ak) (.slice Ao24 Ai.length co24))))) (below_size bb_));replace Be:=A_ (Kd.R_elder' (rq_ (rf_ Be Ab (.int .i64 Ak) (.slice Ao24 Ai.length co24))) (Kd.R_base ho0) hb);replace Bf:=A_ (Kd.R_elder' (rq_ (rf_ Bf Ab (.int .i64 Ak) (.slice Ao24 Ai.length co24))) (Kd.R_base ho0) hb);replace Bh:=A_ (Kd.R_elder' (rq_ (rf_ Bh Ab (.int .i64 Ak) (.slice Ao24 Ai.length co24))) (Kd.R_base ho0) hb);replace Af:=A_ (blk_below (g:=Bb) (o:=.cells #[.int .i64 Ap,.slice Ao16 Am.length co16] 28 (0,0)) (by (with_reducible repeat (first|refine blk_drewN ?_ _|refine blk_drew ?_|refine blk_alloc ?_ _));refine blk_far ?_ Bx.out _;(with_reducible repeat (first|refine blk_drewN ?_ _|refine blk_drew ?_|refine blk_alloc ?_ _));refine blk_far ?_ Bx.out _;(with_reducible repeat (first|refine blk_drewN ?_ _|refine blk_drew ?_|refine blk_alloc ?_ _));exact Af.out) hb);replace Ae:=A_ (blk_below (g:=Ax) (o:=.cells #[.int .i64 Ao,.slice Ao18 Al.length co18] 28 (0,0)) (by (with_reducible repeat (first|refine blk_drewN ?_ _|refine blk_drew ?_|refine blk_alloc ?_ _));refine blk_far ?_ Bz.out _;(with_reducible repeat (first|refine blk_drewN ?_ _|refine blk_drew ?_|refine blk_alloc ?_ _));refine blk_far ?_ Bz.out _;(with_reducible repeat (first|refine blk_drewN ?_ _|refine blk_drew ?_|refine blk_alloc ?_ _));exact Ae.out) hb);replace Ab:=A_ (blk_below (g:=At) (o:=.cells #[.int .i64 Ak,.slice Ao24 Ai.length co24] 28 (0,0)) (by (with_reducible repeat (first|refine blk_drewN ?_ _|refine blk_drew ?_|refine blk_alloc ?_ _));refine blk_put (cs:=#[.int .i64 Ak,.slice none 0 0]) ?_ 1 _ rfl;(with_reducible repeat (first|refine blk_drewN ?_ _|refine blk_drew ?_|refine blk_alloc ?_ _));refine blk_put (cs:=#[.int .i64 0,.slice none 0 0]) ?_ 0 _ rfl;(with_reducible repeat (first|refine blk_drewN ?_ _|refine blk_drew ?_|refine blk_alloc ?_ _));exact Ab.out) hb);replace HB:=A_ (below_step bb_ hb);(try clear hb);(try clear hb2);(try clear hk);(try clear hi);(try clear ho0))|((with_reducible refine gate_dst (N:=9) rfl ?_);refine box_event ?hg (N:=9) ?hd (cs:=#[.int .i64 0,.slice none 0 0]) (t:=28) ?hr ?_;(case hd=>rfl);(case hg=>rfl);(case hr=>go_simp;try rfl);intro Cg hg w28 hbox hb;replace Be:=rb_ Be hb;replace Bf:=rb_ Bf hb;replace Bh:=rb_ Bh hb;replace Bt:=rb_ Bt hb;have Ah:=A_ (hbox);have Nb:=A_ (gw_ (w:=w) hg bb_);have Nc:=A_ (gw_ (w:=w) hg bb_);replace HB:=A_ (below_step bb_ hb);have B0:=A_ (nl_ hg Af);have Cd:=A_ (ng_ hg Af);replace Af:=bz Af hb;have B1:=A_ (nl_ hg Ae);have Ce:=A_ (ng_ hg Ae);replace Ae:=bz Ae hb;have B2:=A_ (nl_ hg Ab);have Cf:=A_ (ng_ hg Ab);replace Ab:=bz Ab hb;clear hb hbox hg;have hnb29:=Cd.out;have hnc29:=B0.out;have hnb30:=Ce.out;have hnc30:=B1.out;have hnb31:=Cf.out;have hnc31:=B2.out;have hcz32_0 : w28.cell? ⟨Cg,0,none⟩ = some (.int .i64 0):=blk_cell Ah.out 0;have hcz32_1 : w28.cell? ⟨Cg,1,none⟩ = some (.slice none 0 0):=blk_cell Ah.out 1;have hfz32_0:=blk_frozen Ah.out 0;have hfz32_1:=blk_frozen Ah.out 1;obtain ⟨Ao33,co33,eo33⟩:=Kd.R_slice Bt.out;subst eo33;have hcz34_0 : w28.cell? ⟨Bb,0,none⟩ = some (.int .i64 Ap):=blk_cell Af.out 0;have hcz34_1 : w28.cell? ⟨Bb,1,none⟩ = some (.slice Ao16 Am.length co16):=blk_cell Af.out 1;have hfz34_0:=blk_frozen Af.out 0;have hfz34_1:=blk_frozen Af.out 1;have hcz35_0 : w28.cell? ⟨Ax,0,none⟩ = some (.int .i64 Ao):=blk_cell Ae.out 0;have hcz35_1 : w28.cell? ⟨Ax,1,none⟩ = some (.slice Ao18 Al.length co18):=blk_cell Ae.out 1;have hfz35_0:=blk_frozen Ae.out 0;have hfz35_1:=blk_frozen Ae.out 1)|((with_reducible refine gate_callee (f:=84) rfl ?_);refine goesL_ (some 54) rfl rfl Tryd.func84 (by kernel_rfl) rfl #[.agg #[.int .i64 Ap,.slice Ao16 Am.length co16],.agg #[.int .i64 Ao,.slice Ao18 Al.length co18]] rfl au_ ?_;(with_reducible refine (Aaj.calls k Ap _ _ Am Ao _ _ Al Bd Cz _ ?side1 ?side2 ?side3 ?side4 ?side5 A8.out).mono ?_);(case side1=>refine (Kd.R_reads' (e:=3) (base:=w.heap.size) (ok:=fun k_=>((some k_ ≠ (.slice Ao18 Al.length co18 : Value).ownBlock ∧ some k_ ≠ (.slice Ao24 Ai.length co24 : Value).ownBlock) ∧ some k_ ≠ (.slice Ao33 Az.length co33 : Value).ownBlock)) (n:=Am.length) (c:=co16) ?_).2.2;exact (rq_ (rf_ Be Ah (.int .i64 B4) (.slice Ao33 Az.length co33))));(case side2=>exact (Kd.R_reads' Be.out).2.1);(case side3=>refine (Kd.R_reads' (e:=3) (base:=w.heap.size) (ok:=fun k_=>((some k_ ≠ (.slice Ao16 Am.length co16 : Value).ownBlock ∧ some k_ ≠ (.slice Ao24 Ai.length co24 : Value).ownBlock) ∧ some k_ ≠ (.slice Ao33 Az.length co33 : Value).ownBlock)) (n:=Al.length) (c:=co18) ?_).2.2;exact (rq_ (rf_ Bf Ah (.int .i64 B4) (.slice Ao33 Az.length co33))));(case side4=>exact (Kd.R_reads' Bf.out).2.1);(case side5=>first|exact HT.out|exact HT.out.below bb_|(repeat (first|exact HT.out|apply TabOK.drewN|apply TabOK.drew|apply TabOK.alloc)));rintro e w36 ⟨rfl,hb⟩;refine ⟨_,rfl,?_⟩;replace Be:=A_ (Kd.R_below (rq_ (rf_ Be Ah (.int .i64 B4) (.slice Ao33 Az.length co33))) hb);replace Bf:=A_ (Kd.R_below (rq_ (rf_ Bf Ah (.int .i64 B4) (.slice Ao33 Az.length co33))) hb);replace Bh:=A_ (Kd.R_below (rq_ (rf_ Bh Ah (.int .i64 B4) (.slice Ao33 Az.length co33))) hb);replace Bt:=A_ (Kd.R_below (rq_ (rf_ Bt Ah (.int .i64 B4) (.slice Ao33 Az.length co33))) hb);replace Af:=A_ (blk_below (g:=Bb) (o:=.cells #[.int .i64 Ap,.slice Ao16 Am.length co16] 28 (0,0)) (by (with_reducible repeat (first|refine blk_drewN ?_ _|refine blk_drew ?_|refine blk_alloc ?_ _));refine blk_far ?_ B0.out _;(with_reducible repeat (first|refine blk_drewN ?_ _|refine blk_drew ?_|refine blk_alloc ?_ _));refine blk_far ?_ B0.out _;(with_reducible repeat (first|refine blk_drewN ?_ _|refine blk_drew ?_|refine blk_alloc ?_ _));exact Af.out) hb);replace Ae:=A_ (blk_below (g:=Ax) (o:=.cells #[.int .i64 Ao,.slice Ao18 Al.length co18] 28 (0,0)) (by (with_reducible repeat (first|refine blk_drewN ?_ _|refine blk_drew ?_|refine blk_alloc ?_ _));refine blk_far ?_ B1.out _;(with_reducible repeat (first|refine blk_drewN ?_ _|refine blk_drew ?_|refine blk_alloc ?_ _));refine blk_far ?_ B1.out _;(with_reducible repeat (first|refine blk_drewN ?_ _|refine blk_drew ?_|refine blk_alloc ?_ _));exact Ae.out) hb);replace Ab:=A_ (blk_below (g:=At) (o:=.cells #[.int .i64 Ak,.slice Ao24 Ai.length co24] 28 (0,0)) (by (with_reducible repeat (first|refine blk_drewN ?_ _|refine blk_drew ?_|refine blk_alloc ?_ _));refine blk_far ?_ B2.out _;(with_reducible repeat (first|refine blk_drewN ?_ _|refine blk_drew ?_|refine blk_alloc ?_ _));refine blk_far ?_ B2.out _;(with_reducible repeat (first|refine blk_drewN ?_ _|refine blk_drew ?_|refine blk_alloc ?_ _));exact Ab.out) hb);replace Ah:=A_ (blk_below (g:=Cg) (o:=.cells #[.int .i64 B4,.slice Ao33 Az.length co33] 28 (0,0)) (by (with_reducible repeat (first|refine blk_drewN ?_ _|refine blk_drew ?_|refine blk_alloc ?_ _));refine blk_put (cs:=#[.int .i64 B4,.slice none 0 0]) ?_ 1 _ rfl;(with_reducible repeat (first|refine blk_drewN ?_ _|refine blk_drew ?_|refine blk_alloc ?_ _));refine blk_put (cs:=#[.int .i64 0,.slice none 0 0]) ?_ 0 _ rfl;(with_reducible repeat (first|refine blk_drewN ?_ _|refine blk_drew ?_|refine blk_alloc ?_ _));exact Ah.out) hb);replace HB:=A_ (below_step bb_ hb);(try clear hb);(try clear hb2);(try clear hk);(try clear hi);have hcz37_0 : w36.cell? ⟨Bb,0,none⟩ = some (.int .i64 Ap):=blk_cell Af.out 0;have hcz37_1 : w36.cell? ⟨Bb,1,none⟩ = some (.slice Ao16 Am.length co16):=blk_cell Af.out 1;have hfz37_0:=blk_frozen Af.out 0;have hfz37_1:=blk_frozen Af.out 1;have hcz38_0 : w36.cell? ⟨Ax,0,none⟩ = some (.int .i64 Ao):=blk_cell Ae.out 0;have hcz38_1 : w36.cell? ⟨Ax,1,none⟩ = some (.slice Ao18 Al.length co18):=blk_cell Ae.out 1;have hfz38_0:=blk_frozen Ae.out 0;have hfz38_1:=blk_frozen Ae.out 1)|((with_reducible refine gate_callee (f:=85) rfl ?_);refine goesL_ (some 60) rfl rfl Tryd.func85 (by kernel_rfl) rfl #[.agg #[.int .i64 Ap,.slice Ao16 Am.length co16],.agg #[.int .i64 Ao,.slice Ao18 Al.length co18]] rfl au_ ?_;(with_reducible refine (Aam.calls k Ap _ _ Am Ao _ _ Al Dm Dn _ ?side1 ?side2 ?side3 ?side4 A9.out).mono ?_);(case side1=>exact cl_ (Kd.R_reads' Be.out).2.2);(case side2=>exact (Kd.R_reads' Be.out).2.1);(case side3=>exact cl_ (Kd.R_reads' Bf.out).2.2);(case side4=>exact (Kd.R_reads' Bf.out).2.1);rintro e w39 ⟨rfl,hb⟩;refine ⟨_,rfl,?_⟩;replace Be:=rb_ Be hb;replace Bf:=rb_ Bf hb;replace Bh:=rb_ Bh hb;replace Bt:=rb_ Bt hb;replace Af:=bz Af hb;replace Ae:=bz Ae hb;replace Ab:=bz Ab hb;replace Ah:=bz Ah hb;replace HB:=A_ (below_step bb_ hb);(try clear hb);(try clear hb2);(try clear hk);(try clear hi)))
  (try simp only [Act.put,L_,M_,N_]);go_cut [86] (fun v86 wc=>∃ (kq : Nat) (x86_9 : Bool),v86 = .bool x86_9 ∧ Aside0 (Aac.j0 kq l1 Bc Bd x86_9 Ap Am Ao Al Ak Ai = some r) ∧ Aside0 (kq ≤ k) ∧ Aside0 (Kd.R (Kd.int .i64) 3 wc w.heap.size (fun k_=>some k_ ≠ ((.slice Ao18 Al.length co18) : Value).ownBlock ∧ some k_ ≠ ((.slice Ao24 Ai.length co24) : Value).ownBlock ∧ some k_ ≠ ((.slice Ao33 Az.length co33) : Value).ownBlock) (.slice Ao16 Am.length co16) Am) ∧ Aside0 (Kd.R (Kd.int .i64) 3 wc w.heap.size (fun k_=>some k_ ≠ ((.slice Ao16 Am.length co16) : Value).ownBlock ∧ some k_ ≠ ((.slice Ao24 Ai.length co24) : Value).ownBlock ∧ some k_ ≠ ((.slice Ao33 Az.length co33) : Value).ownBlock) (.slice Ao18 Al.length co18) Al) ∧ Aside0 (Kd.R (Kd.int .i64) 3 wc w.heap.size (fun k_=>some k_ ≠ ((.slice Ao16 Am.length co16) : Value).ownBlock ∧ some k_ ≠ ((.slice Ao18 Al.length co18) : Value).ownBlock ∧ some k_ ≠ ((.slice Ao33 Az.length co33) : Value).ownBlock) (.slice Ao24 Ai.length co24) Ai) ∧ Aside0 (Kd.R (Kd.int .i64) 3 wc w.heap.size (fun k_=>some k_ ≠ ((.slice Ao16 Am.length co16) : Value).ownBlock ∧ some k_ ≠ ((.slice Ao18 Al.length co18) : Value).ownBlock ∧ some k_ ≠ ((.slice Ao24 Ai.length co24) : Value).ownBlock) (.slice Ao33 Az.length co33) Az) ∧ Aside0 (wc.heap[Bb]? = some (.cells #[.int .i64 Ap,(.slice Ao16 Am.length co16)] 28 (0,0))) ∧ Aside0 (wc.heap[Ax]? = some (.cells #[.int .i64 Ao,(.slice Ao18 Al.length co18)] 28 (0,0))) ∧ Aside0 (wc.heap[At]? = some (.cells #[.int .i64 Ak,(.slice Ao24 Ai.length co24)] 28 (0,0))) ∧ Aside0 (wc.heap[Cg]? = some (.cells #[.int .i64 B4,(.slice Ao33 Az.length co33)] 28 (0,0))) ∧ Aside0 (Below w.heap.size w wc))
  case first =>
   have H:=HC10.out;clear HC10;by_cases c40 : (Bc != Dl) = true
   ·rw [if_pos c40] at H;have c40b0 : (Bc != Dl) = true:=c40;(try (have c40b1 : decide (Bc = Dl) = false:=by simpa using c40));(try (have c40b2 : (Bc == Dl) = false:=by simpa using c40));(try (have c40b3 : ¬ (Bc = Dl):=by simpa using c40));clear c40;(first|rw [c40b0]|(simp only [i64_w,i32_w];rw [c40b0])|skip)
    have H':=A_ H;clear H;go_wp2
    go_meet
    case rel=>exact ⟨_,(true),(by first|rfl|(simp;done)|(simp [*];done)),H',⟨by first|omega|exact Nat.le_refl _⟩,⟨rq_ (Kd.R_mono Be.out (fun _ hk=>⟨hk.1.1,⟨hk.1.2,hk.2⟩⟩))⟩,⟨rq_ (Kd.R_mono Bf.out (fun _ hk=>⟨hk.1.1,⟨hk.1.2,hk.2⟩⟩))⟩,⟨rq_ (Kd.R_mono Bh.out (fun _ hk=>⟨hk.1.1.2,⟨hk.1.2,hk.2⟩⟩))⟩,⟨rq_ (Kd.R_mono Bt.out (fun _ hk=>⟨hk.1.1.2,⟨hk.1.2,hk.2⟩⟩))⟩,⟨bl_ Af⟩,⟨bl_ Ae⟩,⟨bl_ Ab⟩,⟨bl_ Ah⟩,⟨bb_⟩⟩
   ·rw [if_neg c40] at H;have c40b0 : (Bc != Dl) = false:=by simpa using c40
    (try (have c40b1 : decide (Bc = Dl) = true:=by simpa using c40));(try (have c40b2 : (Bc == Dl) = true:=by simpa using c40));clear c40;(first|rw [c40b0]|(simp only [i64_w,i32_w];rw [c40b0])|skip)
    replace H:=Option.bind_eq_some_iff.mp H;obtain ⟨Cy,Jo,H⟩:=H;replace H : (if Cy = true then (if (Cz != Dn) = true then (Aac.j0 k l1 Bc Bd true Ap Am Ao Al Ak Ai) else (if (Bd != Dm) = true then (Aac.j0 k l1 Bc Bd true Ap Am Ao Al Ak Ai) else (Aac.j0 k l1 Bc Bd (Cz != Bc) Ap Am Ao Al Ak Ai))) else (Aac.j0 k l1 Bc Bd true Ap Am Ao Al Ak Ai)) = some r:=H;have A41:=A_ Jo;clear Jo;by_cases c42 : Cy = true
    ·subst c42;have H1 : (if (Cz != Dn) = true then (Aac.j0 k l1 Bc Bd true Ap Am Ao Al Ak Ai) else (if (Bd != Dm) = true then (Aac.j0 k l1 Bc Bd true Ap Am Ao Al Ak Ai) else (Aac.j0 k l1 Bc Bd (Cz != Bc) Ap Am Ao Al Ak Ai))) = some r:=by rw [if_pos rfl] at H;exact H
     clear H;have H:=H1;clear H1;by_cases c43 : (Cz != Dn) = true
     ·rw [if_pos c43] at H;have c43b0 : (Cz != Dn) = true:=c43;(try (have c43b1 : decide (Cz = Dn) = false:=by simpa using c43));(try (have c43b2 : (Cz == Dn) = false:=by simpa using c43));(try (have c43b3 : ¬ (Cz = Dn):=by simpa using c43));clear c43;have H':=A_ H;clear H;have hnb44:=Cb.out;have hnc44:=Bx.out;have hnb45:=Cc.out;have hnc45:=Bz.out;have hnb46:=B2.out;have hnc46:=Cf.out;have hcz47_0 : w39.cell? ⟨At,0,none⟩ = some (.int .i64 Ak):=blk_cell Ab.out 0;have hcz47_1 : w39.cell? ⟨At,1,none⟩ = some (.slice Ao24 Ai.length co24):=blk_cell Ab.out 1;have hfz47_0:=blk_frozen Ab.out 0;have hfz47_1:=blk_frozen Ab.out 1;have hnb48:=Cd.out;have hnc48:=B0.out;have hnb49:=Ce.out;have hnc49:=B1.out;have hcz50_0 : w39.cell? ⟨Cg,0,none⟩ = some (.int .i64 B4):=blk_cell Ah.out 0;have hcz50_1 : w39.cell? ⟨Cg,1,none⟩ = some (.slice Ao33 Az.length co33):=blk_cell Ah.out 1;have hfz50_0:=blk_frozen Ah.out 0;have hfz50_1:=blk_frozen Ah.out 1;go_wp2_with (first|(go_at_call 29;(with_reducible refine (Aaz.calls k Ak _ _ Ai B4 _ _ Az true _ ?side1 ?side2 ?side3 ?side4 A41.out).mono ?_);(case side1=>exact cl_ (Kd.R_reads' Bh.out).2.2);(case side2=>exact (Kd.R_reads' Bh.out).2.1);(case side3=>exact cl_ (Kd.R_reads' Bt.out).2.2);(case side4=>exact (Kd.R_reads' Bt.out).2.1);rintro e w51 ⟨rfl,hb⟩;replace Be:=rb_ Be hb;replace Bf:=rb_ Bf hb;replace Bh:=rb_ Bh hb;replace Bt:=rb_ Bt hb;replace Af:=bz Af hb;replace Ae:=bz Ae hb;replace Ab:=bz Ab hb;replace Ah:=bz Ah hb;replace HB:=A_ (below_step bb_ hb);(try clear hb);(try clear hb2);(try clear hk);(try clear hi)))
      go_meet
      case rel=>exact ⟨_,(true),(by first|rfl|(simp;done)|(simp [*];done)),H',⟨by first|omega|exact Nat.le_refl _⟩,⟨rq_ (Kd.R_mono Be.out (fun _ hk=>⟨hk.1.1,⟨hk.1.2,hk.2⟩⟩))⟩,⟨rq_ (Kd.R_mono Bf.out (fun _ hk=>⟨hk.1.1,⟨hk.1.2,hk.2⟩⟩))⟩,⟨rq_ (Kd.R_mono Bh.out (fun _ hk=>⟨hk.1.1.2,⟨hk.1.2,hk.2⟩⟩))⟩,⟨rq_ (Kd.R_mono Bt.out (fun _ hk=>⟨hk.1.1.2,⟨hk.1.2,hk.2⟩⟩))⟩,⟨bl_ Af⟩,⟨bl_ Ae⟩,⟨bl_ Ab⟩,⟨bl_ Ah⟩,⟨bb_⟩⟩
     ·rw [if_neg c43] at H;have c43b0 : (Cz != Dn) = false:=by simpa using c43
      (try (have c43b1 : decide (Cz = Dn) = true:=by simpa using c43));(try (have c43b2 : (Cz == Dn) = true:=by simpa using c43));clear c43;by_cases c52 : (Bd != Dm) = true
      ·rw [if_pos c52] at H;have c52b0 : (Bd != Dm) = true:=c52;(try (have c52b1 : decide (Bd = Dm) = false:=by simpa using c52));(try (have c52b2 : (Bd == Dm) = false:=by simpa using c52));(try (have c52b3 : ¬ (Bd = Dm):=by simpa using c52));clear c52;have H':=A_ H;clear H;have hnb53:=Cb.out;have hnc53:=Bx.out;have hnb54:=Cc.out;have hnc54:=Bz.out;have hnb55:=B2.out;have hnc55:=Cf.out;have hcz56_0 : w39.cell? ⟨At,0,none⟩ = some (.int .i64 Ak):=blk_cell Ab.out 0;have hcz56_1 : w39.cell? ⟨At,1,none⟩ = some (.slice Ao24 Ai.length co24):=blk_cell Ab.out 1;have hfz56_0:=blk_frozen Ab.out 0;have hfz56_1:=blk_frozen Ab.out 1;have hnb57:=Cd.out;have hnc57:=B0.out;have hnb58:=Ce.out;have hnc58:=B1.out;have hcz59_0 : w39.cell? ⟨Cg,0,none⟩ = some (.int .i64 B4):=blk_cell Ah.out 0;have hcz59_1 : w39.cell? ⟨Cg,1,none⟩ = some (.slice Ao33 Az.length co33):=blk_cell Ah.out 1;have hfz59_0:=blk_frozen Ah.out 0;have hfz59_1:=blk_frozen Ah.out 1;go_wp2_with (first|(go_at_call 29;(with_reducible refine (Aaz.calls k Ak _ _ Ai B4 _ _ Az true _ ?side1 ?side2 ?side3 ?side4 A41.out).mono ?_);(case side1=>exact cl_ (Kd.R_reads' Bh.out).2.2);(case side2=>exact (Kd.R_reads' Bh.out).2.1);(case side3=>exact cl_ (Kd.R_reads' Bt.out).2.2);(case side4=>exact (Kd.R_reads' Bt.out).2.1);rintro e w60 ⟨rfl,hb⟩;replace Be:=rb_ Be hb;replace Bf:=rb_ Bf hb;replace Bh:=rb_ Bh hb;replace Bt:=rb_ Bt hb;replace Af:=bz Af hb;replace Ae:=bz Ae hb;replace Ab:=bz Ab hb;replace Ah:=bz Ah hb;replace HB:=A_ (below_step bb_ hb);(try clear hb);(try clear hb2);(try clear hk);(try clear hi)))
       go_meet
       case rel=>exact ⟨_,(true),(by first|rfl|(simp;done)|(simp [*];done)),H',⟨by first|omega|exact Nat.le_refl _⟩,⟨rq_ (Kd.R_mono Be.out (fun _ hk=>⟨hk.1.1,⟨hk.1.2,hk.2⟩⟩))⟩,⟨rq_ (Kd.R_mono Bf.out (fun _ hk=>⟨hk.1.1,⟨hk.1.2,hk.2⟩⟩))⟩,⟨rq_ (Kd.R_mono Bh.out (fun _ hk=>⟨hk.1.1.2,⟨hk.1.2,hk.2⟩⟩))⟩,⟨rq_ (Kd.R_mono Bt.out (fun _ hk=>⟨hk.1.1.2,⟨hk.1.2,hk.2⟩⟩))⟩,⟨bl_ Af⟩,⟨bl_ Ae⟩,⟨bl_ Ab⟩,⟨bl_ Ah⟩,⟨bb_⟩⟩
      ·rw [if_neg c52] at H;have c52b0 : (Bd != Dm) = false:=by simpa using c52
       (try (have c52b1 : decide (Bd = Dm) = true:=by simpa using c52));(try (have c52b2 : (Bd == Dm) = true:=by simpa using c52));clear c52;have H':=A_ H;clear H;have hnb61:=Cb.out;have hnc61:=Bx.out;have hnb62:=Cc.out;have hnc62:=Bz.out;have hnb63:=B2.out;have hnc63:=Cf.out;have hcz64_0 : w39.cell? ⟨At,0,none⟩ = some (.int .i64 Ak):=blk_cell Ab.out 0;have hcz64_1 : w39.cell? ⟨At,1,none⟩ = some (.slice Ao24 Ai.length co24):=blk_cell Ab.out 1;have hfz64_0:=blk_frozen Ab.out 0;have hfz64_1:=blk_frozen Ab.out 1;have hnb65:=Cd.out;have hnc65:=B0.out;have hnb66:=Ce.out;have hnc66:=B1.out;have hcz67_0 : w39.cell? ⟨Cg,0,none⟩ = some (.int .i64 B4):=blk_cell Ah.out 0;have hcz67_1 : w39.cell? ⟨Cg,1,none⟩ = some (.slice Ao33 Az.length co33):=blk_cell Ah.out 1;have hfz67_0:=blk_frozen Ah.out 0;have hfz67_1:=blk_frozen Ah.out 1;go_wp2_with (first|(go_at_call 29;(with_reducible refine (Aaz.calls k Ak _ _ Ai B4 _ _ Az true _ ?side1 ?side2 ?side3 ?side4 A41.out).mono ?_);(case side1=>exact cl_ (Kd.R_reads' Bh.out).2.2);(case side2=>exact (Kd.R_reads' Bh.out).2.1);(case side3=>exact cl_ (Kd.R_reads' Bt.out).2.2);(case side4=>exact (Kd.R_reads' Bt.out).2.1);rintro e w68 ⟨rfl,hb⟩;replace Be:=rb_ Be hb;replace Bf:=rb_ Bf hb;replace Bh:=rb_ Bh hb;replace Bt:=rb_ Bt hb;replace Af:=bz Af hb;replace Ae:=bz Ae hb;replace Ab:=bz Ab hb;replace Ah:=bz Ah hb;replace HB:=A_ (below_step bb_ hb);(try clear hb);(try clear hb2);(try clear hk);(try clear hi)))
       go_meet
       case rel=>exact ⟨_,((Cz != Bc)),(by first|rfl|(simp;done)|(simp [*];done)),H',⟨by first|omega|exact Nat.le_refl _⟩,⟨rq_ (Kd.R_mono Be.out (fun _ hk=>⟨hk.1.1,⟨hk.1.2,hk.2⟩⟩))⟩,⟨rq_ (Kd.R_mono Bf.out (fun _ hk=>⟨hk.1.1,⟨hk.1.2,hk.2⟩⟩))⟩,⟨rq_ (Kd.R_mono Bh.out (fun _ hk=>⟨hk.1.1.2,⟨hk.1.2,hk.2⟩⟩))⟩,⟨rq_ (Kd.R_mono Bt.out (fun _ hk=>⟨hk.1.1.2,⟨hk.1.2,hk.2⟩⟩))⟩,⟨bl_ Af⟩,⟨bl_ Ae⟩,⟨bl_ Ab⟩,⟨bl_ Ah⟩,⟨bb_⟩⟩
    ·replace c42:=Bool.eq_false_iff.mpr c42;subst c42;have H1 : (Aac.j0 k l1 Bc Bd true Ap Am Ao Al Ak Ai) = some r:=by rw [if_neg (show ¬ (false = true) by decide)] at H;exact H
     clear H;have H:=H1;clear H1;have H':=A_ H;clear H;have hnb69:=Cb.out;have hnc69:=Bx.out;have hnb70:=Cc.out;have hnc70:=Bz.out;have hnb71:=B2.out;have hnc71:=Cf.out;have hcz72_0 : w39.cell? ⟨At,0,none⟩ = some (.int .i64 Ak):=blk_cell Ab.out 0;have hcz72_1 : w39.cell? ⟨At,1,none⟩ = some (.slice Ao24 Ai.length co24):=blk_cell Ab.out 1;have hfz72_0:=blk_frozen Ab.out 0;have hfz72_1:=blk_frozen Ab.out 1;have hnb73:=Cd.out;have hnc73:=B0.out;have hnb74:=Ce.out;have hnc74:=B1.out;have hcz75_0 : w39.cell? ⟨Cg,0,none⟩ = some (.int .i64 B4):=blk_cell Ah.out 0;have hcz75_1 : w39.cell? ⟨Cg,1,none⟩ = some (.slice Ao33 Az.length co33):=blk_cell Ah.out 1;have hfz75_0:=blk_frozen Ah.out 0;have hfz75_1:=blk_frozen Ah.out 1;go_wp2_with (first|(go_at_call 29;(with_reducible refine (Aaz.calls k Ak _ _ Ai B4 _ _ Az false _ ?side1 ?side2 ?side3 ?side4 A41.out).mono ?_);(case side1=>exact cl_ (Kd.R_reads' Bh.out).2.2);(case side2=>exact (Kd.R_reads' Bh.out).2.1);(case side3=>exact cl_ (Kd.R_reads' Bt.out).2.2);(case side4=>exact (Kd.R_reads' Bt.out).2.1);rintro e w76 ⟨rfl,hb⟩;replace Be:=rb_ Be hb;replace Bf:=rb_ Bf hb;replace Bh:=rb_ Bh hb;replace Bt:=rb_ Bt hb;replace Af:=bz Af hb;replace Ae:=bz Ae hb;replace Ab:=bz Ab hb;replace Ah:=bz Ah hb;replace HB:=A_ (below_step bb_ hb);(try clear hb);(try clear hb2);(try clear hk);(try clear hi)))
     go_meet
     case rel=>exact ⟨_,(true),(by first|rfl|(simp;done)|(simp [*];done)),H',⟨by first|omega|exact Nat.le_refl _⟩,⟨rq_ (Kd.R_mono Be.out (fun _ hk=>⟨hk.1.1,⟨hk.1.2,hk.2⟩⟩))⟩,⟨rq_ (Kd.R_mono Bf.out (fun _ hk=>⟨hk.1.1,⟨hk.1.2,hk.2⟩⟩))⟩,⟨rq_ (Kd.R_mono Bh.out (fun _ hk=>⟨hk.1.1.2,⟨hk.1.2,hk.2⟩⟩))⟩,⟨rq_ (Kd.R_mono Bt.out (fun _ hk=>⟨hk.1.1.2,⟨hk.1.2,hk.2⟩⟩))⟩,⟨bl_ Af⟩,⟨bl_ Ae⟩,⟨bl_ Ab⟩,⟨bl_ Ah⟩,⟨bb_⟩⟩
  case rest =>
   clear HC10;try clear c1
   try clear c2
   try clear p2
   try clear c3
   try clear c4
   try clear c5
   try clear c6
   try clear c7
   try clear c8
   try clear c10
   try clear c14
   try clear c21
   try clear c22
   try clear c25
   try clear c29
   try clear c30
   try clear c31
   try clear c40
   try clear c40b0
   try clear c40b1
   try clear c40b2
   try clear c42
   try clear c43
   try clear c43b0
   try clear c43b1
   try clear c43b2
   try clear c44
   try clear c45
   try clear c46
   try clear c48
   try clear c49
   try clear c52
   try clear c52b0
   try clear c52b1
   try clear c52b2
   try clear c53
   try clear c54
   try clear c55
   try clear c57
   try clear c58
   try clear c61
   try clear c62
   try clear c63
   try clear c65
   try clear c66
   try clear c69
   try clear c70
   try clear c71
   try clear c73
   try clear c74
   try clear hcz15_0
   try clear hcz15_1
   try clear hcz17_0
   try clear hcz17_1
   try clear hcz23_0
   try clear hcz23_1
   try clear hcz25_0
   try clear hcz25_1
   try clear hcz26_0
   try clear hcz26_1
   try clear hcz32_0
   try clear hcz32_1
   try clear hcz34_0
   try clear hcz34_1
   try clear hcz35_0
   try clear hcz35_1
   try clear hcz37_0
   try clear hcz37_1
   try clear hcz38_0
   try clear hcz38_1
   try clear hcz47_0
   try clear hcz47_1
   try clear hcz50_0
   try clear hcz50_1
   try clear hcz56_0
   try clear hcz56_1
   try clear hcz59_0
   try clear hcz59_1
   try clear hcz64_0
   try clear hcz64_1
   try clear hcz67_0
   try clear hcz67_1
   try clear hcz72_0
   try clear hcz72_1
   try clear hcz75_0
   try clear hcz75_1
   try clear hfz15_0
   try clear hfz15_1
   try clear hfz17_0
   try clear hfz17_1
   try clear hfz23_0
   try clear hfz23_1
   try clear hfz25_0
   try clear hfz25_1
   try clear hfz26_0
   try clear hfz26_1
   try clear hfz32_0
   try clear hfz32_1
   try clear hfz34_0
   try clear hfz34_1
   try clear hfz35_0
   try clear hfz35_1
   try clear hfz37_0
   try clear hfz37_1
   try clear hfz38_0
   try clear hfz38_1
   try clear hfz47_0
   try clear hfz47_1
   try clear hfz50_0
   try clear hfz50_1
   try clear hfz56_0
   try clear hfz56_1
   try clear hfz59_0
   try clear hfz59_1
   try clear hfz64_0
   try clear hfz64_1
   try clear hfz67_0
   try clear hfz67_1
   try clear hfz72_0
   try clear hfz72_1
   try clear hfz75_0
   try clear hfz75_1
   obtain ⟨kq,x86_9,rfl,HA,HJ9,Ad,Ac,Aa,Ag,Af,Ae,Ab,Ah,HB⟩:=hcut;cases kq with
   | zero=>exact absurd HA.out (by simp [Aac.j0])
   | succ kj9 =>
    have H:=HA.out;clear HA;simp only [Aac.j0] at H
    by_cases c77 : x86_9 = true
    ·subst c77;have H1 : (some false) = some r:=by rw [if_pos rfl] at H;exact H
     clear H;have H:=H1;clear H1;obtain rfl:=Option.some.inj H;go_wp2
     go_ret
     exact ⟨by first|rfl|(simp [errW_none,errW_some] <;> rfl)|(simp [*,errW_none,errW_some] <;> rfl),bb_⟩
    ·replace c77:=Bool.eq_false_iff.mpr c77;subst c77;have H1 : (if Bc = true then ((Aaj.f kj9 Ap Am Ak Ai).bind fun D2=>((Aaj.f kj9 Ao Al Ak Ai).bind fun Dr=>((Aap.f kj9 Ak Ai).bind fun Dp=>(if Dp = true then (if D2.2 = true then (if D2.1 = true then (if Dr.2 = true then (if Dr.1 = true then ((Aaz.f kj9 Ak Ai Ao Al).bind fun Ca=>(if (Bd != Ca) = true then (some false) else (Aac.j1 kj9 l1))) else (some false)) else (some false)) else (some false)) else (some false)) else (some false))))) else (Aac.j1 kj9 l1)) = some r:=by rw [if_neg (show ¬ (false = true) by decide)] at H;exact H
     clear H;have H:=H1;clear H1;have HC78:=A_ H;clear H;go_upto_if 87 with (fail)
     go_cut [] (fun wc=>∃ (kq : Nat),Aside0 (Aac.j1 kq l1 = some r) ∧ Aside0 (kq ≤ kj9) ∧ Aside0 (Kd.R (Kd.int .i64) 3 wc w.heap.size (fun k_=>some k_ ≠ ((.slice Ao18 Al.length co18) : Value).ownBlock ∧ some k_ ≠ ((.slice Ao24 Ai.length co24) : Value).ownBlock ∧ some k_ ≠ ((.slice Ao33 Az.length co33) : Value).ownBlock) (.slice Ao16 Am.length co16) Am) ∧ Aside0 (Kd.R (Kd.int .i64) 3 wc w.heap.size (fun k_=>some k_ ≠ ((.slice Ao16 Am.length co16) : Value).ownBlock ∧ some k_ ≠ ((.slice Ao24 Ai.length co24) : Value).ownBlock ∧ some k_ ≠ ((.slice Ao33 Az.length co33) : Value).ownBlock) (.slice Ao18 Al.length co18) Al) ∧ Aside0 (Kd.R (Kd.int .i64) 3 wc w.heap.size (fun k_=>some k_ ≠ ((.slice Ao16 Am.length co16) : Value).ownBlock ∧ some k_ ≠ ((.slice Ao18 Al.length co18) : Value).ownBlock ∧ some k_ ≠ ((.slice Ao33 Az.length co33) : Value).ownBlock) (.slice Ao24 Ai.length co24) Ai) ∧ Aside0 (Kd.R (Kd.int .i64) 3 wc w.heap.size (fun k_=>some k_ ≠ ((.slice Ao16 Am.length co16) : Value).ownBlock ∧ some k_ ≠ ((.slice Ao18 Al.length co18) : Value).ownBlock ∧ some k_ ≠ ((.slice Ao24 Ai.length co24) : Value).ownBlock) (.slice Ao33 Az.length co33) Az) ∧ Aside0 (wc.heap[Bb]? = some (.cells #[.int .i64 Ap,(.slice Ao16 Am.length co16)] 28 (0,0))) ∧ Aside0 (wc.heap[Ax]? = some (.cells #[.int .i64 Ao,(.slice Ao18 Al.length co18)] 28 (0,0))) ∧ Aside0 (wc.heap[At]? = some (.cells #[.int .i64 Ak,(.slice Ao24 Ai.length co24)] 28 (0,0))) ∧ Aside0 (wc.heap[Cg]? = some (.cells #[.int .i64 B4,(.slice Ao33 Az.length co33)] 28 (0,0))) ∧ Aside0 (Below w.heap.size w wc))
     case first =>
      have H:=HC78.out;clear HC78;by_cases c79 : Bc = true
      ·subst c79;have H1 : ((Aaj.f kj9 Ap Am Ak Ai).bind fun D2=>((Aaj.f kj9 Ao Al Ak Ai).bind fun Dr=>((Aap.f kj9 Ak Ai).bind fun Dp=>(if Dp = true then (if D2.2 = true then (if D2.1 = true then (if Dr.2 = true then (if Dr.1 = true then ((Aaz.f kj9 Ak Ai Ao Al).bind fun Ca=>(if (Bd != Ca) = true then (some false) else (Aac.j1 kj9 l1))) else (some false)) else (some false)) else (some false)) else (some false)) else (some false))))) = some r:=by rw [if_pos rfl] at H;exact H
       clear H;have H:=H1;clear H1;replace H:=Option.bind_eq_some_iff.mp H;obtain ⟨⟨Dx,D4⟩,Jp,H⟩:=H;replace H : ((Aaj.f kj9 Ao Al Ak Ai).bind fun Dr=>((Aap.f kj9 Ak Ai).bind fun Dp=>(if Dp = true then (if D4 = true then (if Dx = true then (if Dr.2 = true then (if Dr.1 = true then ((Aaz.f kj9 Ak Ai Ao Al).bind fun Ca=>(if (Bd != Ca) = true then (some false) else (Aac.j1 kj9 l1))) else (some false)) else (some false)) else (some false)) else (some false)) else (some false)))) = some r:=H;have A80:=A_ Jp;clear Jp;replace H:=Option.bind_eq_some_iff.mp H;obtain ⟨⟨Do,Du⟩,Jq,H⟩:=H;replace H : ((Aap.f kj9 Ak Ai).bind fun Dp=>(if Dp = true then (if D4 = true then (if Dx = true then (if Du = true then (if Do = true then ((Aaz.f kj9 Ak Ai Ao Al).bind fun Ca=>(if (Bd != Ca) = true then (some false) else (Aac.j1 kj9 l1))) else (some false)) else (some false)) else (some false)) else (some false)) else (some false))) = some r:=H;have A81:=A_ Jq;clear Jq;replace H:=Option.bind_eq_some_iff.mp H;obtain ⟨Dp,Jr,H⟩:=H;replace H : (if Dp = true then (if D4 = true then (if Dx = true then (if Du = true then (if Do = true then ((Aaz.f kj9 Ak Ai Ao Al).bind fun Ca=>(if (Bd != Ca) = true then (some false) else (Aac.j1 kj9 l1))) else (some false)) else (some false)) else (some false)) else (some false)) else (some false)) = some r:=H;have A82:=A_ Jr;clear Jr;by_cases c83 : Dp = true
       ·subst c83;have H1 : (if D4 = true then (if Dx = true then (if Du = true then (if Do = true then ((Aaz.f kj9 Ak Ai Ao Al).bind fun Ca=>(if (Bd != Ca) = true then (some false) else (Aac.j1 kj9 l1))) else (some false)) else (some false)) else (some false)) else (some false)) = some r:=by rw [if_pos rfl] at H;exact H
        clear H;have H:=H1;clear H1;by_cases c84 : D4 = true
        ·subst c84;have H1 : (if Dx = true then (if Du = true then (if Do = true then ((Aaz.f kj9 Ak Ai Ao Al).bind fun Ca=>(if (Bd != Ca) = true then (some false) else (Aac.j1 kj9 l1))) else (some false)) else (some false)) else (some false)) = some r:=by rw [if_pos rfl] at H;exact H
         clear H;have H:=H1;clear H1;by_cases c85 : Dx = true
         ·subst c85;have H1 : (if Du = true then (if Do = true then ((Aaz.f kj9 Ak Ai Ao Al).bind fun Ca=>(if (Bd != Ca) = true then (some false) else (Aac.j1 kj9 l1))) else (some false)) else (some false)) = some r:=by rw [if_pos rfl] at H;exact H
          clear H;have H:=H1;clear H1;by_cases c86 : Du = true
          ·subst c86;have H1 : (if Do = true then ((Aaz.f kj9 Ak Ai Ao Al).bind fun Ca=>(if (Bd != Ca) = true then (some false) else (Aac.j1 kj9 l1))) else (some false)) = some r:=by rw [if_pos rfl] at H;exact H
           clear H;have H:=H1;clear H1;by_cases c87 : Do = true
           ·subst c87;have H1 : ((Aaz.f kj9 Ak Ai Ao Al).bind fun Ca=>(if (Bd != Ca) = true then (some false) else (Aac.j1 kj9 l1))) = some r:=by rw [if_pos rfl] at H;exact H
            clear H;have H:=H1;clear H1;replace H:=Option.bind_eq_some_iff.mp H;obtain ⟨Ca,Js,H⟩:=H;replace H : (if (Bd != Ca) = true then (some false) else (Aac.j1 kj9 l1)) = some r:=H;have A88:=A_ Js;clear Js;by_cases c89 : (Bd != Ca) = true
            ·rw [if_pos c89] at H;have c89b0 : (Bd != Ca) = true:=c89;(try (have c89b1 : decide (Bd = Ca) = false:=by simpa using c89));(try (have c89b2 : (Bd == Ca) = false:=by simpa using c89));(try (have c89b3 : ¬ (Bd = Ca):=by simpa using c89));clear c89;(first|rw [c89b0]|(simp only [i64_w,i32_w];rw [c89b0])|skip)
             obtain rfl:=Option.some.inj H;have hnb90:=Cj.out;have hnc90:=Ck.out;have hnb91:=Bx.out;have hnc91:=Cb.out;have hnb92:=B0.out;have hnc92:=Cd.out;have hcz93_0 : wc.cell? ⟨Bb,0,none⟩ = some (.int .i64 Ap):=blk_cell Af.out 0;have hcz93_1 : wc.cell? ⟨Bb,1,none⟩ = some (.slice Ao16 Am.length co16):=blk_cell Af.out 1;have hfz93_0:=blk_frozen Af.out 0;have hfz93_1:=blk_frozen Af.out 1;have hnb94:=Cc.out;have hnc94:=Bz.out;have hnb95:=B2.out;have hnc95:=Cf.out;have hcz96_0 : wc.cell? ⟨At,0,none⟩ = some (.int .i64 Ak):=blk_cell Ab.out 0;have hcz96_1 : wc.cell? ⟨At,1,none⟩ = some (.slice Ao24 Ai.length co24):=blk_cell Ab.out 1;have hfz96_0:=blk_frozen Ab.out 0;have hfz96_1:=blk_frozen Ab.out 1;go_wp2_with (first|((with_reducible refine gate_callee (f:=84) rfl ?_);refine goesL_ (some 91) rfl rfl Tryd.func84 (by kernel_rfl) rfl #[.agg #[.int .i64 Ap,.slice Ao16 Am.length co16],.agg #[.int .i64 Ak,.slice Ao24 Ai.length co24]] rfl au_ ?_;(with_reducible refine (Aaj.calls kj9 Ap _ _ Am Ak _ _ Ai true true _ ?side1 ?side2 ?side3 ?side4 ?side5 A80.out).mono ?_);(case side1=>exact cl_ (Kd.R_reads' Ad.out).2.2);(case side2=>exact (Kd.R_reads' Ad.out).2.1);(case side3=>exact cl_ (Kd.R_reads' Aa.out).2.2);(case side4=>exact (Kd.R_reads' Aa.out).2.1);(case side5=>first|exact HT.out|exact HT.out.below bb_|(repeat (first|exact HT.out|apply TabOK.drewN|apply TabOK.drew|apply TabOK.alloc)));rintro e w97 ⟨rfl,hb⟩;refine ⟨_,rfl,?_⟩;replace Ad:=rb_ Ad hb;replace Ac:=rb_ Ac hb;replace Aa:=rb_ Aa hb;replace Ag:=rb_ Ag hb;replace Af:=bz Af hb;replace Ae:=bz Ae hb;replace Ab:=bz Ab hb;replace Ah:=bz Ah hb;replace HB:=A_ (below_step bb_ hb);(try clear hb);(try clear hb2);(try clear hk);(try clear hi);have hnb98:=B1.out;have hnc98:=Ce.out;have hcz99_0 : w97.cell? ⟨Ax,0,none⟩ = some (.int .i64 Ao):=blk_cell Ae.out 0;have hcz99_1 : w97.cell? ⟨Ax,1,none⟩ = some (.slice Ao18 Al.length co18):=blk_cell Ae.out 1;have hfz99_0:=blk_frozen Ae.out 0;have hfz99_1:=blk_frozen Ae.out 1;have Ei : w97.cell? ⟨At,0,none⟩ = some (.int .i64 Ak):=blk_cell Ab.out 0;have Ej : w97.cell? ⟨At,1,none⟩ = some (.slice Ao24 Ai.length co24):=blk_cell Ab.out 1;have Ek:=blk_frozen Ab.out 0;have El:=blk_frozen Ab.out 1)|((with_reducible refine gate_callee (f:=84) rfl ?_);refine goesL_ (some 97) rfl rfl Tryd.func84 (by kernel_rfl) rfl #[.agg #[.int .i64 Ao,.slice Ao18 Al.length co18],.agg #[.int .i64 Ak,.slice Ao24 Ai.length co24]] rfl au_ ?_;(with_reducible refine (Aaj.calls kj9 Ao _ _ Al Ak _ _ Ai true true _ ?side1 ?side2 ?side3 ?side4 ?side5 A81.out).mono ?_);(case side1=>exact cl_ (Kd.R_reads' Ac.out).2.2);(case side2=>exact (Kd.R_reads' Ac.out).2.1);(case side3=>exact cl_ (Kd.R_reads' Aa.out).2.2);(case side4=>exact (Kd.R_reads' Aa.out).2.1);(case side5=>first|exact HT.out|exact HT.out.below bb_|(repeat (first|exact HT.out|apply TabOK.drewN|apply TabOK.drew|apply TabOK.alloc)));rintro e Jt ⟨rfl,hb⟩;refine ⟨_,rfl,?_⟩;replace Ad:=rb_ Ad hb;replace Ac:=rb_ Ac hb;replace Aa:=rb_ Aa hb;replace Ag:=rb_ Ag hb;replace Af:=bz Af hb;replace Ae:=bz Ae hb;replace Ab:=bz Ab hb;replace Ah:=bz Ah hb;replace HB:=A_ (below_step bb_ hb);(try clear hb);(try clear hb2);(try clear hk);(try clear hi);have Em : Jt.cell? ⟨At,0,none⟩ = some (.int .i64 Ak):=blk_cell Ab.out 0;have En : Jt.cell? ⟨At,1,none⟩ = some (.slice Ao24 Ai.length co24):=blk_cell Ab.out 1;have Eo:=blk_frozen Ab.out 0;have Ep:=blk_frozen Ab.out 1)|((with_reducible refine gate_callee (f:=61) rfl ?_);refine goesL_ (some 101) rfl rfl Tryd.func61 (by kernel_rfl) rfl #[.agg #[.int .i64 Ak,.slice Ao24 Ai.length co24]] rfl au_ ?_;(with_reducible refine (Aap.calls kj9 Ak _ _ Ai true _ ?side1 ?side2 ?side3 A82.out).mono ?_);(case side1=>exact cl_ (Kd.R_reads' Aa.out).2.2);(case side2=>exact (Kd.R_reads' Aa.out).2.1);(case side3=>first|exact HT.out|exact HT.out.below bb_|(repeat (first|exact HT.out|apply TabOK.drewN|apply TabOK.drew|apply TabOK.alloc)));rintro e Ir ⟨rfl,hb⟩;refine ⟨_,rfl,?_⟩;replace Ad:=rb_ Ad hb;replace Ac:=rb_ Ac hb;replace Aa:=rb_ Aa hb;replace Ag:=rb_ Ag hb;replace Af:=bz Af hb;replace Ae:=bz Ae hb;replace Ab:=bz Ab hb;replace Ah:=bz Ah hb;replace HB:=A_ (below_step bb_ hb);(try clear hb);(try clear hb2);(try clear hk);(try clear hi);have Er : Ir.cell? ⟨At,0,none⟩ = some (.int .i64 Ak):=blk_cell Ab.out 0;have Es : Ir.cell? ⟨At,1,none⟩ = some (.slice Ao24 Ai.length co24):=blk_cell Ab.out 1;have Et:=blk_frozen Ab.out 0;have Eu:=blk_frozen Ab.out 1;have Ew : Ir.cell? ⟨Ax,0,none⟩ = some (.int .i64 Ao):=blk_cell Ae.out 0;have Ex : Ir.cell? ⟨Ax,1,none⟩ = some (.slice Ao18 Al.length co18):=blk_cell Ae.out 1;have Ey:=blk_frozen Ae.out 0;have Ez:=blk_frozen Ae.out 1)|(go_at_call 29;(with_reducible refine (Aaz.calls kj9 Ak _ _ Ai Ao _ _ Al Ca _ ?side1 ?side2 ?side3 ?side4 A88.out).mono ?_);(case side1=>exact cl_ (Kd.R_reads' Aa.out).2.2);(case side2=>exact (Kd.R_reads' Aa.out).2.1);(case side3=>exact cl_ (Kd.R_reads' Ac.out).2.2);(case side4=>exact (Kd.R_reads' Ac.out).2.1);rintro e Rv ⟨rfl,hb⟩;replace Ad:=rb_ Ad hb;replace Ac:=rb_ Ac hb;replace Aa:=rb_ Aa hb;replace Ag:=rb_ Ag hb;replace Af:=bz Af hb;replace Ae:=bz Ae hb;replace Ab:=bz Ab hb;replace Ah:=bz Ah hb;replace HB:=A_ (below_step bb_ hb);(try clear hb);(try clear hb2);(try clear hk);(try clear hi)))
             go_ret
             exact ⟨by first|rfl|(simp [errW_none,errW_some] <;> rfl)|(simp [*,errW_none,errW_some] <;> rfl),bb_⟩
            ·rw [if_neg c89] at H;have c89b0 : (Bd != Ca) = false:=by simpa using c89
             (try (have c89b1 : decide (Bd = Ca) = true:=by simpa using c89));(try (have c89b2 : (Bd == Ca) = true:=by simpa using c89));clear c89;(first|rw [c89b0]|(simp only [i64_w,i32_w];rw [c89b0])|skip)
             have H':=A_ H;clear H;have Nd:=Cj.out;have Nf:=Ck.out;have Ng:=Bx.out;have Nh:=Cb.out;have Nk:=B0.out;have Nl:=Cd.out;have E0 : wc.cell? ⟨Bb,0,none⟩ = some (.int .i64 Ap):=blk_cell Af.out 0;have E1 : wc.cell? ⟨Bb,1,none⟩ = some (.slice Ao16 Am.length co16):=blk_cell Af.out 1;have E2:=blk_frozen Af.out 0;have E3:=blk_frozen Af.out 1;have Nm:=Cc.out;have Nn:=Bz.out;have No:=B2.out;have Np:=Cf.out;have E4 : wc.cell? ⟨At,0,none⟩ = some (.int .i64 Ak):=blk_cell Ab.out 0;have E5 : wc.cell? ⟨At,1,none⟩ = some (.slice Ao24 Ai.length co24):=blk_cell Ab.out 1;have E6:=blk_frozen Ab.out 0;have E7:=blk_frozen Ab.out 1;go_wp2_with (first|((with_reducible refine gate_callee (f:=84) rfl ?_);refine goesL_ (some 91) rfl rfl Tryd.func84 (by kernel_rfl) rfl #[.agg #[.int .i64 Ap,.slice Ao16 Am.length co16],.agg #[.int .i64 Ak,.slice Ao24 Ai.length co24]] rfl au_ ?_;(with_reducible refine (Aaj.calls kj9 Ap _ _ Am Ak _ _ Ai true true _ ?side1 ?side2 ?side3 ?side4 ?side5 A80.out).mono ?_);(case side1=>exact cl_ (Kd.R_reads' Ad.out).2.2);(case side2=>exact (Kd.R_reads' Ad.out).2.1);(case side3=>exact cl_ (Kd.R_reads' Aa.out).2.2);(case side4=>exact (Kd.R_reads' Aa.out).2.1);(case side5=>first|exact HT.out|exact HT.out.below bb_|(repeat (first|exact HT.out|apply TabOK.drewN|apply TabOK.drew|apply TabOK.alloc)));rintro e Is ⟨rfl,hb⟩;refine ⟨_,rfl,?_⟩;replace Ad:=rb_ Ad hb;replace Ac:=rb_ Ac hb;replace Aa:=rb_ Aa hb;replace Ag:=rb_ Ag hb;replace Af:=bz Af hb;replace Ae:=bz Ae hb;replace Ab:=bz Ab hb;replace Ah:=bz Ah hb;replace HB:=A_ (below_step bb_ hb);(try clear hb);(try clear hb2);(try clear hk);(try clear hi);have Nq:=B1.out;have Nr:=Ce.out;have E8 : Is.cell? ⟨Ax,0,none⟩ = some (.int .i64 Ao):=blk_cell Ae.out 0;have E9 : Is.cell? ⟨Ax,1,none⟩ = some (.slice Ao18 Al.length co18):=blk_cell Ae.out 1;have Fa:=blk_frozen Ae.out 0;have Fb:=blk_frozen Ae.out 1;have Fc : Is.cell? ⟨At,0,none⟩ = some (.int .i64 Ak):=blk_cell Ab.out 0;have Fd : Is.cell? ⟨At,1,none⟩ = some (.slice Ao24 Ai.length co24):=blk_cell Ab.out 1;have Fe:=blk_frozen Ab.out 0;have Ff:=blk_frozen Ab.out 1)|((with_reducible refine gate_callee (f:=84) rfl ?_);refine goesL_ (some 97) rfl rfl Tryd.func84 (by kernel_rfl) rfl #[.agg #[.int .i64 Ao,.slice Ao18 Al.length co18],.agg #[.int .i64 Ak,.slice Ao24 Ai.length co24]] rfl au_ ?_;(with_reducible refine (Aaj.calls kj9 Ao _ _ Al Ak _ _ Ai true true _ ?side1 ?side2 ?side3 ?side4 ?side5 A81.out).mono ?_);(case side1=>exact cl_ (Kd.R_reads' Ac.out).2.2);(case side2=>exact (Kd.R_reads' Ac.out).2.1);(case side3=>exact cl_ (Kd.R_reads' Aa.out).2.2);(case side4=>exact (Kd.R_reads' Aa.out).2.1);(case side5=>first|exact HT.out|exact HT.out.below bb_|(repeat (first|exact HT.out|apply TabOK.drewN|apply TabOK.drew|apply TabOK.alloc)));rintro e Ju ⟨rfl,hb⟩;refine ⟨_,rfl,?_⟩;replace Ad:=rb_ Ad hb;replace Ac:=rb_ Ac hb;replace Aa:=rb_ Aa hb;replace Ag:=rb_ Ag hb;replace Af:=bz Af hb;replace Ae:=bz Ae hb;replace Ab:=bz Ab hb;replace Ah:=bz Ah hb;replace HB:=A_ (below_step bb_ hb);(try clear hb);(try clear hb2);(try clear hk);(try clear hi);have Fg : Ju.cell? ⟨At,0,none⟩ = some (.int .i64 Ak):=blk_cell Ab.out 0;have Fh : Ju.cell? ⟨At,1,none⟩ = some (.slice Ao24 Ai.length co24):=blk_cell Ab.out 1;have Fi:=blk_frozen Ab.out 0;have Fj:=blk_frozen Ab.out 1)|((with_reducible refine gate_callee (f:=61) rfl ?_);refine goesL_ (some 101) rfl rfl Tryd.func61 (by kernel_rfl) rfl #[.agg #[.int .i64 Ak,.slice Ao24 Ai.length co24]] rfl au_ ?_;(with_reducible refine (Aap.calls kj9 Ak _ _ Ai true _ ?side1 ?side2 ?side3 A82.out).mono ?_);(case side1=>exact cl_ (Kd.R_reads' Aa.out).2.2);(case side2=>exact (Kd.R_reads' Aa.out).2.1);(case side3=>first|exact HT.out|exact HT.out.below bb_|(repeat (first|exact HT.out|apply TabOK.drewN|apply TabOK.drew|apply TabOK.alloc)));rintro e It ⟨rfl,hb⟩;refine ⟨_,rfl,?_⟩;replace Ad:=rb_ Ad hb;replace Ac:=rb_ Ac hb;replace Aa:=rb_ Aa hb;replace Ag:=rb_ Ag hb;replace Af:=bz Af hb;replace Ae:=bz Ae hb;replace Ab:=bz Ab hb;replace Ah:=bz Ah hb;replace HB:=A_ (below_step bb_ hb);(try clear hb);(try clear hb2);(try clear hk);(try clear hi);have Fk : It.cell? ⟨At,0,none⟩ = some (.int .i64 Ak):=blk_cell Ab.out 0;have Fl : It.cell? ⟨At,1,none⟩ = some (.slice Ao24 Ai.length co24):=blk_cell Ab.out 1;have Fm:=blk_frozen Ab.out 0;have Fn:=blk_frozen Ab.out 1;have Fo : It.cell? ⟨Ax,0,none⟩ = some (.int .i64 Ao):=blk_cell Ae.out 0;have Fp : It.cell? ⟨Ax,1,none⟩ = some (.slice Ao18 Al.length co18):=blk_cell Ae.out 1;have Fq:=blk_frozen Ae.out 0;have Fr:=blk_frozen Ae.out 1)|(go_at_call 29;(with_reducible refine (Aaz.calls kj9 Ak _ _ Ai Ao _ _ Al Ca _ ?side1 ?side2 ?side3 ?side4 A88.out).mono ?_);(case side1=>exact cl_ (Kd.R_reads' Aa.out).2.2);(case side2=>exact (Kd.R_reads' Aa.out).2.1);(case side3=>exact cl_ (Kd.R_reads' Ac.out).2.2);(case side4=>exact (Kd.R_reads' Ac.out).2.1);rintro e Rw ⟨rfl,hb⟩;replace Ad:=rb_ Ad hb;replace Ac:=rb_ Ac hb;replace Aa:=rb_ Aa hb;replace Ag:=rb_ Ag hb;replace Af:=bz Af hb;replace Ae:=bz Ae hb;replace Ab:=bz Ab hb;replace Ah:=bz Ah hb;replace HB:=A_ (below_step bb_ hb);(try clear hb);(try clear hb2);(try clear hk);(try clear hi)))
             go_meet
             case rel=>exact ⟨_,H',⟨by have:=HJ9.out;first|omega|exact Nat.le_refl _⟩,⟨rl_ Ad⟩,⟨rl_ Ac⟩,⟨rl_ Aa⟩,⟨rl_ Ag⟩,⟨bl_ Af⟩,⟨bl_ Ae⟩,⟨bl_ Ab⟩,⟨bl_ Ah⟩,⟨bb_⟩⟩
           ·replace c87:=Bool.eq_false_iff.mpr c87;subst c87;have H1 : (some false) = some r:=by rw [if_neg (show ¬ (false = true) by decide)] at H;exact H
            clear H;have H:=H1;clear H1;obtain rfl:=Option.some.inj H;have Ns:=Cj.out;have Nt:=Ck.out;have Nu:=Bx.out;have Nv:=Cb.out;have Nw:=B0.out;have Nx:=Cd.out;have Fs : wc.cell? ⟨Bb,0,none⟩ = some (.int .i64 Ap):=blk_cell Af.out 0;have Ft : wc.cell? ⟨Bb,1,none⟩ = some (.slice Ao16 Am.length co16):=blk_cell Af.out 1;have Fu:=blk_frozen Af.out 0;have Fv:=blk_frozen Af.out 1;have Ny:=Cc.out;have Nz:=Bz.out;have N0:=B2.out;have N1:=Cf.out;have Fw : wc.cell? ⟨At,0,none⟩ = some (.int .i64 Ak):=blk_cell Ab.out 0;have Fx : wc.cell? ⟨At,1,none⟩ = some (.slice Ao24 Ai.length co24):=blk_cell Ab.out 1;have Fy:=blk_frozen Ab.out 0;have Fz:=blk_frozen Ab.out 1;go_wp2_with (first|((with_reducible refine gate_callee (f:=84) rfl ?_);refine goesL_ (some 91) rfl rfl Tryd.func84 (by kernel_rfl) rfl #[.agg #[.int .i64 Ap,.slice Ao16 Am.length co16],.agg #[.int .i64 Ak,.slice Ao24 Ai.length co24]] rfl au_ ?_;(with_reducible refine (Aaj.calls kj9 Ap _ _ Am Ak _ _ Ai true true _ ?side1 ?side2 ?side3 ?side4 ?side5 A80.out).mono ?_);(case side1=>exact cl_ (Kd.R_reads' Ad.out).2.2);(case side2=>exact (Kd.R_reads' Ad.out).2.1);(case side3=>exact cl_ (Kd.R_reads' Aa.out).2.2);(case side4=>exact (Kd.R_reads' Aa.out).2.1);(case side5=>first|exact HT.out|exact HT.out.below bb_|(repeat (first|exact HT.out|apply TabOK.drewN|apply TabOK.drew|apply TabOK.alloc)));rintro e Iu ⟨rfl,hb⟩;refine ⟨_,rfl,?_⟩;replace Ad:=rb_ Ad hb;replace Ac:=rb_ Ac hb;replace Aa:=rb_ Aa hb;replace Ag:=rb_ Ag hb;replace Af:=bz Af hb;replace Ae:=bz Ae hb;replace Ab:=bz Ab hb;replace Ah:=bz Ah hb;replace HB:=A_ (below_step bb_ hb);(try clear hb);(try clear hb2);(try clear hk);(try clear hi);have N2:=B1.out;have N3:=Ce.out;have F0 : Iu.cell? ⟨Ax,0,none⟩ = some (.int .i64 Ao):=blk_cell Ae.out 0;have F1 : Iu.cell? ⟨Ax,1,none⟩ = some (.slice Ao18 Al.length co18):=blk_cell Ae.out 1;have F2:=blk_frozen Ae.out 0;have F3:=blk_frozen Ae.out 1;have F4 : Iu.cell? ⟨At,0,none⟩ = some (.int .i64 Ak):=blk_cell Ab.out 0;have F5 : Iu.cell? ⟨At,1,none⟩ = some (.slice Ao24 Ai.length co24):=blk_cell Ab.out 1;have F6:=blk_frozen Ab.out 0;have F7:=blk_frozen Ab.out 1)|((with_reducible refine gate_callee (f:=84) rfl ?_);refine goesL_ (some 97) rfl rfl Tryd.func84 (by kernel_rfl) rfl #[.agg #[.int .i64 Ao,.slice Ao18 Al.length co18],.agg #[.int .i64 Ak,.slice Ao24 Ai.length co24]] rfl au_ ?_;(with_reducible refine (Aaj.calls kj9 Ao _ _ Al Ak _ _ Ai false true _ ?side1 ?side2 ?side3 ?side4 ?side5 A81.out).mono ?_);(case side1=>exact cl_ (Kd.R_reads' Ac.out).2.2);(case side2=>exact (Kd.R_reads' Ac.out).2.1);(case side3=>exact cl_ (Kd.R_reads' Aa.out).2.2);(case side4=>exact (Kd.R_reads' Aa.out).2.1);(case side5=>first|exact HT.out|exact HT.out.below bb_|(repeat (first|exact HT.out|apply TabOK.drewN|apply TabOK.drew|apply TabOK.alloc)));rintro e Jv ⟨rfl,hb⟩;refine ⟨_,rfl,?_⟩;replace Ad:=rb_ Ad hb;replace Ac:=rb_ Ac hb;replace Aa:=rb_ Aa hb;replace Ag:=rb_ Ag hb;replace Af:=bz Af hb;replace Ae:=bz Ae hb;replace Ab:=bz Ab hb;replace Ah:=bz Ah hb;replace HB:=A_ (below_step bb_ hb);(try clear hb);(try clear hb2);(try clear hk);(try clear hi);have F8 : Jv.cell? ⟨At,0,none⟩ = some (.int .i64 Ak):=blk_cell Ab.out 0;have F9 : Jv.cell? ⟨At,1,none⟩ = some (.slice Ao24 Ai.length co24):=blk_cell Ab.out 1;have Ga:=blk_frozen Ab.out 0;have Gb:=blk_frozen Ab.out 1)|((with_reducible refine gate_callee (f:=61) rfl ?_);refine goesL_ (some 101) rfl rfl Tryd.func61 (by kernel_rfl) rfl #[.agg #[.int .i64 Ak,.slice Ao24 Ai.length co24]] rfl au_ ?_;(with_reducible refine (Aap.calls kj9 Ak _ _ Ai true _ ?side1 ?side2 ?side3 A82.out).mono ?_);(case side1=>exact cl_ (Kd.R_reads' Aa.out).2.2);(case side2=>exact (Kd.R_reads' Aa.out).2.1);(case side3=>first|exact HT.out|exact HT.out.below bb_|(repeat (first|exact HT.out|apply TabOK.drewN|apply TabOK.drew|apply TabOK.alloc)));rintro e Rx ⟨rfl,hb⟩;refine ⟨_,rfl,?_⟩;replace Ad:=rb_ Ad hb;replace Ac:=rb_ Ac hb;replace Aa:=rb_ Aa hb;replace Ag:=rb_ Ag hb;replace Af:=bz Af hb;replace Ae:=bz Ae hb;replace Ab:=bz Ab hb;replace Ah:=bz Ah hb;replace HB:=A_ (below_step bb_ hb);(try clear hb);(try clear hb2);(try clear hk);(try clear hi)))
            go_ret
            exact ⟨by first|rfl|(simp [errW_none,errW_some] <;> rfl)|(simp [*,errW_none,errW_some] <;> rfl),bb_⟩
          ·replace c86:=Bool.eq_false_iff.mpr c86;subst c86;have H1 : (some false) = some r:=by rw [if_neg (show ¬ (false = true) by decide)] at H;exact H
           clear H;have H:=H1;clear H1;obtain rfl:=Option.some.inj H;have N4:=Cj.out;have N5:=Ck.out;have N6:=Bx.out;have N7:=Cb.out;have N8:=B0.out;have N9:=Cd.out;have Gc : wc.cell? ⟨Bb,0,none⟩ = some (.int .i64 Ap):=blk_cell Af.out 0;have Gd : wc.cell? ⟨Bb,1,none⟩ = some (.slice Ao16 Am.length co16):=blk_cell Af.out 1;have Ge:=blk_frozen Af.out 0;have Gf:=blk_frozen Af.out 1;have Oa:=Cc.out;have Ob:=Bz.out;have Oc:=B2.out;have Od:=Cf.out;have Gg : wc.cell? ⟨At,0,none⟩ = some (.int .i64 Ak):=blk_cell Ab.out 0;have Gh : wc.cell? ⟨At,1,none⟩ = some (.slice Ao24 Ai.length co24):=blk_cell Ab.out 1;have Gi:=blk_frozen Ab.out 0;have Gj:=blk_frozen Ab.out 1;go_wp2_with (first|((with_reducible refine gate_callee (f:=84) rfl ?_);refine goesL_ (some 91) rfl rfl Tryd.func84 (by kernel_rfl) rfl #[.agg #[.int .i64 Ap,.slice Ao16 Am.length co16],.agg #[.int .i64 Ak,.slice Ao24 Ai.length co24]] rfl au_ ?_;(with_reducible refine (Aaj.calls kj9 Ap _ _ Am Ak _ _ Ai true true _ ?side1 ?side2 ?side3 ?side4 ?side5 A80.out).mono ?_);(case side1=>exact cl_ (Kd.R_reads' Ad.out).2.2);(case side2=>exact (Kd.R_reads' Ad.out).2.1);(case side3=>exact cl_ (Kd.R_reads' Aa.out).2.2);(case side4=>exact (Kd.R_reads' Aa.out).2.1);(case side5=>first|exact HT.out|exact HT.out.below bb_|(repeat (first|exact HT.out|apply TabOK.drewN|apply TabOK.drew|apply TabOK.alloc)));rintro e Iv ⟨rfl,hb⟩;refine ⟨_,rfl,?_⟩;replace Ad:=rb_ Ad hb;replace Ac:=rb_ Ac hb;replace Aa:=rb_ Aa hb;replace Ag:=rb_ Ag hb;replace Af:=bz Af hb;replace Ae:=bz Ae hb;replace Ab:=bz Ab hb;replace Ah:=bz Ah hb;replace HB:=A_ (below_step bb_ hb);(try clear hb);(try clear hb2);(try clear hk);(try clear hi);have Oe:=B1.out;have Of:=Ce.out;have Gk : Iv.cell? ⟨Ax,0,none⟩ = some (.int .i64 Ao):=blk_cell Ae.out 0;have Gl : Iv.cell? ⟨Ax,1,none⟩ = some (.slice Ao18 Al.length co18):=blk_cell Ae.out 1;have Gm:=blk_frozen Ae.out 0;have Gn:=blk_frozen Ae.out 1;have Gp : Iv.cell? ⟨At,0,none⟩ = some (.int .i64 Ak):=blk_cell Ab.out 0;have Gq : Iv.cell? ⟨At,1,none⟩ = some (.slice Ao24 Ai.length co24):=blk_cell Ab.out 1;have Gr:=blk_frozen Ab.out 0;have Gs:=blk_frozen Ab.out 1)|((with_reducible refine gate_callee (f:=84) rfl ?_);refine goesL_ (some 97) rfl rfl Tryd.func84 (by kernel_rfl) rfl #[.agg #[.int .i64 Ao,.slice Ao18 Al.length co18],.agg #[.int .i64 Ak,.slice Ao24 Ai.length co24]] rfl au_ ?_;(with_reducible refine (Aaj.calls kj9 Ao _ _ Al Ak _ _ Ai Do false _ ?side1 ?side2 ?side3 ?side4 ?side5 A81.out).mono ?_);(case side1=>exact cl_ (Kd.R_reads' Ac.out).2.2);(case side2=>exact (Kd.R_reads' Ac.out).2.1);(case side3=>exact cl_ (Kd.R_reads' Aa.out).2.2);(case side4=>exact (Kd.R_reads' Aa.out).2.1);(case side5=>first|exact HT.out|exact HT.out.below bb_|(repeat (first|exact HT.out|apply TabOK.drewN|apply TabOK.drew|apply TabOK.alloc)));rintro e Jw ⟨rfl,hb⟩;refine ⟨_,rfl,?_⟩;replace Ad:=rb_ Ad hb;replace Ac:=rb_ Ac hb;replace Aa:=rb_ Aa hb;replace Ag:=rb_ Ag hb;replace Af:=bz Af hb;replace Ae:=bz Ae hb;replace Ab:=bz Ab hb;replace Ah:=bz Ah hb;replace HB:=A_ (below_step bb_ hb);(try clear hb);(try clear hb2);(try clear hk);(try clear hi);have Gt : Jw.cell? ⟨At,0,none⟩ = some (.int .i64 Ak):=blk_cell Ab.out 0;have Gu : Jw.cell? ⟨At,1,none⟩ = some (.slice Ao24 Ai.length co24):=blk_cell Ab.out 1;have Gv:=blk_frozen Ab.out 0;have Gw:=blk_frozen Ab.out 1)|((with_reducible refine gate_callee (f:=61) rfl ?_);refine goesL_ (some 101) rfl rfl Tryd.func61 (by kernel_rfl) rfl #[.agg #[.int .i64 Ak,.slice Ao24 Ai.length co24]] rfl au_ ?_;(with_reducible refine (Aap.calls kj9 Ak _ _ Ai true _ ?side1 ?side2 ?side3 A82.out).mono ?_);(case side1=>exact cl_ (Kd.R_reads' Aa.out).2.2);(case side2=>exact (Kd.R_reads' Aa.out).2.1);(case side3=>first|exact HT.out|exact HT.out.below bb_|(repeat (first|exact HT.out|apply TabOK.drewN|apply TabOK.drew|apply TabOK.alloc)));rintro e Ry ⟨rfl,hb⟩;refine ⟨_,rfl,?_⟩;replace Ad:=rb_ Ad hb;replace Ac:=rb_ Ac hb;replace Aa:=rb_ Aa hb;replace Ag:=rb_ Ag hb;replace Af:=bz Af hb;replace Ae:=bz Ae hb;replace Ab:=bz Ab hb;replace Ah:=bz Ah hb;replace HB:=A_ (below_step bb_ hb);(try clear hb);(try clear hb2);(try clear hk);(try clear hi)))
           go_ret
           exact ⟨by first|rfl|(simp [errW_none,errW_some] <;> rfl)|(simp [*,errW_none,errW_some] <;> rfl),bb_⟩
         ·replace c85:=Bool.eq_false_iff.mpr c85;subst c85;have H1 : (some false) = some r:=by rw [if_neg (show ¬ (false = true) by decide)] at H;exact H
          clear H;have H:=H1;clear H1;obtain rfl:=Option.some.inj H;have Og:=Cj.out;have Oh:=Ck.out;have Oi:=Bx.out;have Oj:=Cb.out;have Ok:=B0.out;have Ol:=Cd.out;have Gx : wc.cell? ⟨Bb,0,none⟩ = some (.int .i64 Ap):=blk_cell Af.out 0;have Gy : wc.cell? ⟨Bb,1,none⟩ = some (.slice Ao16 Am.length co16):=blk_cell Af.out 1;have Gz:=blk_frozen Af.out 0;have G0:=blk_frozen Af.out 1;have Om:=Cc.out;have On:=Bz.out;have Oo:=B2.out;have Op:=Cf.out;have G1 : wc.cell? ⟨At,0,none⟩ = some (.int .i64 Ak):=blk_cell Ab.out 0;have G2 : wc.cell? ⟨At,1,none⟩ = some (.slice Ao24 Ai.length co24):=blk_cell Ab.out 1;have G3:=blk_frozen Ab.out 0;have G4:=blk_frozen Ab.out 1;go_wp2_with (first|((with_reducible refine gate_callee (f:=84) rfl ?_);refine goesL_ (some 91) rfl rfl Tryd.func84 (by kernel_rfl) rfl #[.agg #[.int .i64 Ap,.slice Ao16 Am.length co16],.agg #[.int .i64 Ak,.slice Ao24 Ai.length co24]] rfl au_ ?_;(with_reducible refine (Aaj.calls kj9 Ap _ _ Am Ak _ _ Ai false true _ ?side1 ?side2 ?side3 ?side4 ?side5 A80.out).mono ?_);(case side1=>exact cl_ (Kd.R_reads' Ad.out).2.2);(case side2=>exact (Kd.R_reads' Ad.out).2.1);(case side3=>exact cl_ (Kd.R_reads' Aa.out).2.2);(case side4=>exact (Kd.R_reads' Aa.out).2.1);(case side5=>first|exact HT.out|exact HT.out.below bb_|(repeat (first|exact HT.out|apply TabOK.drewN|apply TabOK.drew|apply TabOK.alloc)));rintro e Iw ⟨rfl,hb⟩;refine ⟨_,rfl,?_⟩;replace Ad:=rb_ Ad hb;replace Ac:=rb_ Ac hb;replace Aa:=rb_ Aa hb;replace Ag:=rb_ Ag hb;replace Af:=bz Af hb;replace Ae:=bz Ae hb;replace Ab:=bz Ab hb;replace Ah:=bz Ah hb;replace HB:=A_ (below_step bb_ hb);(try clear hb);(try clear hb2);(try clear hk);(try clear hi);have Oq:=B1.out;have Ot:=Ce.out;have G5 : Iw.cell? ⟨Ax,0,none⟩ = some (.int .i64 Ao):=blk_cell Ae.out 0;have G6 : Iw.cell? ⟨Ax,1,none⟩ = some (.slice Ao18 Al.length co18):=blk_cell Ae.out 1;have G7:=blk_frozen Ae.out 0;have G8:=blk_frozen Ae.out 1;have G9 : Iw.cell? ⟨At,0,none⟩ = some (.int .i64 Ak):=blk_cell Ab.out 0;have Ha : Iw.cell? ⟨At,1,none⟩ = some (.slice Ao24 Ai.length co24):=blk_cell Ab.out 1;have Hb:=blk_frozen Ab.out 0;have Hc:=blk_frozen Ab.out 1)|((with_reducible refine gate_callee (f:=84) rfl ?_);refine goesL_ (some 97) rfl rfl Tryd.func84 (by kernel_rfl) rfl #[.agg #[.int .i64 Ao,.slice Ao18 Al.length co18],.agg #[.int .i64 Ak,.slice Ao24 Ai.length co24]] rfl au_ ?_;(with_reducible refine (Aaj.calls kj9 Ao _ _ Al Ak _ _ Ai Do Du _ ?side1 ?side2 ?side3 ?side4 ?side5 A81.out).mono ?_);(case side1=>exact cl_ (Kd.R_reads' Ac.out).2.2);(case side2=>exact (Kd.R_reads' Ac.out).2.1);(case side3=>exact cl_ (Kd.R_reads' Aa.out).2.2);(case side4=>exact (Kd.R_reads' Aa.out).2.1);(case side5=>first|exact HT.out|exact HT.out.below bb_|(repeat (first|exact HT.out|apply TabOK.drewN|apply TabOK.drew|apply TabOK.alloc)));rintro e Jy ⟨rfl,hb⟩;refine ⟨_,rfl,?_⟩;replace Ad:=rb_ Ad hb;replace Ac:=rb_ Ac hb;replace Aa:=rb_ Aa hb;replace Ag:=rb_ Ag hb;replace Af:=bz Af hb;replace Ae:=bz Ae hb;replace Ab:=bz Ab hb;replace Ah:=bz Ah hb;replace HB:=A_ (below_step bb_ hb);(try clear hb);(try clear hb2);(try clear hk);(try clear hi);have Hd : Jy.cell? ⟨At,0,none⟩ = some (.int .i64 Ak):=blk_cell Ab.out 0;have He : Jy.cell? ⟨At,1,none⟩ = some (.slice Ao24 Ai.length co24):=blk_cell Ab.out 1;have Hf:=blk_frozen Ab.out 0;have Hg:=blk_frozen Ab.out 1)|((with_reducible refine gate_callee (f:=61) rfl ?_);refine goesL_ (some 101) rfl rfl Tryd.func61 (by kernel_rfl) rfl #[.agg #[.int .i64 Ak,.slice Ao24 Ai.length co24]] rfl au_ ?_;(with_reducible refine (Aap.calls kj9 Ak _ _ Ai true _ ?side1 ?side2 ?side3 A82.out).mono ?_);(case side1=>exact cl_ (Kd.R_reads' Aa.out).2.2);(case side2=>exact (Kd.R_reads' Aa.out).2.1);(case side3=>first|exact HT.out|exact HT.out.below bb_|(repeat (first|exact HT.out|apply TabOK.drewN|apply TabOK.drew|apply TabOK.alloc)));rintro e Rz ⟨rfl,hb⟩;refine ⟨_,rfl,?_⟩;replace Ad:=rb_ Ad hb;replace Ac:=rb_ Ac hb;replace Aa:=rb_ Aa hb;replace Ag:=rb_ Ag hb;replace Af:=bz Af hb;replace Ae:=bz Ae hb;replace Ab:=bz Ab hb;replace Ah:=bz Ah hb;replace HB:=A_ (below_step bb_ hb);(try clear hb);(try clear hb2);(try clear hk);(try clear hi)))
          go_ret
          exact ⟨by first|rfl|(simp [errW_none,errW_some] <;> rfl)|(simp [*,errW_none,errW_some] <;> rfl),bb_⟩
        ·replace c84:=Bool.eq_false_iff.mpr c84;subst c84;have H1 : (some false) = some r:=by rw [if_neg (show ¬ (false = true) by decide)] at H;exact H
         clear H;have H:=H1;clear H1;obtain rfl:=Option.some.inj H;have Ou:=Cj.out;have Ov:=Ck.out;have Ow:=Bx.out;have Ox:=Cb.out;have Oy:=B0.out;have Oz:=Cd.out;have Hh : wc.cell? ⟨Bb,0,none⟩ = some (.int .i64 Ap):=blk_cell Af.out 0;have Hi : wc.cell? ⟨Bb,1,none⟩ = some (.slice Ao16 Am.length co16):=blk_cell Af.out 1;have Hj:=blk_frozen Af.out 0;have Hk:=blk_frozen Af.out 1;have O0:=Cc.out;have O1:=Bz.out;have O2:=B2.out;have O3:=Cf.out;have Hl : wc.cell? ⟨At,0,none⟩ = some (.int .i64 Ak):=blk_cell Ab.out 0;have Hm : wc.cell? ⟨At,1,none⟩ = some (.slice Ao24 Ai.length co24):=blk_cell Ab.out 1;have Hn:=blk_frozen Ab.out 0;have Ho:=blk_frozen Ab.out 1;go_wp2_with (first|((with_reducible refine gate_callee (f:=84) rfl ?_);refine goesL_ (some 91) rfl rfl Tryd.func84 (by kernel_rfl) rfl #[.agg #[.int .i64 Ap,.slice Ao16 Am.length co16],.agg #[.int .i64 Ak,.slice Ao24 Ai.length co24]] rfl au_ ?_;(with_reducible refine (Aaj.calls kj9 Ap _ _ Am Ak _ _ Ai Dx false _ ?side1 ?side2 ?side3 ?side4 ?side5 A80.out).mono ?_);(case side1=>exact cl_ (Kd.R_reads' Ad.out).2.2);(case side2=>exact (Kd.R_reads' Ad.out).2.1);(case side3=>exact cl_ (Kd.R_reads' Aa.out).2.2);(case side4=>exact (Kd.R_reads' Aa.out).2.1);(case side5=>first|exact HT.out|exact HT.out.below bb_|(repeat (first|exact HT.out|apply TabOK.drewN|apply TabOK.drew|apply TabOK.alloc)));rintro e Ix ⟨rfl,hb⟩;refine ⟨_,rfl,?_⟩;replace Ad:=rb_ Ad hb;replace Ac:=rb_ Ac hb;replace Aa:=rb_ Aa hb;replace Ag:=rb_ Ag hb;replace Af:=bz Af hb;replace Ae:=bz Ae hb;replace Ab:=bz Ab hb;replace Ah:=bz Ah hb;replace HB:=A_ (below_step bb_ hb);(try clear hb);(try clear hb2);(try clear hk);(try clear hi);have O4:=B1.out;have O5:=Ce.out;have Hp : Ix.cell? ⟨Ax,0,none⟩ = some (.int .i64 Ao):=blk_cell Ae.out 0;have Hq : Ix.cell? ⟨Ax,1,none⟩ = some (.slice Ao18 Al.length co18):=blk_cell Ae.out 1;have Hr:=blk_frozen Ae.out 0;have Hs:=blk_frozen Ae.out 1;have Ht : Ix.cell? ⟨At,0,none⟩ = some (.int .i64 Ak):=blk_cell Ab.out 0;have Hu : Ix.cell? ⟨At,1,none⟩ = some (.slice Ao24 Ai.length co24):=blk_cell Ab.out 1;have Hv:=blk_frozen Ab.out 0;have Hw:=blk_frozen Ab.out 1)|((with_reducible refine gate_callee (f:=84) rfl ?_);refine goesL_ (some 97) rfl rfl Tryd.func84 (by kernel_rfl) rfl #[.agg #[.int .i64 Ao,.slice Ao18 Al.length co18],.agg #[.int .i64 Ak,.slice Ao24 Ai.length co24]] rfl au_ ?_;(with_reducible refine (Aaj.calls kj9 Ao _ _ Al Ak _ _ Ai Do Du _ ?side1 ?side2 ?side3 ?side4 ?side5 A81.out).mono ?_);(case side1=>exact cl_ (Kd.R_reads' Ac.out).2.2);(case side2=>exact (Kd.R_reads' Ac.out).2.1);(case side3=>exact cl_ (Kd.R_reads' Aa.out).2.2);(case side4=>exact (Kd.R_reads' Aa.out).2.1);(case side5=>first|exact HT.out|exact HT.out.below bb_|(repeat (first|exact HT.out|apply TabOK.drewN|apply TabOK.drew|apply TabOK.alloc)));rintro e Jz ⟨rfl,hb⟩;refine ⟨_,rfl,?_⟩;replace Ad:=rb_ Ad hb;replace Ac:=rb_ Ac hb;replace Aa:=rb_ Aa hb;replace Ag:=rb_ Ag hb;replace Af:=bz Af hb;replace Ae:=bz Ae hb;replace Ab:=bz Ab hb;replace Ah:=bz Ah hb;replace HB:=A_ (below_step bb_ hb);(try clear hb);(try clear hb2);(try clear hk);(try clear hi);have Hx : Jz.cell? ⟨At,0,none⟩ = some (.int .i64 Ak):=blk_cell Ab.out 0;have Hy : Jz.cell? ⟨At,1,none⟩ = some (.slice Ao24 Ai.length co24):=blk_cell Ab.out 1;have Hz:=blk_frozen Ab.out 0;have H0:=blk_frozen Ab.out 1)|((with_reducible refine gate_callee (f:=61) rfl ?_);refine goesL_ (some 101) rfl rfl Tryd.func61 (by kernel_rfl) rfl #[.agg #[.int .i64 Ak,.slice Ao24 Ai.length co24]] rfl au_ ?_;(with_reducible refine (Aap.calls kj9 Ak _ _ Ai true _ ?side1 ?side2 ?side3 A82.out).mono ?_);(case side1=>exact cl_ (Kd.R_reads' Aa.out).2.2);(case side2=>exact (Kd.R_reads' Aa.out).2.1);(case side3=>first|exact HT.out|exact HT.out.below bb_|(repeat (first|exact HT.out|apply TabOK.drewN|apply TabOK.drew|apply TabOK.alloc)));rintro e R0 ⟨rfl,hb⟩;refine ⟨_,rfl,?_⟩;replace Ad:=rb_ Ad hb;replace Ac:=rb_ Ac hb;replace Aa:=rb_ Aa hb;replace Ag:=rb_ Ag hb;replace Af:=bz Af hb;replace Ae:=bz Ae hb;replace Ab:=bz Ab hb;replace Ah:=bz Ah hb;replace HB:=A_ (below_step bb_ hb);(try clear hb);(try clear hb2);(try clear hk);(try clear hi)))
         go_ret
         exact ⟨by first|rfl|(simp [errW_none,errW_some] <;> rfl)|(simp [*,errW_none,errW_some] <;> rfl),bb_⟩
       ·replace c83:=Bool.eq_false_iff.mpr c83;subst c83;have H1 : (some false) = some r:=by rw [if_neg (show ¬ (false = true) by decide)] at H;exact H
        clear H;have H:=H1;clear H1;obtain rfl:=Option.some.inj H;have O6:=Cj.out;have O7:=Ck.out;have O8:=Bx.out;have O9:=Cb.out;have Pa:=B0.out;have Pb:=Cd.out;have H2 : wc.cell? ⟨Bb,0,none⟩ = some (.int .i64 Ap):=blk_cell Af.out 0;have H3 : wc.cell? ⟨Bb,1,none⟩ = some (.slice Ao16 Am.length co16):=blk_cell Af.out 1;have H4:=blk_frozen Af.out 0;have H5:=blk_frozen Af.out 1;have Pc:=Cc.out;have Pd:=Bz.out;have Pe:=B2.out;have Pf:=Cf.out;have H6 : wc.cell? ⟨At,0,none⟩ = some (.int .i64 Ak):=blk_cell Ab.out 0;have H7 : wc.cell? ⟨At,1,none⟩ = some (.slice Ao24 Ai.length co24):=blk_cell Ab.out 1;have H8:=blk_frozen Ab.out 0;have H9:=blk_frozen Ab.out 1;go_wp2_with (first|((with_reducible refine gate_callee (f:=84) rfl ?_);refine goesL_ (some 91) rfl rfl Tryd.func84 (by kernel_rfl) rfl #[.agg #[.int .i64 Ap,.slice Ao16 Am.length co16],.agg #[.int .i64 Ak,.slice Ao24 Ai.length co24]] rfl au_ ?_;(with_reducible refine (Aaj.calls kj9 Ap _ _ Am Ak _ _ Ai Dx D4 _ ?side1 ?side2 ?side3 ?side4 ?side5 A80.out).mono ?_);(case side1=>exact cl_ (Kd.R_reads' Ad.out).2.2);(case side2=>exact (Kd.R_reads' Ad.out).2.1);(case side3=>exact cl_ (Kd.R_reads' Aa.out).2.2);(case side4=>exact (Kd.R_reads' Aa.out).2.1);(case side5=>first|exact HT.out|exact HT.out.below bb_|(repeat (first|exact HT.out|apply TabOK.drewN|apply TabOK.drew|apply TabOK.alloc)));rintro e Iy ⟨rfl,hb⟩;refine ⟨_,rfl,?_⟩;replace Ad:=rb_ Ad hb;replace Ac:=rb_ Ac hb;replace Aa:=rb_ Aa hb;replace Ag:=rb_ Ag hb;replace Af:=bz Af hb;replace Ae:=bz Ae hb;replace Ab:=bz Ab hb;replace Ah:=bz Ah hb;replace HB:=A_ (below_step bb_ hb);(try clear hb);(try clear hb2);(try clear hk);(try clear hi);have Pg:=B1.out;have Ph:=Ce.out;have Ia : Iy.cell? ⟨Ax,0,none⟩ = some (.int .i64 Ao):=blk_cell Ae.out 0;have Ib : Iy.cell? ⟨Ax,1,none⟩ = some (.slice Ao18 Al.length co18):=blk_cell Ae.out 1;have Ic:=blk_frozen Ae.out 0;have Id:=blk_frozen Ae.out 1;have Ie : Iy.cell? ⟨At,0,none⟩ = some (.int .i64 Ak):=blk_cell Ab.out 0;have If : Iy.cell? ⟨At,1,none⟩ = some (.slice Ao24 Ai.length co24):=blk_cell Ab.out 1;have Ig:=blk_frozen Ab.out 0;have Ih:=blk_frozen Ab.out 1)|((with_reducible refine gate_callee (f:=84) rfl ?_);refine goesL_ (some 97) rfl rfl Tryd.func84 (by kernel_rfl) rfl #[.agg #[.int .i64 Ao,.slice Ao18 Al.length co18],.agg #[.int .i64 Ak,.slice Ao24 Ai.length co24]] rfl au_ ?_;(with_reducible refine (Aaj.calls kj9 Ao _ _ Al Ak _ _ Ai Do Du _ ?side1 ?side2 ?side3 ?side4 ?side5 A81.out).mono ?_);(case side1=>exact cl_ (Kd.R_reads' Ac.out).2.2);(case side2=>exact (Kd.R_reads' Ac.out).2.1);(case side3=>exact cl_ (Kd.R_reads' Aa.out).2.2);(case side4=>exact (Kd.R_reads' Aa.out).2.1);(case side5=>first|exact HT.out|exact HT.out.below bb_|(repeat (first|exact HT.out|apply TabOK.drewN|apply TabOK.drew|apply TabOK.alloc)));rintro e J0 ⟨rfl,hb⟩;refine ⟨_,rfl,?_⟩;replace Ad:=rb_ Ad hb;replace Ac:=rb_ Ac hb;replace Aa:=rb_ Aa hb;replace Ag:=rb_ Ag hb;replace Af:=bz Af hb;replace Ae:=bz Ae hb;replace Ab:=bz Ab hb;replace Ah:=bz Ah hb;replace HB:=A_ (below_step bb_ hb);(try clear hb);(try clear hb2);(try clear hk);(try clear hi);have Ii : J0.cell? ⟨At,0,none⟩ = some (.int .i64 Ak):=blk_cell Ab.out 0;have Ij : J0.cell? ⟨At,1,none⟩ = some (.slice Ao24 Ai.length co24):=blk_cell Ab.out 1;have Ik:=blk_frozen Ab.out 0;have Il:=blk_frozen Ab.out 1)|((with_reducible refine gate_callee (f:=61) rfl ?_);refine goesL_ (some 101) rfl rfl Tryd.func61 (by kernel_rfl) rfl #[.agg #[.int .i64 Ak,.slice Ao24 Ai.length co24]] rfl au_ ?_;(with_reducible refine (Aap.calls kj9 Ak _ _ Ai false _ ?side1 ?side2 ?side3 A82.out).mono ?_);(case side1=>exact cl_ (Kd.R_reads' Aa.out).2.2);(case side2=>exact (Kd.R_reads' Aa.out).2.1);(case side3=>first|exact HT.out|exact HT.out.below bb_|(repeat (first|exact HT.out|apply TabOK.drewN|apply TabOK.drew|apply TabOK.alloc)));rintro e R1 ⟨rfl,hb⟩;refine ⟨_,rfl,?_⟩;replace Ad:=rb_ Ad hb;replace Ac:=rb_ Ac hb;replace Aa:=rb_ Aa hb;replace Ag:=rb_ Ag hb;replace Af:=bz Af hb;replace Ae:=bz Ae hb;replace Ab:=bz Ab hb;replace Ah:=bz Ah hb;replace HB:=A_ (below_step bb_ hb);(try clear hb);(try clear hb2);(try clear hk);(try clear hi)))
        go_ret
        exact ⟨by first|rfl|(simp [errW_none,errW_some] <;> rfl)|(simp [*,errW_none,errW_some] <;> rfl),bb_⟩
      ·replace c79:=Bool.eq_false_iff.mpr c79;subst c79;have H1 : (Aac.j1 kj9 l1) = some r:=by rw [if_neg (show ¬ (false = true) by decide)] at H;exact H
       clear H;have H:=H1;clear H1;have H':=A_ H;clear H;go_wp2
       go_meet
       case rel=>exact ⟨_,H',⟨by have:=HJ9.out;first|omega|exact Nat.le_refl _⟩,⟨rl_ Ad⟩,⟨rl_ Ac⟩,⟨rl_ Aa⟩,⟨rl_ Ag⟩,⟨bl_ Af⟩,⟨bl_ Ae⟩,⟨bl_ Ab⟩,⟨bl_ Ah⟩,⟨bb_⟩⟩
     case rest =>
      clear HC78;try clear c1
      try clear c2
      try clear p2
      try clear c3
      try clear c4
      try clear c5
      try clear c6
      try clear c7
      try clear c8
      try clear c9
      try clear c10
      try clear c11
      try clear c12
      try clear c13
      try clear c14
      try clear c15
      try clear c16
      try clear c17
      try clear c18
      try clear c21
      try clear c22
      try clear c25
      try clear c29
      try clear c30
      try clear c31
      try clear c40
      try clear c40b0
      try clear c40b1
      try clear c40b2
      try clear c42
      try clear c43
      try clear c43b0
      try clear c43b1
      try clear c43b2
      try clear c44
      try clear c45
      try clear c46
      try clear c48
      try clear c49
      try clear c52
      try clear c52b0
      try clear c52b1
      try clear c52b2
      try clear c53
      try clear c54
      try clear c55
      try clear c57
      try clear c58
      try clear c61
      try clear c62
      try clear c63
      try clear c65
      try clear c66
      try clear c69
      try clear c70
      try clear c71
      try clear c73
      try clear c74
      try clear c77
      try clear c79
      try clear c81
      try clear c82
      try clear c83
      try clear c84
      try clear c85
      try clear c86
      try clear c87
      try clear c89
      try clear c89b0
      try clear c89b1
      try clear c89b2
      try clear c90
      try clear c91
      try clear c92
      try clear c94
      try clear c95
      try clear c98
      try clear Kn
      try clear Ko
      try clear Kp
      try clear Kq
      try clear Kr
      try clear Ks
      try clear Kt
      try clear Ku
      try clear Kv
      try clear Kw
      try clear Kx
      try clear Ky
      try clear Kz
      try clear K0
      try clear K1
      try clear K2
      try clear K3
      try clear K4
      try clear K5
      try clear K6
      try clear K7
      try clear K8
      try clear K9
      try clear La
      try clear Lb
      try clear Lc
      try clear Ld
      try clear Le
      try clear Lf
      try clear Lg
      try clear Lh
      try clear Li
      try clear Lj
      try clear Lk
      try clear Ll
      try clear Lm
      try clear Ei
      try clear Ej
      try clear Em
      try clear En
      try clear Er
      try clear Es
      try clear Ew
      try clear Ex
      try clear E0
      try clear E1
      try clear E4
      try clear E5
      try clear E8
      try clear E9
      try clear Fc
      try clear Fd
      try clear Fg
      try clear Fh
      try clear Fk
      try clear Fl
      try clear Fo
      try clear Fp
      try clear Fs
      try clear Ft
      try clear Fw
      try clear Fx
      try clear F0
      try clear F1
      try clear F4
      try clear F5
      try clear F8
      try clear F9
      try clear Gc
      try clear Gd
      try clear Gg
      try clear Gh
      try clear Gk
      try clear Gl
      try clear Gp
      try clear Gq
      try clear Gt
      try clear Gu
      try clear Gx
      try clear Gy
      try clear G1
      try clear G2
      try clear hcz15_0
      try clear hcz15_1
      try clear G5
      try clear G6
      try clear G9
      try clear Ha
      try clear Hd
      try clear He
      try clear Hh
      try clear Hi
      try clear Hl
      try clear Hm
      try clear Hp
      try clear Hq
      try clear Ht
      try clear Hu
      try clear Hx
      try clear Hy
      try clear hcz17_0
      try clear hcz17_1
      try clear H2
      try clear H3
      try clear H6
      try clear H7
      try clear Ia
      try clear Ib
      try clear Ie
      try clear If
      try clear Ii
      try clear Ij
      try clear hcz23_0
      try clear hcz23_1
      try clear hcz25_0
      try clear hcz25_1
      try clear hcz26_0
      try clear hcz26_1
      try clear hcz32_0
      try clear hcz32_1
      try clear hcz34_0
      try clear hcz34_1
      try clear hcz35_0
      try clear hcz35_1
      try clear hcz37_0
      try clear hcz37_1
      try clear hcz38_0
      try clear hcz38_1
      try clear hcz47_0
      try clear hcz47_1
      try clear hcz50_0
      try clear hcz50_1
      try clear hcz56_0
      try clear hcz56_1
      try clear hcz59_0
      try clear hcz59_1
      try clear hcz64_0
      try clear hcz64_1
      try clear hcz67_0
      try clear hcz67_1
      try clear hcz72_0
      try clear hcz72_1
      try clear hcz75_0
      try clear hcz75_1
      try clear hcz93_0
      try clear hcz93_1
      try clear hcz96_0
      try clear hcz96_1
      try clear hcz99_0
      try clear hcz99_1
      try clear Ek
      try clear El
      try clear Eo
      try clear Ep
      try clear Et
      try clear Eu
      try clear Ey
      try clear Ez
      try clear E2
      try clear E3
      try clear E6
      try clear E7
      try clear Fa
      try clear Fb
      try clear Fe
      try clear Ff
      try clear Fi
      try clear Fj
      try clear Fm
      try clear Fn
      try clear Fq
      try clear Fr
      try clear Fu
      try clear Fv
      try clear Fy
      try clear Fz
      try clear F2
      try clear F3
      try clear F6
      try clear F7
      try clear Ga
      try clear Gb
      try clear Ge
      try clear Gf
      try clear Gi
      try clear Gj
      try clear Gm
      try clear Gn
      try clear Gr
      try clear Gs
      try clear Gv
      try clear Gw
      try clear Gz
      try clear G0
      try clear G3
      try clear G4
      try clear hfz15_0
      try clear hfz15_1
      try clear G7
      try clear G8
      try clear Hb
      try clear Hc
      try clear Hf
      try clear Hg
      try clear Hj
      try clear Hk
      try clear Hn
      try clear Ho
      try clear Hr
      try clear Hs
      try clear Hv
      try clear Hw
      try clear Hz
      try clear H0
      try clear hfz17_0
      try clear hfz17_1
      try clear H4
      try clear H5
      try clear H8
      try clear H9
      try clear Ic
      try clear Id
      try clear Ig
      try clear Ih
      try clear Ik
      try clear Il
      try clear hfz23_0
      try clear hfz23_1
      try clear hfz25_0
      try clear hfz25_1
      try clear hfz26_0
      try clear hfz26_1
      try clear hfz32_0
      try clear hfz32_1
      try clear hfz34_0
      try clear hfz34_1
      try clear hfz35_0
      try clear hfz35_1
      try clear hfz37_0
      try clear hfz37_1
      try clear hfz38_0
      try clear hfz38_1
      try clear hfz47_0
      try clear hfz47_1
      try clear hfz50_0
      try clear hfz50_1
      try clear hfz56_0
      try clear hfz56_1
      try clear hfz59_0
      try clear hfz59_1
      try clear hfz64_0
      try clear hfz64_1
      try clear hfz67_0
      try clear hfz67_1
      try clear hfz72_0
      try clear hfz72_1
      try clear hfz75_0
      try clear hfz75_1
      try clear hfz93_0
      try clear hfz93_1
      try clear hfz96_0
      try clear hfz96_1
      try clear hfz99_0
      try clear hfz99_1
      try clear p2
      obtain ⟨kq,HA,HJ77,Ad,Ac,Aa,Ag,Af,Ae,Ab,Ah,HB⟩:=hcut;cases kq with
      | zero=>exact absurd HA.out (by simp [Aac.j1])
      | succ kj77 =>
       have H:=HA.out;clear HA;simp only [Aac.j1] at H
       replace H:=Option.bind_eq_some_iff.mp H;obtain ⟨⟨Bg,Dy⟩,Jf,H⟩:=H;replace H : ((Aak.f kj77 Bg Dy).bind fun D0=>((Aal.f kj77 Bg Dy).bind fun D3=>(if (D0.2 != D3.2) = true then (Aac.j2 kj77 Bg D0.1 D0.2 true) else ((Aa8.f kj77 D0.1 D3.1).bind fun Dv=>(Aac.j2 kj77 Bg D0.1 D0.2 (!Dv)))))) = some r:=H;have Ln:=A_ Jf;clear Jf;replace H:=Option.bind_eq_some_iff.mp H;obtain ⟨⟨Bu,Cw⟩,Jg,H⟩:=H;replace H : ((Aal.f kj77 Bg Dy).bind fun D3=>(if (Cw != D3.2) = true then (Aac.j2 kj77 Bg Bu Cw true) else ((Aa8.f kj77 Bu D3.1).bind fun Dv=>(Aac.j2 kj77 Bg Bu Cw (!Dv))))) = some r:=H;have Lo:=A_ Jg;clear Jg;replace H:=Option.bind_eq_some_iff.mp H;obtain ⟨⟨Iz,Dq⟩,Jh,H⟩:=H;replace H : (if (Cw != Dq) = true then (Aac.j2 kj77 Bg Bu Cw true) else ((Aa8.f kj77 Bu Iz).bind fun Dv=>(Aac.j2 kj77 Bg Bu Cw (!Dv)))) = some r:=H;have Lp:=A_ Jh;clear Jh;have I0:=A_ H;clear H;go_upto_region 18 with (first|((with_reducible refine gate_callee (f:=86) rfl ?_);refine goesL_ (some 128) rfl rfl Tryd.func86 (by kernel_rfl) rfl #[.slice A1 l1.length c1] rfl au_ ?_;(with_reducible refine (Abp.calls kj77 _ _ l1 Bg Dy _ ?side1 ?side2 Ln.out).mono ?_);(case side1=>exact cl_ (Kd.C_below HR1.out HB.out));(case side2=>exact HC1.out);rintro e R2 ⟨Rm,Rn,rfl,ho0,ho1,hb⟩;refine ⟨_,rfl,?_⟩;have C9:=A_ (Kd.R_lower (Kd.R_new' (Kd.R_new' (Kd.R_new' (Kd.R_new' ho0 (Kd.R_lt (rl_ Ad))) (Kd.R_lt (rl_ Ac))) (Kd.R_lt (rl_ Aa))) (Kd.R_lt (rl_ Ag))) (below_size bb_));have De:=A_ (Kd.R_lower (Kd.R_new' (Kd.R_new' (Kd.R_new' (Kd.R_new' ho1 (Kd.R_lt (rl_ Ad))) (Kd.R_lt (rl_ Ac))) (Kd.R_lt (rl_ Aa))) (Kd.R_lt (rl_ Ag))) (below_size bb_));replace Ad:=A_ (Kd.R_mono (Kd.R_told (Kd.R_told (Kd.R_old (rl_ Ad) hb) (Kd.R_base ho0)) (Kd.R_base ho1)) (fun _ h_=>h_.1));replace Ac:=A_ (Kd.R_mono (Kd.R_told (Kd.R_told (Kd.R_old (rl_ Ac) hb) (Kd.R_base ho0)) (Kd.R_base ho1)) (fun _ h_=>h_.1));replace Aa:=A_ (Kd.R_mono (Kd.R_told (Kd.R_told (Kd.R_old (rl_ Aa) hb) (Kd.R_base ho0)) (Kd.R_base ho1)) (fun _ h_=>h_.1));replace Ag:=A_ (Kd.R_mono (Kd.R_told (Kd.R_told (Kd.R_old (rl_ Ag) hb) (Kd.R_base ho0)) (Kd.R_base ho1)) (fun _ h_=>h_.1));replace Af:=bz Af hb;replace Ae:=bz Ae hb;replace Ab:=bz Ab hb;replace Ah:=bz Ah hb;replace HB:=A_ (below_step bb_ hb);(try clear hb);(try clear hb2);(try clear hk);(try clear hi);(try clear ho0);(try clear ho1);obtain ⟨Cv,Ci,J5⟩:=Kd.R_slice C9.out;subst J5;obtain ⟨Ji,Jj,J6⟩:=Kd.R_slice De.out;subst J6)|((with_reducible refine gate_callee (f:=87) rfl ?_);refine goesL_ (some 134) rfl rfl Tryd.func87 (by kernel_rfl) rfl #[.slice Cv Bg.length Ci,.slice Ji Dy.length Jj] rfl au_ ?_;(with_reducible refine (Aak.calls kj77 _ _ Bg _ _ Dy Bu Cw _ ?side1 ?side2 ?side3 ?side4 Lo.out).mono ?_);(case side1=>exact cl_ (Kd.R_reads' C9.out).2.2);(case side2=>exact (Kd.R_reads' C9.out).2.1);(case side3=>exact cl_ (Kd.R_reads' De.out).2.2);(case side4=>exact (Kd.R_reads' De.out).2.1);rintro e R3 ⟨D5,rfl,ho0,hb⟩;refine ⟨_,rfl,?_⟩;have Ds:=A_ (Kd.R_lower (Kd.R_new' (Kd.R_new' (Kd.R_new' (Kd.R_new' (Kd.R_new' (Kd.R_new' ho0 (Kd.R_lt (rl_ Ad))) (Kd.R_lt (rl_ Ac))) (Kd.R_lt (rl_ Aa))) (Kd.R_lt (rl_ Ag))) (Kd.R_lt (rl_ C9))) (Kd.R_lt (rl_ De))) (below_size bb_));replace Ad:=A_ (Kd.R_elder' (rl_ Ad) (Kd.R_base ho0) hb);replace Ac:=A_ (Kd.R_elder' (rl_ Ac) (Kd.R_base ho0) hb);replace Aa:=A_ (Kd.R_elder' (rl_ Aa) (Kd.R_base ho0) hb);replace Ag:=A_ (Kd.R_elder' (rl_ Ag) (Kd.R_base ho0) hb);replace C9:=A_ (Kd.R_elder' (rl_ C9) (Kd.R_base ho0) hb);replace De:=A_ (Kd.R_elder' (rl_ De) (Kd.R_base ho0) hb);replace Af:=bz Af hb;replace Ae:=bz Ae hb;replace Ab:=bz Ab hb;replace Ah:=bz Ah hb;replace HB:=A_ (below_step bb_ hb);(try clear hb);(try clear hb2);(try clear hk);(try clear hi);(try clear ho0))|((with_reducible refine gate_callee (f:=88) rfl ?_);refine goesL_ (some 140) rfl rfl Tryd.func88 (by kernel_rfl) rfl #[.slice Cv Bg.length Ci,.slice Ji Dy.length Jj] rfl au_ ?_;(with_reducible refine (Aal.calls kj77 _ _ Bg _ _ Dy Iz Dq _ ?side1 ?side2 ?side3 ?side4 Lp.out).mono ?_);(case side1=>exact cl_ (Kd.R_reads' C9.out).2.2);(case side2=>exact (Kd.R_reads' C9.out).2.1);(case side3=>exact cl_ (Kd.R_reads' De.out).2.2);(case side4=>exact (Kd.R_reads' De.out).2.1);rintro e R4 ⟨Ro,rfl,ho0,hb⟩;refine ⟨_,rfl,?_⟩;have Im:=A_ (Kd.R_lower (Kd.R_new' (Kd.R_new' (Kd.R_new' (Kd.R_new' (Kd.R_new' (Kd.R_new' (Kd.R_new' ho0 (Kd.R_lt (rl_ Ad))) (Kd.R_lt (rl_ Ac))) (Kd.R_lt (rl_ Aa))) (Kd.R_lt (rl_ Ag))) (Kd.R_lt (rl_ C9))) (Kd.R_lt (rl_ De))) (Kd.R_lt (rl_ Ds))) (below_size bb_));replace Ad:=A_ (Kd.R_elder' (rl_ Ad) (Kd.R_base ho0) hb);replace Ac:=A_ (Kd.R_elder' (rl_ Ac) (Kd.R_base ho0) hb);replace Aa:=A_ (Kd.R_elder' (rl_ Aa) (Kd.R_base ho0) hb);replace Ag:=A_ (Kd.R_elder' (rl_ Ag) (Kd.R_base ho0) hb);replace C9:=A_ (Kd.R_elder' (rl_ C9) (Kd.R_base ho0) hb);replace De:=A_ (Kd.R_elder' (rl_ De) (Kd.R_base ho0) hb);replace Ds:=A_ (Kd.R_elder' (rl_ Ds) (Kd.R_base ho0) hb);replace Af:=bz Af hb;replace Ae:=bz Ae hb;replace Ab:=bz Ab hb;replace Ah:=bz Ah hb;replace HB:=A_ (below_step bb_ hb);(try clear hb);(try clear hb2);(try clear hk);(try clear hi);(try clear ho0)))
       (try simp only [Act.put,L_,M_,N_]);go_cut [151] (fun Lq wc=>∃ (kq : Nat) (D1 : Bool),Lq = .bool D1 ∧ Aside0 (Aac.j2 kq Bg Bu Cw D1 = some r) ∧ Aside0 (kq ≤ kj77) ∧ Aside0 (Kd.R (Kd.int .i64) 3 wc w.heap.size (fun k_=>some k_ ≠ (D5 : Value).ownBlock ∧ some k_ ≠ ((.slice Ao16 Am.length co16) : Value).ownBlock ∧ some k_ ≠ ((.slice Ao18 Al.length co18) : Value).ownBlock ∧ some k_ ≠ ((.slice Ao24 Ai.length co24) : Value).ownBlock ∧ some k_ ≠ ((.slice Ao33 Az.length co33) : Value).ownBlock) (.slice Cv Bg.length Ci) Bg) ∧ Aside0 (Kd.R (Kd.int .i64) 3 wc w.heap.size (fun k_=>some k_ ≠ ((.slice Cv Bg.length Ci) : Value).ownBlock ∧ some k_ ≠ ((.slice Ao16 Am.length co16) : Value).ownBlock ∧ some k_ ≠ ((.slice Ao18 Al.length co18) : Value).ownBlock ∧ some k_ ≠ ((.slice Ao24 Ai.length co24) : Value).ownBlock ∧ some k_ ≠ ((.slice Ao33 Az.length co33) : Value).ownBlock) D5 Bu) ∧ Aside0 (Kd.R (Kd.int .i64) 3 wc w.heap.size (fun k_=>some k_ ≠ ((.slice Cv Bg.length Ci) : Value).ownBlock ∧ some k_ ≠ (D5 : Value).ownBlock ∧ some k_ ≠ ((.slice Ao18 Al.length co18) : Value).ownBlock ∧ some k_ ≠ ((.slice Ao24 Ai.length co24) : Value).ownBlock ∧ some k_ ≠ ((.slice Ao33 Az.length co33) : Value).ownBlock) (.slice Ao16 Am.length co16) Am) ∧ Aside0 (Kd.R (Kd.int .i64) 3 wc w.heap.size (fun k_=>some k_ ≠ ((.slice Cv Bg.length Ci) : Value).ownBlock ∧ some k_ ≠ (D5 : Value).ownBlock ∧ some k_ ≠ ((.slice Ao16 Am.length co16) : Value).ownBlock ∧ some k_ ≠ ((.slice Ao24 Ai.length co24) : Value).ownBlock ∧ some k_ ≠ ((.slice Ao33 Az.length co33) : Value).ownBlock) (.slice Ao18 Al.length co18) Al) ∧ Aside0 (Kd.R (Kd.int .i64) 3 wc w.heap.size (fun k_=>some k_ ≠ ((.slice Cv Bg.length Ci) : Value).ownBlock ∧ some k_ ≠ (D5 : Value).ownBlock ∧ some k_ ≠ ((.slice Ao16 Am.length co16) : Value).ownBlock ∧ some k_ ≠ ((.slice Ao18 Al.length co18) : Value).ownBlock ∧ some k_ ≠ ((.slice Ao33 Az.length co33) : Value).ownBlock) (.slice Ao24 Ai.length co24) Ai) ∧ Aside0 (Kd.R (Kd.int .i64) 3 wc w.heap.size (fun k_=>some k_ ≠ ((.slice Cv Bg.length Ci) : Value).ownBlock ∧ some k_ ≠ (D5 : Value).ownBlock ∧ some k_ ≠ ((.slice Ao16 Am.length co16) : Value).ownBlock ∧ some k_ ≠ ((.slice Ao18 Al.length co18) : Value).ownBlock ∧ some k_ ≠ ((.slice Ao24 Ai.length co24) : Value).ownBlock) (.slice Ao33 Az.length co33) Az) ∧ Aside0 (wc.heap[Bb]? = some (.cells #[.int .i64 Ap,(.slice Ao16 Am.length co16)] 28 (0,0))) ∧ Aside0 (wc.heap[Ax]? = some (.cells #[.int .i64 Ao,(.slice Ao18 Al.length co18)] 28 (0,0))) ∧ Aside0 (wc.heap[At]? = some (.cells #[.int .i64 Ak,(.slice Ao24 Ai.length co24)] 28 (0,0))) ∧ Aside0 (wc.heap[Cg]? = some (.cells #[.int .i64 B4,(.slice Ao33 Az.length co33)] 28 (0,0))) ∧ Aside0 (Below w.heap.size w wc))
       case first =>
        have H:=I0.out;clear I0;by_cases Dt : (Cw != Dq) = true
        ·rw [if_pos Dt] at H;have c203b0 : (Cw != Dq) = true:=Dt;(try (have c203b1 : decide (Cw = Dq) = false:=by simpa using Dt));(try (have c203b2 : (Cw == Dq) = false:=by simpa using Dt));(try (have c203b3 : ¬ (Cw = Dq):=by simpa using Dt));clear Dt;(first|rw [c203b0]|(simp only [i64_w,i32_w];rw [c203b0])|skip)
         have H':=A_ H;clear H;go_wp2
         go_meet
         case rel=>exact ⟨_,(true),(by first|rfl|(simp;done)|(simp [*];done)),H',⟨by have:=HJ9.out;have:=HJ77.out;first|omega|exact Nat.le_refl _⟩,⟨rq_ (Kd.R_mono C9.out (fun _ hk=>⟨hk.1.2,⟨hk.1.1.1.1.1.2,⟨hk.1.1.1.1.2,⟨hk.1.1.1.2,hk.1.1.2⟩⟩⟩⟩))⟩,⟨rq_ (Kd.R_mono Ds.out (fun _ hk=>⟨hk.1.1.2,⟨hk.1.1.1.1.1.1.2,⟨hk.1.1.1.1.1.2,⟨hk.1.1.1.1.2,hk.1.1.1.2⟩⟩⟩⟩))⟩,⟨rq_ (Kd.R_mono Ad.out (fun _ hk=>⟨hk.1.1.1.2,⟨hk.1.2,⟨hk.1.1.1.1.1,⟨hk.1.1.1.1.2.1,hk.1.1.1.1.2.2⟩⟩⟩⟩))⟩,⟨rq_ (Kd.R_mono Ac.out (fun _ hk=>⟨hk.1.1.1.2,⟨hk.1.2,⟨hk.1.1.1.1.1,⟨hk.1.1.1.1.2.1,hk.1.1.1.1.2.2⟩⟩⟩⟩))⟩,⟨rq_ (Kd.R_mono Aa.out (fun _ hk=>⟨hk.1.1.1.2,⟨hk.1.2,⟨hk.1.1.1.1.1,⟨hk.1.1.1.1.2.1,hk.1.1.1.1.2.2⟩⟩⟩⟩))⟩,⟨rq_ (Kd.R_mono Ag.out (fun _ hk=>⟨hk.1.1.1.2,⟨hk.1.2,⟨hk.1.1.1.1.1,⟨hk.1.1.1.1.2.1,hk.1.1.1.1.2.2⟩⟩⟩⟩))⟩,⟨bl_ Af⟩,⟨bl_ Ae⟩,⟨bl_ Ab⟩,⟨bl_ Ah⟩,⟨bb_⟩⟩
        ·rw [if_neg Dt] at H;have c203b0 : (Cw != Dq) = false:=by simpa using Dt
         (try (have c203b1 : decide (Cw = Dq) = true:=by simpa using Dt));(try (have c203b2 : (Cw == Dq) = true:=by simpa using Dt));clear Dt;(first|rw [c203b0]|(simp only [i64_w,i32_w];rw [c203b0])|skip)
         replace H:=Option.bind_eq_some_iff.mp H;obtain ⟨Dv,Jk,H⟩:=H;replace H : (Aac.j2 kj77 Bg Bu Cw (!Dv)) = some r:=H;have Lr:=A_ Jk;clear Jk;have H':=A_ H;clear H;obtain ⟨Rp,Rq,J7⟩:=Kd.R_slice Ds.out;subst J7;obtain ⟨Rs,Rt,J8⟩:=Kd.R_slice Im.out;subst J8;go_wp2_with (first|(go_at_call 33;(with_reducible refine (Aa8.calls kj77 _ _ Bu _ _ Iz Dv _ ?side1 ?side2 ?side3 ?side4 Lr.out).mono ?_);(case side1=>exact cl_ (Kd.R_reads' Ds.out).2.2);(case side2=>exact (Kd.R_reads' Ds.out).2.1);(case side3=>exact cl_ (Kd.R_reads' Im.out).2.2);(case side4=>exact (Kd.R_reads' Im.out).2.1);rintro e w' ⟨rfl,⟨nd,rfl⟩⟩))
         go_meet
         case rel=>exact ⟨_,(!Dv),(by first|rfl|(simp;done)|(simp [*];done)),H',⟨by have:=HJ9.out;have:=HJ77.out;first|omega|exact Nat.le_refl _⟩,⟨rq_ (Kd.R_mono C9.out (fun _ hk=>⟨hk.1.2,⟨hk.1.1.1.1.1.2,⟨hk.1.1.1.1.2,⟨hk.1.1.1.2,hk.1.1.2⟩⟩⟩⟩))⟩,⟨rq_ (Kd.R_mono Ds.out (fun _ hk=>⟨hk.1.1.2,⟨hk.1.1.1.1.1.1.2,⟨hk.1.1.1.1.1.2,⟨hk.1.1.1.1.2,hk.1.1.1.2⟩⟩⟩⟩))⟩,⟨rq_ (Kd.R_mono Ad.out (fun _ hk=>⟨hk.1.1.1.2,⟨hk.1.2,⟨hk.1.1.1.1.1,⟨hk.1.1.1.1.2.1,hk.1.1.1.1.2.2⟩⟩⟩⟩))⟩,⟨rq_ (Kd.R_mono Ac.out (fun _ hk=>⟨hk.1.1.1.2,⟨hk.1.2,⟨hk.1.1.1.1.1,⟨hk.1.1.1.1.2.1,hk.1.1.1.1.2.2⟩⟩⟩⟩))⟩,⟨rq_ (Kd.R_mono Aa.out (fun _ hk=>⟨hk.1.1.1.2,⟨hk.1.2,⟨hk.1.1.1.1.1,⟨hk.1.1.1.1.2.1,hk.1.1.1.1.2.2⟩⟩⟩⟩))⟩,⟨rq_ (Kd.R_mono Ag.out (fun _ hk=>⟨hk.1.1.1.2,⟨hk.1.2,⟨hk.1.1.1.1.1,⟨hk.1.1.1.1.2.1,hk.1.1.1.1.2.2⟩⟩⟩⟩))⟩,⟨bl_ Af⟩,⟨bl_ Ae⟩,⟨bl_ Ab⟩,⟨bl_ Ah⟩,⟨bb_⟩⟩
       case rest =>
        clear I0;try clear c1
        try clear c2
        try clear p2
        try clear c3
        try clear c4
        try clear c5
        try clear c6
        try clear c7
        try clear c8
        try clear c9
        try clear c10
        try clear c11
        try clear c12
        try clear c13
        try clear c14
        try clear c15
        try clear c16
        try clear c17
        try clear c18
        try clear c20
        try clear c21
        try clear c22
        try clear c25
        try clear c29
        try clear c30
        try clear c31
        try clear c40
        try clear c40b0
        try clear c40b1
        try clear c40b2
        try clear c42
        try clear c43
        try clear c43b0
        try clear c43b1
        try clear c43b2
        try clear c44
        try clear c45
        try clear c46
        try clear c48
        try clear c49
        try clear c52
        try clear c52b0
        try clear c52b1
        try clear c52b2
        try clear c53
        try clear c54
        try clear c55
        try clear c57
        try clear c58
        try clear c61
        try clear c62
        try clear c63
        try clear c65
        try clear c66
        try clear c69
        try clear c70
        try clear c71
        try clear c73
        try clear c74
        try clear c77
        try clear c79
        try clear c81
        try clear c82
        try clear c83
        try clear c84
        try clear c85
        try clear c86
        try clear c87
        try clear c88
        try clear c89
        try clear c89b0
        try clear c89b1
        try clear c89b2
        try clear c90
        try clear c91
        try clear c92
        try clear c94
        try clear c95
        try clear c98
        try clear Kn
        try clear Ko
        try clear Kp
        try clear Kq
        try clear Kr
        try clear Ks
        try clear Kt
        try clear Ku
        try clear Kv
        try clear Kw
        try clear Kx
        try clear Ky
        try clear Kz
        try clear K0
        try clear K1
        try clear K2
        try clear K3
        try clear K4
        try clear K5
        try clear K6
        try clear K7
        try clear K8
        try clear K9
        try clear La
        try clear Lb
        try clear Lc
        try clear Ld
        try clear Le
        try clear Lf
        try clear Lg
        try clear Lh
        try clear Li
        try clear Lj
        try clear Lk
        try clear Ll
        try clear Lm
        try clear Dt
        try clear c203b0
        try clear c203b1
        try clear c203b2
        try clear Ei
        try clear Ej
        try clear Em
        try clear En
        try clear Er
        try clear Es
        try clear Ew
        try clear Ex
        try clear E0
        try clear E1
        try clear E4
        try clear E5
        try clear E8
        try clear E9
        try clear Fc
        try clear Fd
        try clear Fg
        try clear Fh
        try clear Fk
        try clear Fl
        try clear Fo
        try clear Fp
        try clear Fs
        try clear Ft
        try clear Fw
        try clear Fx
        try clear F0
        try clear F1
        try clear F4
        try clear F5
        try clear F8
        try clear F9
        try clear Gc
        try clear Gd
        try clear Gg
        try clear Gh
        try clear Gk
        try clear Gl
        try clear Gp
        try clear Gq
        try clear Gt
        try clear Gu
        try clear Gx
        try clear Gy
        try clear G1
        try clear G2
        try clear hcz15_0
        try clear hcz15_1
        try clear G5
        try clear G6
        try clear G9
        try clear Ha
        try clear Hd
        try clear He
        try clear Hh
        try clear Hi
        try clear Hl
        try clear Hm
        try clear Hp
        try clear Hq
        try clear Ht
        try clear Hu
        try clear Hx
        try clear Hy
        try clear hcz17_0
        try clear hcz17_1
        try clear H2
        try clear H3
        try clear H6
        try clear H7
        try clear Ia
        try clear Ib
        try clear Ie
        try clear If
        try clear Ii
        try clear Ij
        try clear hcz23_0
        try clear hcz23_1
        try clear hcz25_0
        try clear hcz25_1
        try clear hcz26_0
        try clear hcz26_1
        try clear hcz32_0
        try clear hcz32_1
        try clear hcz34_0
        try clear hcz34_1
        try clear hcz35_0
        try clear hcz35_1
        try clear hcz37_0
        try clear hcz37_1
        try clear hcz38_0
        try clear hcz38_1
        try clear hcz47_0
        try clear hcz47_1
        try clear hcz50_0
        try clear hcz50_1
        try clear hcz56_0
        try clear hcz56_1
        try clear hcz59_0
        try clear hcz59_1
        try clear hcz64_0
        try clear hcz64_1
        try clear hcz67_0
        try clear hcz67_1
        try clear hcz72_0
        try clear hcz72_1
        try clear hcz75_0
        try clear hcz75_1
        try clear hcz93_0
        try clear hcz93_1
        try clear hcz96_0
        try clear hcz96_1
        try clear hcz99_0
        try clear hcz99_1
        try clear Ek
        try clear El
        try clear Eo
        try clear Ep
        try clear Et
        try clear Eu
        try clear Ey
        try clear Ez
        try clear E2
        try clear E3
        try clear E6
        try clear E7
        try clear Fa
        try clear Fb
        try clear Fe
        try clear Ff
        try clear Fi
        try clear Fj
        try clear Fm
        try clear Fn
        try clear Fq
        try clear Fr
        try clear Fu
        try clear Fv
        try clear Fy
        try clear Fz
        try clear F2
        try clear F3
        try clear F6
        try clear F7
        try clear Ga
        try clear Gb
        try clear Ge
        try clear Gf
        try clear Gi
        try clear Gj
        try clear Gm
        try clear Gn
        try clear Gr
        try clear Gs
        try clear Gv
        try clear Gw
        try clear Gz
        try clear G0
        try clear G3
        try clear G4
        try clear hfz15_0
        try clear hfz15_1
        try clear G7
        try clear G8
        try clear Hb
        try clear Hc
        try clear Hf
        try clear Hg
        try clear Hj
        try clear Hk
        try clear Hn
        try clear Ho
        try clear Hr
        try clear Hs
        try clear Hv
        try clear Hw
        try clear Hz
        try clear H0
        try clear hfz17_0
        try clear hfz17_1
        try clear H4
        try clear H5
        try clear H8
        try clear H9
        try clear Ic
        try clear Id
        try clear Ig
        try clear Ih
        try clear Ik
        try clear Il
        try clear hfz23_0
        try clear hfz23_1
        try clear hfz25_0
        try clear hfz25_1
        try clear hfz26_0
        try clear hfz26_1
        try clear hfz32_0
        try clear hfz32_1
        try clear hfz34_0
        try clear hfz34_1
        try clear hfz35_0
        try clear hfz35_1
        try clear hfz37_0
        try clear hfz37_1
        try clear hfz38_0
        try clear hfz38_1
        try clear hfz47_0
        try clear hfz47_1
        try clear hfz50_0
        try clear hfz50_1
        try clear hfz56_0
        try clear hfz56_1
        try clear hfz59_0
        try clear hfz59_1
        try clear hfz64_0
        try clear hfz64_1
        try clear hfz67_0
        try clear hfz67_1
        try clear hfz72_0
        try clear hfz72_1
        try clear hfz75_0
        try clear hfz75_1
        try clear hfz93_0
        try clear hfz93_1
        try clear hfz96_0
        try clear hfz96_1
        try clear hfz99_0
        try clear hfz99_1
        try clear p2
        obtain ⟨kq,D1,rfl,HA,Ru,HO_19,HO_21,Ad,Ac,Aa,Ag,Af,Ae,Ab,Ah,HB⟩:=hcut;cases kq with
        | zero=>exact absurd HA.out (by simp [Aac.j2])
        | succ Cq =>
         have H:=HA.out;clear HA;simp only [Aac.j2] at H
         by_cases I1 : D1 = true
         ·subst I1;have H1 : (some false) = some r:=by rw [if_pos rfl] at H;exact H
          clear H;have H:=H1;clear H1;obtain rfl:=Option.some.inj H;go_wp2
          go_ret
          exact ⟨by first|rfl|(simp [errW_none,errW_some] <;> rfl)|(simp [*,errW_none,errW_some] <;> rfl),bb_⟩
         ·replace I1:=Bool.eq_false_iff.mpr I1;subst I1;have H1 : (if Cw = true then ((Aa0.f Cq Bu).bind fun Dw=>((Aa0.f Cq Bg).bind fun Df=>((Aaj.f Cq Dw.1 Dw.2.1 Df.1 Df.2.1).bind fun Dg=>(if Dw.2.2 = true then (if Df.2.2 = true then (if Dg.2 = true then (some Dg.1) else (some false)) else (some false)) else (some false))))) else (some true)) = some r:=by rw [if_neg (show ¬ (false = true) by decide)] at H;exact H
          clear H;have H:=H1;clear H1;by_cases I2 : Cw = true
          ·subst I2;have H1 : ((Aa0.f Cq Bu).bind fun Dw=>((Aa0.f Cq Bg).bind fun Df=>((Aaj.f Cq Dw.1 Dw.2.1 Df.1 Df.2.1).bind fun Dg=>(if Dw.2.2 = true then (if Df.2.2 = true then (if Dg.2 = true then (some Dg.1) else (some false)) else (some false)) else (some false))))) = some r:=by rw [if_pos rfl] at H;exact H
           clear H;have H:=H1;clear H1;replace H:=Option.bind_eq_some_iff.mp H;obtain ⟨⟨As,Aq,D9⟩,Jl,H⟩:=H;replace H : ((Aa0.f Cq Bg).bind fun Df=>((Aaj.f Cq As Aq Df.1 Df.2.1).bind fun Dg=>(if D9 = true then (if Df.2.2 = true then (if Dg.2 = true then (some Dg.1) else (some false)) else (some false)) else (some false)))) = some r:=H;have I3:=A_ Jl;clear Jl;replace H:=Option.bind_eq_some_iff.mp H;obtain ⟨⟨Ba,Av,D7⟩,Jm,H⟩:=H;replace H : ((Aaj.f Cq As Aq Ba Av).bind fun Dg=>(if D9 = true then (if D7 = true then (if Dg.2 = true then (some Dg.1) else (some false)) else (some false)) else (some false))) = some r:=H;have I4:=A_ Jm;clear Jm;replace H:=Option.bind_eq_some_iff.mp H;obtain ⟨⟨Dz,D6⟩,Jn,H⟩:=H;replace H : (if D9 = true then (if D7 = true then (if D6 = true then (some Dz) else (some false)) else (some false)) else (some false)) = some r:=H;have I5:=A_ Jn;clear Jn;by_cases I6 : D9 = true
           ·subst I6;have H1 : (if D7 = true then (if D6 = true then (some Dz) else (some false)) else (some false)) = some r:=by rw [if_pos rfl] at H;exact H
            clear H;have H:=H1;clear H1;by_cases I7 : D7 = true
            ·subst I7;have H1 : (if D6 = true then (some Dz) else (some false)) = some r:=by rw [if_pos rfl] at H;exact H
             clear H;have H:=H1;clear H1;by_cases I8 : D6 = true
             ·subst I8;have H1 : (some Dz) = some r:=by rw [if_pos rfl] at H;exact H
              clear H;have H:=H1;clear H1;obtain rfl:=Option.some.inj H;obtain ⟨Ea,Eb,J9⟩:=Kd.R_slice HO_21.out;subst J9
              go_wp2_with (first|((with_reducible refine gate_callee (f:=73) rfl ?_);refine goesL_ (some 155) rfl rfl Tryd.func73 (by kernel_rfl) rfl #[.slice Ea Bu.length Eb] rfl au_ ?_;(with_reducible refine (Aa0.calls Cq _ _ Bu As Aq true _ ?side1 ?side2 I3.out).mono ?_);(case side1=>exact cl_ (Kd.R_reads' HO_21.out).2.2);(case side2=>exact (Kd.R_reads' HO_21.out).2.1);rintro e R5 ⟨I9,rfl,ho0,hb⟩;refine ⟨_,rfl,?_⟩;have Ay:=A_ (Kd.R_lower (Kd.R_new' (Kd.R_new' (Kd.R_new' (Kd.R_new' (Kd.R_new' (Kd.R_new' ho0 (Kd.R_lt (rl_ HO_19))) (Kd.R_lt (rl_ HO_21))) (Kd.R_lt (rl_ Ad))) (Kd.R_lt (rl_ Ac))) (Kd.R_lt (rl_ Aa))) (Kd.R_lt (rl_ Ag))) (below_size bb_));replace HO_19:=A_ (Kd.R_elder' (rl_ HO_19) (Kd.R_base ho0) hb);replace HO_21:=A_ (Kd.R_elder' (rl_ HO_21) (Kd.R_base ho0) hb);replace Ad:=A_ (Kd.R_elder' (rl_ Ad) (Kd.R_base ho0) hb);replace Ac:=A_ (Kd.R_elder' (rl_ Ac) (Kd.R_base ho0) hb);replace Aa:=A_ (Kd.R_elder' (rl_ Aa) (Kd.R_base ho0) hb);replace Ag:=A_ (Kd.R_elder' (rl_ Ag) (Kd.R_base ho0) hb);replace Af:=bz Af hb;replace Ae:=bz Ae hb;replace Ab:=bz Ab hb;replace Ah:=bz Ah hb;replace HB:=A_ (below_step bb_ hb);(try clear hb);(try clear hb2);(try clear hk);(try clear hi);(try clear ho0))|((with_reducible refine gate_dst (N:=25) rfl ?_);refine box_event ?hg (N:=25) ?hd (cs:=#[.int .i64 0,.slice none 0 0]) (t:=28) ?hr ?_;(case hd=>rfl);(case hg=>rfl);(case hr=>go_simp;try rfl);intro Bw hg J1 hbox hb;replace HO_19:=rb_ HO_19 hb;replace HO_21:=rb_ HO_21 hb;replace Ad:=rb_ Ad hb;replace Ac:=rb_ Ac hb;replace Aa:=rb_ Aa hb;replace Ag:=rb_ Ag hb;replace Ay:=rb_ Ay hb;have Aj:=A_ (hbox);have In:=A_ (gw_ (w:=w) hg bb_);have Io:=A_ (gw_ (w:=w) hg bb_);replace HB:=A_ (below_step bb_ hb);have Bj:=A_ (nl_ hg Af);have C0:=A_ (ng_ hg Af);replace Af:=bz Af hb;have Bk:=A_ (nl_ hg Ae);have C1:=A_ (ng_ hg Ae);replace Ae:=bz Ae hb;have Bl:=A_ (nl_ hg Ab);have C2:=A_ (ng_ hg Ab);replace Ab:=bz Ab hb;have Bm:=A_ (nl_ hg Ah);have C3:=A_ (ng_ hg Ah);replace Ah:=bz Ah hb;clear hb hbox hg;have Pi:=C0.out;have Pj:=Bj.out;have Pk:=C1.out;have Pl:=Bk.out;have Pm:=C2.out;have Pn:=Bl.out;have Po:=C3.out;have Pp:=Bm.out;have Ls : J1.cell? ⟨Bw,0,none⟩ = some (.int .i64 0):=blk_cell Aj.out 0;have Lu : J1.cell? ⟨Bw,1,none⟩ = some (.slice none 0 0):=blk_cell Aj.out 1;have Lv:=blk_frozen Aj.out 0;have Lw:=blk_frozen Aj.out 1;obtain ⟨Cr,Cm,Ka⟩:=Kd.R_slice Ay.out;subst Ka)|((with_reducible refine gate_callee (f:=73) rfl ?_);refine goesL_ (some 160) rfl rfl Tryd.func73 (by kernel_rfl) rfl #[.slice Cv Bg.length Ci] rfl au_ ?_;(with_reducible refine (Aa0.calls Cq _ _ Bg Ba Av true _ ?side1 ?side2 I4.out).mono ?_);(case side1=>refine (Kd.R_reads' (e:=3) (base:=w.heap.size) (ok:=fun k_=>((some k_ ≠ (.slice Ea Bu.length Eb : Value).ownBlock ∧ (some k_ ≠ (.slice Ao16 Am.length co16 : Value).ownBlock ∧ (some k_ ≠ (.slice Ao18 Al.length co18 : Value).ownBlock ∧ (some k_ ≠ (.slice Ao24 Ai.length co24 : Value).ownBlock ∧ some k_ ≠ (.slice Ao33 Az.length co33 : Value).ownBlock)))) ∧ some k_ ≠ (.slice Cr Aq.length Cm : Value).ownBlock)) (n:=Bg.length) (c:=Ci) ?_).2.2;exact (rq_ (rf_ HO_19 Aj (.int .i64 As) (.slice Cr Aq.length Cm))));(case side2=>exact (Kd.R_reads' HO_19.out).2.1);rintro e R6 ⟨Ja,rfl,ho0,hb⟩;refine ⟨_,rfl,?_⟩;have Bi:=A_ (Kd.R_lower (Kd.R_new' (Kd.R_new' (Kd.R_new' (Kd.R_new' (Kd.R_new' (Kd.R_new' (Kd.R_new' ho0 (Kd.R_lt (rq_ (rf_ HO_19 Aj (.int .i64 As) (.slice Cr Aq.length Cm))))) (Kd.R_lt (rq_ (rf_ HO_21 Aj (.int .i64 As) (.slice Cr Aq.length Cm))))) (Kd.R_lt (rq_ (rf_ Ad Aj (.int .i64 As) (.slice Cr Aq.length Cm))))) (Kd.R_lt (rq_ (rf_ Ac Aj (.int .i64 As) (.slice Cr Aq.length Cm))))) (Kd.R_lt (rq_ (rf_ Aa Aj (.int .i64 As) (.slice Cr Aq.length Cm))))) (Kd.R_lt (rq_ (rf_ Ag Aj (.int .i64 As) (.slice Cr Aq.length Cm))))) (Kd.R_lt (rq_ (rf_ Ay Aj (.int .i64 As) (.slice Cr Aq.length Cm))))) (below_size bb_));replace HO_19:=A_ (Kd.R_elder' (rq_ (rf_ HO_19 Aj (.int .i64 As) (.slice Cr Aq.length Cm))) (Kd.R_base ho0) hb);replace HO_21:=A_ (Kd.R_elder' (rq_ (rf_ HO_21 Aj (.int .i64 As) (.slice Cr Aq.length Cm))) (Kd.R_base ho0) hb);replace Ad:=A_ (Kd.R_elder' (rq_ (rf_ Ad Aj (.int .i64 As) (.slice Cr Aq.length Cm))) (Kd.R_base ho0) hb);replace Ac:=A_ (Kd.R_elder' (rq_ (rf_ Ac Aj (.int .i64 As) (.slice Cr Aq.length Cm))) (Kd.R_base ho0) hb);replace Aa:=A_ (Kd.R_elder' (rq_ (rf_ Aa Aj (.int .i64 As) (.slice Cr Aq.length Cm))) (Kd.R_base ho0) hb);replace Ag:=A_ (Kd.R_elder' (rq_ (rf_ Ag Aj (.int .i64 As) (.slice Cr Aq.length Cm))) (Kd.R_base ho0) hb);replace Ay:=A_ (Kd.R_elder' (rq_ (rf_ Ay Aj (.int .i64 As) (.slice Cr Aq.length Cm))) (Kd.R_base ho0) hb);replace Af:=A_ (blk_below (g:=Bb) (o:=.cells #[.int .i64 Ap,.slice Ao16 Am.length co16] 28 (0,0)) (by (with_reducible repeat (first|refine blk_drewN ?_ _|refine blk_drew ?_|refine blk_alloc ?_ _));refine blk_far ?_ Bj.out _;(with_reducible repeat (first|refine blk_drewN ?_ _|refine blk_drew ?_|refine blk_alloc ?_ _));refine blk_far ?_ Bj.out _;(with_reducible repeat (first|refine blk_drewN ?_ _|refine blk_drew ?_|refine blk_alloc ?_ _));exact Af.out) hb);replace Ae:=A_ (blk_below (g:=Ax) (o:=.cells #[.int .i64 Ao,.slice Ao18 Al.length co18] 28 (0,0)) (by (with_reducible repeat (first|refine blk_drewN ?_ _|refine blk_drew ?_|refine blk_alloc ?_ _));refine blk_far ?_ Bk.out _;(with_reducible repeat (first|refine blk_drewN ?_ _|refine blk_drew ?_|refine blk_alloc ?_ _));refine blk_far ?_ Bk.out _;(with_reducible repeat (first|refine blk_drewN ?_ _|refine blk_drew ?_|refine blk_alloc ?_ _));exact Ae.out) hb);replace Ab:=A_ (blk_below (g:=At) (o:=.cells #[.int .i64 Ak,.slice Ao24 Ai.length co24] 28 (0,0)) (by (with_reducible repeat (first|refine blk_drewN ?_ _|refine blk_drew ?_|refine blk_alloc ?_ _));refine blk_far ?_ Bl.out _;(with_reducible repeat (first|refine blk_drewN ?_ _|refine blk_drew ?_|refine blk_alloc ?_ _));refine blk_far ?_ Bl.out _;(with_reducible repeat (first|refine blk_drewN ?_ _|refine blk_drew ?_|refine blk_alloc ?_ _));exact Ab.out) hb);replace Ah:=A_ (blk_below (g:=Cg) (o:=.cells #[.int .i64 B4,.slice Ao33 Az.length co33] 28 (0,0)) (by (with_reducible repeat (first|refine blk_drewN ?_ _|refine blk_drew ?_|refine blk_alloc ?_ _));refine blk_far ?_ Bm.out _;(with_reducible repeat (first|refine blk_drewN ?_ _|refine blk_drew ?_|refine blk_alloc ?_ _));refine blk_far ?_ Bm.out _;(with_reducible repeat (first|refine blk_drewN ?_ _|refine blk_drew ?_|refine blk_alloc ?_ _));exact Ah.out) hb);replace Aj:=A_ (blk_below (g:=Bw) (o:=.cells #[.int .i64 As,.slice Cr Aq.length Cm] 28 (0,0)) (by (with_reducible repeat (first|refine blk_drewN ?_ _|refine blk_drew ?_|refine blk_alloc ?_ _));refine blk_put (cs:=#[.int .i64 As,.slice none 0 0]) ?_ 1 _ rfl;(with_reducible repeat (first|refine blk_drewN ?_ _|refine blk_drew ?_|refine blk_alloc ?_ _));refine blk_put (cs:=#[.int .i64 0,.slice none 0 0]) ?_ 0 _ rfl;(with_reducible repeat (first|refine blk_drewN ?_ _|refine blk_drew ?_|refine blk_alloc ?_ _));exact Aj.out) hb);replace HB:=A_ (below_step bb_ hb);(try clear hb);(try clear hb2);(try clear hk);(try clear hi);(try clear ho0))|((with_reducible refine gate_dst (N:=27) rfl ?_);refine box_event ?hg (N:=27) ?hd (cs:=#[.int .i64 0,.slice none 0 0]) (t:=28) ?hr ?_;(case hd=>rfl);(case hg=>rfl);(case hr=>go_simp;try rfl);intro Cx hg Jb hbox hb;replace HO_19:=rb_ HO_19 hb;replace HO_21:=rb_ HO_21 hb;replace Ad:=rb_ Ad hb;replace Ac:=rb_ Ac hb;replace Aa:=rb_ Aa hb;replace Ag:=rb_ Ag hb;replace Ay:=rb_ Ay hb;replace Bi:=rb_ Bi hb;have Au:=A_ (hbox);have Ip:=A_ (gw_ (w:=w) hg bb_);have Iq:=A_ (gw_ (w:=w) hg bb_);replace HB:=A_ (below_step bb_ hb);have Bn:=A_ (nl_ hg Af);have C4:=A_ (ng_ hg Af);replace Af:=bz Af hb;have Bo:=A_ (nl_ hg Ae);have C5:=A_ (ng_ hg Ae);replace Ae:=bz Ae hb;have Bp:=A_ (nl_ hg Ab);have C6:=A_ (ng_ hg Ab);replace Ab:=bz Ab hb;have Bq:=A_ (nl_ hg Ah);have C7:=A_ (ng_ hg Ah);replace Ah:=bz Ah hb;have Br:=A_ (nl_ hg Aj);have C8:=A_ (ng_ hg Aj);replace Aj:=bz Aj hb;clear hb hbox hg;have Pq:=C4.out;have Pr:=Bn.out;have Ps:=C5.out;have Pt:=Bo.out;have Pu:=C6.out;have Pv:=Bp.out;have Pw:=C7.out;have Px:=Bq.out;have Py:=C8.out;have Pz:=Br.out;have Lx : Jb.cell? ⟨Cx,0,none⟩ = some (.int .i64 0):=blk_cell Au.out 0;have Ly : Jb.cell? ⟨Cx,1,none⟩ = some (.slice none 0 0):=blk_cell Au.out 1;have Lz:=blk_frozen Au.out 0;have L0:=blk_frozen Au.out 1;obtain ⟨Dh,Da,Kb⟩:=Kd.R_slice Bi.out;subst Kb;have L1 : Jb.cell? ⟨Bw,0,none⟩ = some (.int .i64 As):=blk_cell Aj.out 0;have L2 : Jb.cell? ⟨Bw,1,none⟩ = some (.slice Cr Aq.length Cm):=blk_cell Aj.out 1;have L3:=blk_frozen Aj.out 0;have L4:=blk_frozen Aj.out 1)|((with_reducible refine gate_callee (f:=84) rfl ?_);refine goesL_ (some 166) rfl rfl Tryd.func84 (by kernel_rfl) rfl #[.agg #[.int .i64 As,.slice Cr Aq.length Cm],.agg #[.int .i64 Ba,.slice Dh Av.length Da]] rfl au_ ?_;(with_reducible refine (Aaj.calls Cq As _ _ Aq Ba _ _ Av Dz true _ ?side1 ?side2 ?side3 ?side4 ?side5 I5.out).mono ?_);(case side1=>refine (Kd.R_reads' (e:=3) (base:=w.heap.size) (ok:=fun k_=>(((((((True ∧ some k_ ≠ (.slice Cv Bg.length Ci : Value).ownBlock) ∧ some k_ ≠ (.slice Ea Bu.length Eb : Value).ownBlock) ∧ some k_ ≠ (.slice Ao16 Am.length co16 : Value).ownBlock) ∧ some k_ ≠ (.slice Ao18 Al.length co18 : Value).ownBlock) ∧ some k_ ≠ (.slice Ao24 Ai.length co24 : Value).ownBlock) ∧ some k_ ≠ (.slice Ao33 Az.length co33 : Value).ownBlock) ∧ some k_ ≠ (.slice Dh Av.length Da : Value).ownBlock)) (n:=Aq.length) (c:=Cm) ?_).2.2;exact (rq_ (rf_ Ay Au (.int .i64 Ba) (.slice Dh Av.length Da))));(case side2=>exact (Kd.R_reads' Ay.out).2.1);(case side3=>refine (Kd.R_reads' (e:=3) (base:=w.heap.size) (ok:=fun k_=>(((((((True ∧ some k_ ≠ (.slice Cv Bg.length Ci : Value).ownBlock) ∧ some k_ ≠ (.slice Ea Bu.length Eb : Value).ownBlock) ∧ some k_ ≠ (.slice Ao16 Am.length co16 : Value).ownBlock) ∧ some k_ ≠ (.slice Ao18 Al.length co18 : Value).ownBlock) ∧ some k_ ≠ (.slice Ao24 Ai.length co24 : Value).ownBlock) ∧ some k_ ≠ (.slice Ao33 Az.length co33 : Value).ownBlock) ∧ some k_ ≠ (.slice Cr Aq.length Cm : Value).ownBlock)) (n:=Av.length) (c:=Da) ?_).2.2;exact (rq_ (rf_ Bi Au (.int .i64 Ba) (.slice Dh Av.length Da))));(case side4=>exact (Kd.R_reads' Bi.out).2.1);(case side5=>first|exact HT.out|exact HT.out.below bb_|(repeat (first|exact HT.out|apply TabOK.drewN|apply TabOK.drew|apply TabOK.alloc)));rintro e R7 ⟨rfl,hb⟩;refine ⟨_,rfl,?_⟩;replace HO_19:=A_ (Kd.R_below (rq_ (rf_ HO_19 Au (.int .i64 Ba) (.slice Dh Av.length Da))) hb);replace HO_21:=A_ (Kd.R_below (rq_ (rf_ HO_21 Au (.int .i64 Ba) (.slice Dh Av.length Da))) hb);replace Ad:=A_ (Kd.R_below (rq_ (rf_ Ad Au (.int .i64 Ba) (.slice Dh Av.length Da))) hb);replace Ac:=A_ (Kd.R_below (rq_ (rf_ Ac Au (.int .i64 Ba) (.slice Dh Av.length Da))) hb);replace Aa:=A_ (Kd.R_below (rq_ (rf_ Aa Au (.int .i64 Ba) (.slice Dh Av.length Da))) hb);replace Ag:=A_ (Kd.R_below (rq_ (rf_ Ag Au (.int .i64 Ba) (.slice Dh Av.length Da))) hb);replace Ay:=A_ (Kd.R_below (rq_ (rf_ Ay Au (.int .i64 Ba) (.slice Dh Av.length Da))) hb);replace Bi:=A_ (Kd.R_below (rq_ (rf_ Bi Au (.int .i64 Ba) (.slice Dh Av.length Da))) hb);replace Af:=A_ (blk_below (g:=Bb) (o:=.cells #[.int .i64 Ap,.slice Ao16 Am.length co16] 28 (0,0)) (by (with_reducible repeat (first|refine blk_drewN ?_ _|refine blk_drew ?_|refine blk_alloc ?_ _));refine blk_far ?_ Bn.out _;(with_reducible repeat (first|refine blk_drewN ?_ _|refine blk_drew ?_|refine blk_alloc ?_ _));refine blk_far ?_ Bn.out _;(with_reducible repeat (first|refine blk_drewN ?_ _|refine blk_drew ?_|refine blk_alloc ?_ _));exact Af.out) hb);replace Ae:=A_ (blk_below (g:=Ax) (o:=.cells #[.int .i64 Ao,.slice Ao18 Al.length co18] 28 (0,0)) (by (with_reducible repeat (first|refine blk_drewN ?_ _|refine blk_drew ?_|refine blk_alloc ?_ _));refine blk_far ?_ Bo.out _;(with_reducible repeat (first|refine blk_drewN ?_ _|refine blk_drew ?_|refine blk_alloc ?_ _));refine blk_far ?_ Bo.out _;(with_reducible repeat (first|refine blk_drewN ?_ _|refine blk_drew ?_|refine blk_alloc ?_ _));exact Ae.out) hb);replace Ab:=A_ (blk_below (g:=At) (o:=.cells #[.int .i64 Ak,.slice Ao24 Ai.length co24] 28 (0,0)) (by (with_reducible repeat (first|refine blk_drewN ?_ _|refine blk_drew ?_|refine blk_alloc ?_ _));refine blk_far ?_ Bp.out _;(with_reducible repeat (first|refine blk_drewN ?_ _|refine blk_drew ?_|refine blk_alloc ?_ _));refine blk_far ?_ Bp.out _;(with_reducible repeat (first|refine blk_drewN ?_ _|refine blk_drew ?_|refine blk_alloc ?_ _));exact Ab.out) hb);replace Ah:=A_ (blk_below (g:=Cg) (o:=.cells #[.int .i64 B4,.slice Ao33 Az.length co33] 28 (0,0)) (by (with_reducible repeat (first|refine blk_drewN ?_ _|refine blk_drew ?_|refine blk_alloc ?_ _));refine blk_far ?_ Bq.out _;(with_reducible repeat (first|refine blk_drewN ?_ _|refine blk_drew ?_|refine blk_alloc ?_ _));refine blk_far ?_ Bq.out _;(with_reducible repeat (first|refine blk_drewN ?_ _|refine blk_drew ?_|refine blk_alloc ?_ _));exact Ah.out) hb);replace Aj:=A_ (blk_below (g:=Bw) (o:=.cells #[.int .i64 As,.slice Cr Aq.length Cm] 28 (0,0)) (by (with_reducible repeat (first|refine blk_drewN ?_ _|refine blk_drew ?_|refine blk_alloc ?_ _));refine blk_far ?_ Br.out _;(with_reducible repeat (first|refine blk_drewN ?_ _|refine blk_drew ?_|refine blk_alloc ?_ _));refine blk_far ?_ Br.out _;(with_reducible repeat (first|refine blk_drewN ?_ _|refine blk_drew ?_|refine blk_alloc ?_ _));exact Aj.out) hb);replace Au:=A_ (blk_below (g:=Cx) (o:=.cells #[.int .i64 Ba,.slice Dh Av.length Da] 28 (0,0)) (by (with_reducible repeat (first|refine blk_drewN ?_ _|refine blk_drew ?_|refine blk_alloc ?_ _));refine blk_put (cs:=#[.int .i64 Ba,.slice none 0 0]) ?_ 1 _ rfl;(with_reducible repeat (first|refine blk_drewN ?_ _|refine blk_drew ?_|refine blk_alloc ?_ _));refine blk_put (cs:=#[.int .i64 0,.slice none 0 0]) ?_ 0 _ rfl;(with_reducible repeat (first|refine blk_drewN ?_ _|refine blk_drew ?_|refine blk_alloc ?_ _));exact Au.out) hb);replace HB:=A_ (below_step bb_ hb);(try clear hb);(try clear hb2);(try clear hk);(try clear hi)))
              go_ret
              exact ⟨by first|rfl|(simp [errW_none,errW_some] <;> rfl)|(simp [*,errW_none,errW_some] <;> rfl),bb_⟩
             ·replace I8:=Bool.eq_false_iff.mpr I8;subst I8;have H1 : (some false) = some r:=by rw [if_neg (show ¬ (false = true) by decide)] at H;exact H
              clear H;have H:=H1;clear H1;obtain rfl:=Option.some.inj H;obtain ⟨Ec,Ed,Ke⟩:=Kd.R_slice HO_21.out;subst Ke
              go_wp2_with (first|((with_reducible refine gate_callee (f:=73) rfl ?_);refine goesL_ (some 155) rfl rfl Tryd.func73 (by kernel_rfl) rfl #[.slice Ec Bu.length Ed] rfl au_ ?_;(with_reducible refine (Aa0.calls Cq _ _ Bu As Aq true _ ?side1 ?side2 I3.out).mono ?_);(case side1=>exact cl_ (Kd.R_reads' HO_21.out).2.2);(case side2=>exact (Kd.R_reads' HO_21.out).2.1);rintro e R8 ⟨I9,rfl,ho0,hb⟩;refine ⟨_,rfl,?_⟩;have Ay:=A_ (Kd.R_lower (Kd.R_new' (Kd.R_new' (Kd.R_new' (Kd.R_new' (Kd.R_new' (Kd.R_new' ho0 (Kd.R_lt (rl_ HO_19))) (Kd.R_lt (rl_ HO_21))) (Kd.R_lt (rl_ Ad))) (Kd.R_lt (rl_ Ac))) (Kd.R_lt (rl_ Aa))) (Kd.R_lt (rl_ Ag))) (below_size bb_));replace HO_19:=A_ (Kd.R_elder' (rl_ HO_19) (Kd.R_base ho0) hb);replace HO_21:=A_ (Kd.R_elder' (rl_ HO_21) (Kd.R_base ho0) hb);replace Ad:=A_ (Kd.R_elder' (rl_ Ad) (Kd.R_base ho0) hb);replace Ac:=A_ (Kd.R_elder' (rl_ Ac) (Kd.R_base ho0) hb);replace Aa:=A_ (Kd.R_elder' (rl_ Aa) (Kd.R_base ho0) hb);replace Ag:=A_ (Kd.R_elder' (rl_ Ag) (Kd.R_base ho0) hb);replace Af:=bz Af hb;replace Ae:=bz Ae hb;replace Ab:=bz Ab hb;replace Ah:=bz Ah hb;replace HB:=A_ (below_step bb_ hb);(try clear hb);(try clear hb2);(try clear hk);(try clear hi);(try clear ho0))|((with_reducible refine gate_dst (N:=25) rfl ?_);refine box_event ?hg (N:=25) ?hd (cs:=#[.int .i64 0,.slice none 0 0]) (t:=28) ?hr ?_;(case hd=>rfl);(case hg=>rfl);(case hr=>go_simp;try rfl);intro Bw hg J2 hbox hb;replace HO_19:=rb_ HO_19 hb;replace HO_21:=rb_ HO_21 hb;replace Ad:=rb_ Ad hb;replace Ac:=rb_ Ac hb;replace Aa:=rb_ Aa hb;replace Ag:=rb_ Ag hb;replace Ay:=rb_ Ay hb;have Aj:=A_ (hbox);have In:=A_ (gw_ (w:=w) hg bb_);have Io:=A_ (gw_ (w:=w) hg bb_);replace HB:=A_ (below_step bb_ hb);have Bj:=A_ (nl_ hg Af);have C0:=A_ (ng_ hg Af);replace Af:=bz Af hb;have Bk:=A_ (nl_ hg Ae);have C1:=A_ (ng_ hg Ae);replace Ae:=bz Ae hb;have Bl:=A_ (nl_ hg Ab);have C2:=A_ (ng_ hg Ab);replace Ab:=bz Ab hb;have Bm:=A_ (nl_ hg Ah);have C3:=A_ (ng_ hg Ah);replace Ah:=bz Ah hb;clear hb hbox hg;have P0:=C0.out;have P1:=Bj.out;have P2:=C1.out;have P3:=Bk.out;have P4:=C2.out;have P5:=Bl.out;have P6:=C3.out;have P7:=Bm.out;have L5 : J2.cell? ⟨Bw,0,none⟩ = some (.int .i64 0):=blk_cell Aj.out 0;have L6 : J2.cell? ⟨Bw,1,none⟩ = some (.slice none 0 0):=blk_cell Aj.out 1;have L7:=blk_frozen Aj.out 0;have L8:=blk_frozen Aj.out 1;obtain ⟨Cs,Cn,Kf⟩:=Kd.R_slice Ay.out;subst Kf)|((with_reducible refine gate_callee (f:=73) rfl ?_);refine goesL_ (some 160) rfl rfl Tryd.func73 (by kernel_rfl) rfl #[.slice Cv Bg.length Ci] rfl au_ ?_;(with_reducible refine (Aa0.calls Cq _ _ Bg Ba Av true _ ?side1 ?side2 I4.out).mono ?_);(case side1=>refine (Kd.R_reads' (e:=3) (base:=w.heap.size) (ok:=fun k_=>((some k_ ≠ (.slice Ec Bu.length Ed : Value).ownBlock ∧ (some k_ ≠ (.slice Ao16 Am.length co16 : Value).ownBlock ∧ (some k_ ≠ (.slice Ao18 Al.length co18 : Value).ownBlock ∧ (some k_ ≠ (.slice Ao24 Ai.length co24 : Value).ownBlock ∧ some k_ ≠ (.slice Ao33 Az.length co33 : Value).ownBlock)))) ∧ some k_ ≠ (.slice Cs Aq.length Cn : Value).ownBlock)) (n:=Bg.length) (c:=Ci) ?_).2.2;exact (rq_ (rf_ HO_19 Aj (.int .i64 As) (.slice Cs Aq.length Cn))));(case side2=>exact (Kd.R_reads' HO_19.out).2.1);rintro e R9 ⟨Ja,rfl,ho0,hb⟩;refine ⟨_,rfl,?_⟩;have Bi:=A_ (Kd.R_lower (Kd.R_new' (Kd.R_new' (Kd.R_new' (Kd.R_new' (Kd.R_new' (Kd.R_new' (Kd.R_new' ho0 (Kd.R_lt (rq_ (rf_ HO_19 Aj (.int .i64 As) (.slice Cs Aq.length Cn))))) (Kd.R_lt (rq_ (rf_ HO_21 Aj (.int .i64 As) (.slice Cs Aq.length Cn))))) (Kd.R_lt (rq_ (rf_ Ad Aj (.int .i64 As) (.slice Cs Aq.length Cn))))) (Kd.R_lt (rq_ (rf_ Ac Aj (.int .i64 As) (.slice Cs Aq.length Cn))))) (Kd.R_lt (rq_ (rf_ Aa Aj (.int .i64 As) (.slice Cs Aq.length Cn))))) (Kd.R_lt (rq_ (rf_ Ag Aj (.int .i64 As) (.slice Cs Aq.length Cn))))) (Kd.R_lt (rq_ (rf_ Ay Aj (.int .i64 As) (.slice Cs Aq.length Cn))))) (below_size bb_));replace HO_19:=A_ (Kd.R_elder' (rq_ (rf_ HO_19 Aj (.int .i64 As) (.slice Cs Aq.length Cn))) (Kd.R_base ho0) hb);replace HO_21:=A_ (Kd.R_elder' (rq_ (rf_ HO_21 Aj (.int .i64 As) (.slice Cs Aq.length Cn))) (Kd.R_base ho0) hb);replace Ad:=A_ (Kd.R_elder' (rq_ (rf_ Ad Aj (.int .i64 As) (.slice Cs Aq.length Cn))) (Kd.R_base ho0) hb);replace Ac:=A_ (Kd.R_elder' (rq_ (rf_ Ac Aj (.int .i64 As) (.slice Cs Aq.length Cn))) (Kd.R_base ho0) hb);replace Aa:=A_ (Kd.R_elder' (rq_ (rf_ Aa Aj (.int .i64 As) (.slice Cs Aq.length Cn))) (Kd.R_base ho0) hb);replace Ag:=A_ (Kd.R_elder' (rq_ (rf_ Ag Aj (.int .i64 As) (.slice Cs Aq.length Cn))) (Kd.R_base ho0) hb);replace Ay:=A_ (Kd.R_elder' (rq_ (rf_ Ay Aj (.int .i64 As) (.slice Cs Aq.length Cn))) (Kd.R_base ho0) hb);replace Af:=A_ (blk_below (g:=Bb) (o:=.cells #[.int .i64 Ap,.slice Ao16 Am.length co16] 28 (0,0)) (by (with_reducible repeat (first|refine blk_drewN ?_ _|refine blk_drew ?_|refine blk_alloc ?_ _));refine blk_far ?_ Bj.out _;(with_reducible repeat (first|refine blk_drewN ?_ _|refine blk_drew ?_|refine blk_alloc ?_ _));refine blk_far ?_ Bj.out _;(with_reducible repeat (first|refine blk_drewN ?_ _|refine blk_drew ?_|refine blk_alloc ?_ _));exact Af.out) hb);replace Ae:=A_ (blk_below (g:=Ax) (o:=.cells #[.int .i64 Ao,.slice Ao18 Al.length co18] 28 (0,0)) (by (with_reducible repeat (first|refine blk_drewN ?_ _|refine blk_drew ?_|refine blk_alloc ?_ _));refine blk_far ?_ Bk.out _;(with_reducible repeat (first|refine blk_drewN ?_ _|refine blk_drew ?_|refine blk_alloc ?_ _));refine blk_far ?_ Bk.out _;(with_reducible repeat (first|refine blk_drewN ?_ _|refine blk_drew ?_|refine blk_alloc ?_ _));exact Ae.out) hb);replace Ab:=A_ (blk_below (g:=At) (o:=.cells #[.int .i64 Ak,.slice Ao24 Ai.length co24] 28 (0,0)) (by (with_reducible repeat (first|refine blk_drewN ?_ _|refine blk_drew ?_|refine blk_alloc ?_ _));refine blk_far ?_ Bl.out _;(with_reducible repeat (first|refine blk_drewN ?_ _|refine blk_drew ?_|refine blk_alloc ?_ _));refine blk_far ?_ Bl.out _;(with_reducible repeat (first|refine blk_drewN ?_ _|refine blk_drew ?_|refine blk_alloc ?_ _));exact Ab.out) hb);replace Ah:=A_ (blk_below (g:=Cg) (o:=.cells #[.int .i64 B4,.slice Ao33 Az.length co33] 28 (0,0)) (by (with_reducible repeat (first|refine blk_drewN ?_ _|refine blk_drew ?_|refine blk_alloc ?_ _));refine blk_far ?_ Bm.out _;(with_reducible repeat (first|refine blk_drewN ?_ _|refine blk_drew ?_|refine blk_alloc ?_ _));refine blk_far ?_ Bm.out _;(with_reducible repeat (first|refine blk_drewN ?_ _|refine blk_drew ?_|refine blk_alloc ?_ _));exact Ah.out) hb);replace Aj:=A_ (blk_below (g:=Bw) (o:=.cells #[.int .i64 As,.slice Cs Aq.length Cn] 28 (0,0)) (by (with_reducible repeat (first|refine blk_drewN ?_ _|refine blk_drew ?_|refine blk_alloc ?_ _));refine blk_put (cs:=#[.int .i64 As,.slice none 0 0]) ?_ 1 _ rfl;(with_reducible repeat (first|refine blk_drewN ?_ _|refine blk_drew ?_|refine blk_alloc ?_ _));refine blk_put (cs:=#[.int .i64 0,.slice none 0 0]) ?_ 0 _ rfl;(with_reducible repeat (first|refine blk_drewN ?_ _|refine blk_drew ?_|refine blk_alloc ?_ _));exact Aj.out) hb);replace HB:=A_ (below_step bb_ hb);(try clear hb);(try clear hb2);(try clear hk);(try clear hi);(try clear ho0))|((with_reducible refine gate_dst (N:=27) rfl ?_);refine box_event ?hg (N:=27) ?hd (cs:=#[.int .i64 0,.slice none 0 0]) (t:=28) ?hr ?_;(case hd=>rfl);(case hg=>rfl);(case hr=>go_simp;try rfl);intro Cx hg Jc hbox hb;replace HO_19:=rb_ HO_19 hb;replace HO_21:=rb_ HO_21 hb;replace Ad:=rb_ Ad hb;replace Ac:=rb_ Ac hb;replace Aa:=rb_ Aa hb;replace Ag:=rb_ Ag hb;replace Ay:=rb_ Ay hb;replace Bi:=rb_ Bi hb;have Au:=A_ (hbox);have Ip:=A_ (gw_ (w:=w) hg bb_);have Iq:=A_ (gw_ (w:=w) hg bb_);replace HB:=A_ (below_step bb_ hb);have Bn:=A_ (nl_ hg Af);have C4:=A_ (ng_ hg Af);replace Af:=bz Af hb;have Bo:=A_ (nl_ hg Ae);have C5:=A_ (ng_ hg Ae);replace Ae:=bz Ae hb;have Bp:=A_ (nl_ hg Ab);have C6:=A_ (ng_ hg Ab);replace Ab:=bz Ab hb;have Bq:=A_ (nl_ hg Ah);have C7:=A_ (ng_ hg Ah);replace Ah:=bz Ah hb;have Br:=A_ (nl_ hg Aj);have C8:=A_ (ng_ hg Aj);replace Aj:=bz Aj hb;clear hb hbox hg;have P8:=C4.out;have P9:=Bn.out;have Qa:=C5.out;have Qb:=Bo.out;have Qc:=C6.out;have Qd:=Bp.out;have Qe:=C7.out;have Qf:=Bq.out;have Qg:=C8.out;have Qh:=Br.out;have L9 : Jc.cell? ⟨Cx,0,none⟩ = some (.int .i64 0):=blk_cell Au.out 0;have Ma : Jc.cell? ⟨Cx,1,none⟩ = some (.slice none 0 0):=blk_cell Au.out 1;have Mb:=blk_frozen Au.out 0;have Mc:=blk_frozen Au.out 1;obtain ⟨Di,Db,Kg⟩:=Kd.R_slice Bi.out;subst Kg;have Md : Jc.cell? ⟨Bw,0,none⟩ = some (.int .i64 As):=blk_cell Aj.out 0;have Me : Jc.cell? ⟨Bw,1,none⟩ = some (.slice Cs Aq.length Cn):=blk_cell Aj.out 1;have Mf:=blk_frozen Aj.out 0;have Mg:=blk_frozen Aj.out 1)|((with_reducible refine gate_callee (f:=84) rfl ?_);refine goesL_ (some 166) rfl rfl Tryd.func84 (by kernel_rfl) rfl #[.agg #[.int .i64 As,.slice Cs Aq.length Cn],.agg #[.int .i64 Ba,.slice Di Av.length Db]] rfl au_ ?_;(with_reducible refine (Aaj.calls Cq As _ _ Aq Ba _ _ Av Dz false _ ?side1 ?side2 ?side3 ?side4 ?side5 I5.out).mono ?_);(case side1=>refine (Kd.R_reads' (e:=3) (base:=w.heap.size) (ok:=fun k_=>(((((((True ∧ some k_ ≠ (.slice Cv Bg.length Ci : Value).ownBlock) ∧ some k_ ≠ (.slice Ec Bu.length Ed : Value).ownBlock) ∧ some k_ ≠ (.slice Ao16 Am.length co16 : Value).ownBlock) ∧ some k_ ≠ (.slice Ao18 Al.length co18 : Value).ownBlock) ∧ some k_ ≠ (.slice Ao24 Ai.length co24 : Value).ownBlock) ∧ some k_ ≠ (.slice Ao33 Az.length co33 : Value).ownBlock) ∧ some k_ ≠ (.slice Di Av.length Db : Value).ownBlock)) (n:=Aq.length) (c:=Cn) ?_).2.2;exact (rq_ (rf_ Ay Au (.int .i64 Ba) (.slice Di Av.length Db))));(case side2=>exact (Kd.R_reads' Ay.out).2.1);(case side3=>refine (Kd.R_reads' (e:=3) (base:=w.heap.size) (ok:=fun k_=>(((((((True ∧ some k_ ≠ (.slice Cv Bg.length Ci : Value).ownBlock) ∧ some k_ ≠ (.slice Ec Bu.length Ed : Value).ownBlock) ∧ some k_ ≠ (.slice Ao16 Am.length co16 : Value).ownBlock) ∧ some k_ ≠ (.slice Ao18 Al.length co18 : Value).ownBlock) ∧ some k_ ≠ (.slice Ao24 Ai.length co24 : Value).ownBlock) ∧ some k_ ≠ (.slice Ao33 Az.length co33 : Value).ownBlock) ∧ some k_ ≠ (.slice Cs Aq.length Cn : Value).ownBlock)) (n:=Av.length) (c:=Db) ?_).2.2;exact (rq_ (rf_ Bi Au (.int .i64 Ba) (.slice Di Av.length Db))));(case side4=>exact (Kd.R_reads' Bi.out).2.1);(case side5=>first|exact HT.out|exact HT.out.below bb_|(repeat (first|exact HT.out|apply TabOK.drewN|apply TabOK.drew|apply TabOK.alloc)));rintro e Sa ⟨rfl,hb⟩;refine ⟨_,rfl,?_⟩;replace HO_19:=A_ (Kd.R_below (rq_ (rf_ HO_19 Au (.int .i64 Ba) (.slice Di Av.length Db))) hb);replace HO_21:=A_ (Kd.R_below (rq_ (rf_ HO_21 Au (.int .i64 Ba) (.slice Di Av.length Db))) hb);replace Ad:=A_ (Kd.R_below (rq_ (rf_ Ad Au (.int .i64 Ba) (.slice Di Av.length Db))) hb);replace Ac:=A_ (Kd.R_below (rq_ (rf_ Ac Au (.int .i64 Ba) (.slice Di Av.length Db))) hb);replace Aa:=A_ (Kd.R_below (rq_ (rf_ Aa Au (.int .i64 Ba) (.slice Di Av.length Db))) hb);replace Ag:=A_ (Kd.R_below (rq_ (rf_ Ag Au (.int .i64 Ba) (.slice Di Av.length Db))) hb);replace Ay:=A_ (Kd.R_below (rq_ (rf_ Ay Au (.int .i64 Ba) (.slice Di Av.length Db))) hb);replace Bi:=A_ (Kd.R_below (rq_ (rf_ Bi Au (.int .i64 Ba) (.slice Di Av.length Db))) hb);replace Af:=A_ (blk_below (g:=Bb) (o:=.cells #[.int .i64 Ap,.slice Ao16 Am.length co16] 28 (0,0)) (by (with_reducible repeat (first|refine blk_drewN ?_ _|refine blk_drew ?_|refine blk_alloc ?_ _));refine blk_far ?_ Bn.out _;(with_reducible repeat (first|refine blk_drewN ?_ _|refine blk_drew ?_|refine blk_alloc ?_ _));refine blk_far ?_ Bn.out _;(with_reducible repeat (first|refine blk_drewN ?_ _|refine blk_drew ?_|refine blk_alloc ?_ _));exact Af.out) hb);replace Ae:=A_ (blk_below (g:=Ax) (o:=.cells #[.int .i64 Ao,.slice Ao18 Al.length co18] 28 (0,0)) (by (with_reducible repeat (first|refine blk_drewN ?_ _|refine blk_drew ?_|refine blk_alloc ?_ _));refine blk_far ?_ Bo.out _;(with_reducible repeat (first|refine blk_drewN ?_ _|refine blk_drew ?_|refine blk_alloc ?_ _));refine blk_far ?_ Bo.out _;(with_reducible repeat (first|refine blk_drewN ?_ _|refine blk_drew ?_|refine blk_alloc ?_ _));exact Ae.out) hb);replace Ab:=A_ (blk_below (g:=At) (o:=.cells #[.int .i64 Ak,.slice Ao24 Ai.length co24] 28 (0,0)) (by (with_reducible repeat (first|refine blk_drewN ?_ _|refine blk_drew ?_|refine blk_alloc ?_ _));refine blk_far ?_ Bp.out _;(with_reducible repeat (first|refine blk_drewN ?_ _|refine blk_drew ?_|refine blk_alloc ?_ _));refine blk_far ?_ Bp.out _;(with_reducible repeat (first|refine blk_drewN ?_ _|refine blk_drew ?_|refine blk_alloc ?_ _));exact Ab.out) hb);replace Ah:=A_ (blk_below (g:=Cg) (o:=.cells #[.int .i64 B4,.slice Ao33 Az.length co33] 28 (0,0)) (by (with_reducible repeat (first|refine blk_drewN ?_ _|refine blk_drew ?_|refine blk_alloc ?_ _));refine blk_far ?_ Bq.out _;(with_reducible repeat (first|refine blk_drewN ?_ _|refine blk_drew ?_|refine blk_alloc ?_ _));refine blk_far ?_ Bq.out _;(with_reducible repeat (first|refine blk_drewN ?_ _|refine blk_drew ?_|refine blk_alloc ?_ _));exact Ah.out) hb);replace Aj:=A_ (blk_below (g:=Bw) (o:=.cells #[.int .i64 As,.slice Cs Aq.length Cn] 28 (0,0)) (by (with_reducible repeat (first|refine blk_drewN ?_ _|refine blk_drew ?_|refine blk_alloc ?_ _));refine blk_far ?_ Br.out _;(with_reducible repeat (first|refine blk_drewN ?_ _|refine blk_drew ?_|refine blk_alloc ?_ _));refine blk_far ?_ Br.out _;(with_reducible repeat (first|refine blk_drewN ?_ _|refine blk_drew ?_|refine blk_alloc ?_ _));exact Aj.out) hb);replace Au:=A_ (blk_below (g:=Cx) (o:=.cells #[.int .i64 Ba,.slice Di Av.length Db] 28 (0,0)) (by (with_reducible repeat (first|refine blk_drewN ?_ _|refine blk_drew ?_|refine blk_alloc ?_ _));refine blk_put (cs:=#[.int .i64 Ba,.slice none 0 0]) ?_ 1 _ rfl;(with_reducible repeat (first|refine blk_drewN ?_ _|refine blk_drew ?_|refine blk_alloc ?_ _));refine blk_put (cs:=#[.int .i64 0,.slice none 0 0]) ?_ 0 _ rfl;(with_reducible repeat (first|refine blk_drewN ?_ _|refine blk_drew ?_|refine blk_alloc ?_ _));exact Au.out) hb);replace HB:=A_ (below_step bb_ hb);(try clear hb);(try clear hb2);(try clear hk);(try clear hi)))
              go_ret
              exact ⟨by first|rfl|(simp [errW_none,errW_some] <;> rfl)|(simp [*,errW_none,errW_some] <;> rfl),bb_⟩
            ·replace I7:=Bool.eq_false_iff.mpr I7;subst I7;have H1 : (some false) = some r:=by rw [if_neg (show ¬ (false = true) by decide)] at H;exact H
             clear H;have H:=H1;clear H1;obtain rfl:=Option.some.inj H;obtain ⟨Ee,Ef,Kh⟩:=Kd.R_slice HO_21.out;subst Kh
             go_wp2_with (first|((with_reducible refine gate_callee (f:=73) rfl ?_);refine goesL_ (some 155) rfl rfl Tryd.func73 (by kernel_rfl) rfl #[.slice Ee Bu.length Ef] rfl au_ ?_;(with_reducible refine (Aa0.calls Cq _ _ Bu As Aq true _ ?side1 ?side2 I3.out).mono ?_);(case side1=>exact cl_ (Kd.R_reads' HO_21.out).2.2);(case side2=>exact (Kd.R_reads' HO_21.out).2.1);rintro e Sb ⟨I9,rfl,ho0,hb⟩;refine ⟨_,rfl,?_⟩;have Ay:=A_ (Kd.R_lower (Kd.R_new' (Kd.R_new' (Kd.R_new' (Kd.R_new' (Kd.R_new' (Kd.R_new' ho0 (Kd.R_lt (rl_ HO_19))) (Kd.R_lt (rl_ HO_21))) (Kd.R_lt (rl_ Ad))) (Kd.R_lt (rl_ Ac))) (Kd.R_lt (rl_ Aa))) (Kd.R_lt (rl_ Ag))) (below_size bb_));replace HO_19:=A_ (Kd.R_elder' (rl_ HO_19) (Kd.R_base ho0) hb);replace HO_21:=A_ (Kd.R_elder' (rl_ HO_21) (Kd.R_base ho0) hb);replace Ad:=A_ (Kd.R_elder' (rl_ Ad) (Kd.R_base ho0) hb);replace Ac:=A_ (Kd.R_elder' (rl_ Ac) (Kd.R_base ho0) hb);replace Aa:=A_ (Kd.R_elder' (rl_ Aa) (Kd.R_base ho0) hb);replace Ag:=A_ (Kd.R_elder' (rl_ Ag) (Kd.R_base ho0) hb);replace Af:=bz Af hb;replace Ae:=bz Ae hb;replace Ab:=bz Ab hb;replace Ah:=bz Ah hb;replace HB:=A_ (below_step bb_ hb);(try clear hb);(try clear hb2);(try clear hk);(try clear hi);(try clear ho0))|((with_reducible refine gate_dst (N:=25) rfl ?_);refine box_event ?hg (N:=25) ?hd (cs:=#[.int .i64 0,.slice none 0 0]) (t:=28) ?hr ?_;(case hd=>rfl);(case hg=>rfl);(case hr=>go_simp;try rfl);intro Bw hg J3 hbox hb;replace HO_19:=rb_ HO_19 hb;replace HO_21:=rb_ HO_21 hb;replace Ad:=rb_ Ad hb;replace Ac:=rb_ Ac hb;replace Aa:=rb_ Aa hb;replace Ag:=rb_ Ag hb;replace Ay:=rb_ Ay hb;have Aj:=A_ (hbox);have In:=A_ (gw_ (w:=w) hg bb_);have Io:=A_ (gw_ (w:=w) hg bb_);replace HB:=A_ (below_step bb_ hb);have Bj:=A_ (nl_ hg Af);have C0:=A_ (ng_ hg Af);replace Af:=bz Af hb;have Bk:=A_ (nl_ hg Ae);have C1:=A_ (ng_ hg Ae);replace Ae:=bz Ae hb;have Bl:=A_ (nl_ hg Ab);have C2:=A_ (ng_ hg Ab);replace Ab:=bz Ab hb;have Bm:=A_ (nl_ hg Ah);have C3:=A_ (ng_ hg Ah);replace Ah:=bz Ah hb;clear hb hbox hg;have Qi:=C0.out;have Qj:=Bj.out;have Qk:=C1.out;have Ql:=Bk.out;have Qm:=C2.out;have Qn:=Bl.out;have Qo:=C3.out;have Qp:=Bm.out;have Mh : J3.cell? ⟨Bw,0,none⟩ = some (.int .i64 0):=blk_cell Aj.out 0;have Mi : J3.cell? ⟨Bw,1,none⟩ = some (.slice none 0 0):=blk_cell Aj.out 1;have Mj:=blk_frozen Aj.out 0;have Mk:=blk_frozen Aj.out 1;obtain ⟨Ct,Co,Ki⟩:=Kd.R_slice Ay.out;subst Ki)|((with_reducible refine gate_callee (f:=73) rfl ?_);refine goesL_ (some 160) rfl rfl Tryd.func73 (by kernel_rfl) rfl #[.slice Cv Bg.length Ci] rfl au_ ?_;(with_reducible refine (Aa0.calls Cq _ _ Bg Ba Av false _ ?side1 ?side2 I4.out).mono ?_);(case side1=>refine (Kd.R_reads' (e:=3) (base:=w.heap.size) (ok:=fun k_=>((some k_ ≠ (.slice Ee Bu.length Ef : Value).ownBlock ∧ (some k_ ≠ (.slice Ao16 Am.length co16 : Value).ownBlock ∧ (some k_ ≠ (.slice Ao18 Al.length co18 : Value).ownBlock ∧ (some k_ ≠ (.slice Ao24 Ai.length co24 : Value).ownBlock ∧ some k_ ≠ (.slice Ao33 Az.length co33 : Value).ownBlock)))) ∧ some k_ ≠ (.slice Ct Aq.length Co : Value).ownBlock)) (n:=Bg.length) (c:=Ci) ?_).2.2;exact (rq_ (rf_ HO_19 Aj (.int .i64 As) (.slice Ct Aq.length Co))));(case side2=>exact (Kd.R_reads' HO_19.out).2.1);rintro e Sc ⟨Ja,rfl,ho0,hb⟩;refine ⟨_,rfl,?_⟩;have Bi:=A_ (Kd.R_lower (Kd.R_new' (Kd.R_new' (Kd.R_new' (Kd.R_new' (Kd.R_new' (Kd.R_new' (Kd.R_new' ho0 (Kd.R_lt (rq_ (rf_ HO_19 Aj (.int .i64 As) (.slice Ct Aq.length Co))))) (Kd.R_lt (rq_ (rf_ HO_21 Aj (.int .i64 As) (.slice Ct Aq.length Co))))) (Kd.R_lt (rq_ (rf_ Ad Aj (.int .i64 As) (.slice Ct Aq.length Co))))) (Kd.R_lt (rq_ (rf_ Ac Aj (.int .i64 As) (.slice Ct Aq.length Co))))) (Kd.R_lt (rq_ (rf_ Aa Aj (.int .i64 As) (.slice Ct Aq.length Co))))) (Kd.R_lt (rq_ (rf_ Ag Aj (.int .i64 As) (.slice Ct Aq.length Co))))) (Kd.R_lt (rq_ (rf_ Ay Aj (.int .i64 As) (.slice Ct Aq.length Co))))) (below_size bb_));replace HO_19:=A_ (Kd.R_elder' (rq_ (rf_ HO_19 Aj (.int .i64 As) (.slice Ct Aq.length Co))) (Kd.R_base ho0) hb);replace HO_21:=A_ (Kd.R_elder' (rq_ (rf_ HO_21 Aj (.int .i64 As) (.slice Ct Aq.length Co))) (Kd.R_base ho0) hb);replace Ad:=A_ (Kd.R_elder' (rq_ (rf_ Ad Aj (.int .i64 As) (.slice Ct Aq.length Co))) (Kd.R_base ho0) hb);replace Ac:=A_ (Kd.R_elder' (rq_ (rf_ Ac Aj (.int .i64 As) (.slice Ct Aq.length Co))) (Kd.R_base ho0) hb);replace Aa:=A_ (Kd.R_elder' (rq_ (rf_ Aa Aj (.int .i64 As) (.slice Ct Aq.length Co))) (Kd.R_base ho0) hb);replace Ag:=A_ (Kd.R_elder' (rq_ (rf_ Ag Aj (.int .i64 As) (.slice Ct Aq.length Co))) (Kd.R_base ho0) hb);replace Ay:=A_ (Kd.R_elder' (rq_ (rf_ Ay Aj (.int .i64 As) (.slice Ct Aq.length Co))) (Kd.R_base ho0) hb);replace Af:=A_ (blk_below (g:=Bb) (o:=.cells #[.int .i64 Ap,.slice Ao16 Am.length co16] 28 (0,0)) (by (with_reducible repeat (first|refine blk_drewN ?_ _|refine blk_drew ?_|refine blk_alloc ?_ _));refine blk_far ?_ Bj.out _;(with_reducible repeat (first|refine blk_drewN ?_ _|refine blk_drew ?_|refine blk_alloc ?_ _));refine blk_far ?_ Bj.out _;(with_reducible repeat (first|refine blk_drewN ?_ _|refine blk_drew ?_|refine blk_alloc ?_ _));exact Af.out) hb);replace Ae:=A_ (blk_below (g:=Ax) (o:=.cells #[.int .i64 Ao,.slice Ao18 Al.length co18] 28 (0,0)) (by (with_reducible repeat (first|refine blk_drewN ?_ _|refine blk_drew ?_|refine blk_alloc ?_ _));refine blk_far ?_ Bk.out _;(with_reducible repeat (first|refine blk_drewN ?_ _|refine blk_drew ?_|refine blk_alloc ?_ _));refine blk_far ?_ Bk.out _;(with_reducible repeat (first|refine blk_drewN ?_ _|refine blk_drew ?_|refine blk_alloc ?_ _));exact Ae.out) hb);replace Ab:=A_ (blk_below (g:=At) (o:=.cells #[.int .i64 Ak,.slice Ao24 Ai.length co24] 28 (0,0)) (by (with_reducible repeat (first|refine blk_drewN ?_ _|refine blk_drew ?_|refine blk_alloc ?_ _));refine blk_far ?_ Bl.out _;(with_reducible repeat (first|refine blk_drewN ?_ _|refine blk_drew ?_|refine blk_alloc ?_ _));refine blk_far ?_ Bl.out _;(with_reducible repeat (first|refine blk_drewN ?_ _|refine blk_drew ?_|refine blk_alloc ?_ _));exact Ab.out) hb);replace Ah:=A_ (blk_below (g:=Cg) (o:=.cells #[.int .i64 B4,.slice Ao33 Az.length co33] 28 (0,0)) (by (with_reducible repeat (first|refine blk_drewN ?_ _|refine blk_drew ?_|refine blk_alloc ?_ _));refine blk_far ?_ Bm.out _;(with_reducible repeat (first|refine blk_drewN ?_ _|refine blk_drew ?_|refine blk_alloc ?_ _));refine blk_far ?_ Bm.out _;(with_reducible repeat (first|refine blk_drewN ?_ _|refine blk_drew ?_|refine blk_alloc ?_ _));exact Ah.out) hb);replace Aj:=A_ (blk_below (g:=Bw) (o:=.cells #[.int .i64 As,.slice Ct Aq.length Co] 28 (0,0)) (by (with_reducible repeat (first|refine blk_drewN ?_ _|refine blk_drew ?_|refine blk_alloc ?_ _));refine blk_put (cs:=#[.int .i64 As,.slice none 0 0]) ?_ 1 _ rfl;(with_reducible repeat (first|refine blk_drewN ?_ _|refine blk_drew ?_|refine blk_alloc ?_ _));refine blk_put (cs:=#[.int .i64 0,.slice none 0 0]) ?_ 0 _ rfl;(with_reducible repeat (first|refine blk_drewN ?_ _|refine blk_drew ?_|refine blk_alloc ?_ _));exact Aj.out) hb);replace HB:=A_ (below_step bb_ hb);(try clear hb);(try clear hb2);(try clear hk);(try clear hi);(try clear ho0))|((with_reducible refine gate_dst (N:=27) rfl ?_);refine box_event ?hg (N:=27) ?hd (cs:=#[.int .i64 0,.slice none 0 0]) (t:=28) ?hr ?_;(case hd=>rfl);(case hg=>rfl);(case hr=>go_simp;try rfl);intro Cx hg Jd hbox hb;replace HO_19:=rb_ HO_19 hb;replace HO_21:=rb_ HO_21 hb;replace Ad:=rb_ Ad hb;replace Ac:=rb_ Ac hb;replace Aa:=rb_ Aa hb;replace Ag:=rb_ Ag hb;replace Ay:=rb_ Ay hb;replace Bi:=rb_ Bi hb;have Au:=A_ (hbox);have Ip:=A_ (gw_ (w:=w) hg bb_);have Iq:=A_ (gw_ (w:=w) hg bb_);replace HB:=A_ (below_step bb_ hb);have Bn:=A_ (nl_ hg Af);have C4:=A_ (ng_ hg Af);replace Af:=bz Af hb;have Bo:=A_ (nl_ hg Ae);have C5:=A_ (ng_ hg Ae);replace Ae:=bz Ae hb;have Bp:=A_ (nl_ hg Ab);have C6:=A_ (ng_ hg Ab);replace Ab:=bz Ab hb;have Bq:=A_ (nl_ hg Ah);have C7:=A_ (ng_ hg Ah);replace Ah:=bz Ah hb;have Br:=A_ (nl_ hg Aj);have C8:=A_ (ng_ hg Aj);replace Aj:=bz Aj hb;clear hb hbox hg;have Qq:=C4.out;have Qr:=Bn.out;have Qs:=C5.out;have Qt:=Bo.out;have Qu:=C6.out;have Qv:=Bp.out;have Qw:=C7.out;have Qx:=Bq.out;have Qy:=C8.out;have Qz:=Br.out;have Ml : Jd.cell? ⟨Cx,0,none⟩ = some (.int .i64 0):=blk_cell Au.out 0;have Mm : Jd.cell? ⟨Cx,1,none⟩ = some (.slice none 0 0):=blk_cell Au.out 1;have Mn:=blk_frozen Au.out 0;have Mo:=blk_frozen Au.out 1;obtain ⟨Dj,Dc,Kj⟩:=Kd.R_slice Bi.out;subst Kj;have Mp : Jd.cell? ⟨Bw,0,none⟩ = some (.int .i64 As):=blk_cell Aj.out 0;have Mq : Jd.cell? ⟨Bw,1,none⟩ = some (.slice Ct Aq.length Co):=blk_cell Aj.out 1;have Mr:=blk_frozen Aj.out 0;have Ms:=blk_frozen Aj.out 1)|((with_reducible refine gate_callee (f:=84) rfl ?_);refine goesL_ (some 166) rfl rfl Tryd.func84 (by kernel_rfl) rfl #[.agg #[.int .i64 As,.slice Ct Aq.length Co],.agg #[.int .i64 Ba,.slice Dj Av.length Dc]] rfl au_ ?_;(with_reducible refine (Aaj.calls Cq As _ _ Aq Ba _ _ Av Dz D6 _ ?side1 ?side2 ?side3 ?side4 ?side5 I5.out).mono ?_);(case side1=>refine (Kd.R_reads' (e:=3) (base:=w.heap.size) (ok:=fun k_=>(((((((True ∧ some k_ ≠ (.slice Cv Bg.length Ci : Value).ownBlock) ∧ some k_ ≠ (.slice Ee Bu.length Ef : Value).ownBlock) ∧ some k_ ≠ (.slice Ao16 Am.length co16 : Value).ownBlock) ∧ some k_ ≠ (.slice Ao18 Al.length co18 : Value).ownBlock) ∧ some k_ ≠ (.slice Ao24 Ai.length co24 : Value).ownBlock) ∧ some k_ ≠ (.slice Ao33 Az.length co33 : Value).ownBlock) ∧ some k_ ≠ (.slice Dj Av.length Dc : Value).ownBlock)) (n:=Aq.length) (c:=Co) ?_).2.2;exact (rq_ (rf_ Ay Au (.int .i64 Ba) (.slice Dj Av.length Dc))));(case side2=>exact (Kd.R_reads' Ay.out).2.1);(case side3=>refine (Kd.R_reads' (e:=3) (base:=w.heap.size) (ok:=fun k_=>(((((((True ∧ some k_ ≠ (.slice Cv Bg.length Ci : Value).ownBlock) ∧ some k_ ≠ (.slice Ee Bu.length Ef : Value).ownBlock) ∧ some k_ ≠ (.slice Ao16 Am.length co16 : Value).ownBlock) ∧ some k_ ≠ (.slice Ao18 Al.length co18 : Value).ownBlock) ∧ some k_ ≠ (.slice Ao24 Ai.length co24 : Value).ownBlock) ∧ some k_ ≠ (.slice Ao33 Az.length co33 : Value).ownBlock) ∧ some k_ ≠ (.slice Ct Aq.length Co : Value).ownBlock)) (n:=Av.length) (c:=Dc) ?_).2.2;exact (rq_ (rf_ Bi Au (.int .i64 Ba) (.slice Dj Av.length Dc))));(case side4=>exact (Kd.R_reads' Bi.out).2.1);(case side5=>first|exact HT.out|exact HT.out.below bb_|(repeat (first|exact HT.out|apply TabOK.drewN|apply TabOK.drew|apply TabOK.alloc)));rintro e Sd ⟨rfl,hb⟩;refine ⟨_,rfl,?_⟩;replace HO_19:=A_ (Kd.R_below (rq_ (rf_ HO_19 Au (.int .i64 Ba) (.slice Dj Av.length Dc))) hb);replace HO_21:=A_ (Kd.R_below (rq_ (rf_ HO_21 Au (.int .i64 Ba) (.slice Dj Av.length Dc))) hb);replace Ad:=A_ (Kd.R_below (rq_ (rf_ Ad Au (.int .i64 Ba) (.slice Dj Av.length Dc))) hb);replace Ac:=A_ (Kd.R_below (rq_ (rf_ Ac Au (.int .i64 Ba) (.slice Dj Av.length Dc))) hb);replace Aa:=A_ (Kd.R_below (rq_ (rf_ Aa Au (.int .i64 Ba) (.slice Dj Av.length Dc))) hb);replace Ag:=A_ (Kd.R_below (rq_ (rf_ Ag Au (.int .i64 Ba) (.slice Dj Av.length Dc))) hb);replace Ay:=A_ (Kd.R_below (rq_ (rf_ Ay Au (.int .i64 Ba) (.slice Dj Av.length Dc))) hb);replace Bi:=A_ (Kd.R_below (rq_ (rf_ Bi Au (.int .i64 Ba) (.slice Dj Av.length Dc))) hb);replace Af:=A_ (blk_below (g:=Bb) (o:=.cells #[.int .i64 Ap,.slice Ao16 Am.length co16] 28 (0,0)) (by (with_reducible repeat (first|refine blk_drewN ?_ _|refine blk_drew ?_|refine blk_alloc ?_ _));refine blk_far ?_ Bn.out _;(with_reducible repeat (first|refine blk_drewN ?_ _|refine blk_drew ?_|refine blk_alloc ?_ _));refine blk_far ?_ Bn.out _;(with_reducible repeat (first|refine blk_drewN ?_ _|refine blk_drew ?_|refine blk_alloc ?_ _));exact Af.out) hb);replace Ae:=A_ (blk_below (g:=Ax) (o:=.cells #[.int .i64 Ao,.slice Ao18 Al.length co18] 28 (0,0)) (by (with_reducible repeat (first|refine blk_drewN ?_ _|refine blk_drew ?_|refine blk_alloc ?_ _));refine blk_far ?_ Bo.out _;(with_reducible repeat (first|refine blk_drewN ?_ _|refine blk_drew ?_|refine blk_alloc ?_ _));refine blk_far ?_ Bo.out _;(with_reducible repeat (first|refine blk_drewN ?_ _|refine blk_drew ?_|refine blk_alloc ?_ _));exact Ae.out) hb);replace Ab:=A_ (blk_below (g:=At) (o:=.cells #[.int .i64 Ak,.slice Ao24 Ai.length co24] 28 (0,0)) (by (with_reducible repeat (first|refine blk_drewN ?_ _|refine blk_drew ?_|refine blk_alloc ?_ _));refine blk_far ?_ Bp.out _;(with_reducible repeat (first|refine blk_drewN ?_ _|refine blk_drew ?_|refine blk_alloc ?_ _));refine blk_far ?_ Bp.out _;(with_reducible repeat (first|refine blk_drewN ?_ _|refine blk_drew ?_|refine blk_alloc ?_ _));exact Ab.out) hb);replace Ah:=A_ (blk_below (g:=Cg) (o:=.cells #[.int .i64 B4,.slice Ao33 Az.length co33] 28 (0,0)) (by (with_reducible repeat (first|refine blk_drewN ?_ _|refine blk_drew ?_|refine blk_alloc ?_ _));refine blk_far ?_ Bq.out _;(with_reducible repeat (first|refine blk_drewN ?_ _|refine blk_drew ?_|refine blk_alloc ?_ _));refine blk_far ?_ Bq.out _;(with_reducible repeat (first|refine blk_drewN ?_ _|refine blk_drew ?_|refine blk_alloc ?_ _));exact Ah.out) hb);replace Aj:=A_ (blk_below (g:=Bw) (o:=.cells #[.int .i64 As,.slice Ct Aq.length Co] 28 (0,0)) (by (with_reducible repeat (first|refine blk_drewN ?_ _|refine blk_drew ?_|refine blk_alloc ?_ _));refine blk_far ?_ Br.out _;(with_reducible repeat (first|refine blk_drewN ?_ _|refine blk_drew ?_|refine blk_alloc ?_ _));refine blk_far ?_ Br.out _;(with_reducible repeat (first|refine blk_drewN ?_ _|refine blk_drew ?_|refine blk_alloc ?_ _));exact Aj.out) hb);replace Au:=A_ (blk_below (g:=Cx) (o:=.cells #[.int .i64 Ba,.slice Dj Av.length Dc] 28 (0,0)) (by (with_reducible repeat (first|refine blk_drewN ?_ _|refine blk_drew ?_|refine blk_alloc ?_ _));refine blk_put (cs:=#[.int .i64 Ba,.slice none 0 0]) ?_ 1 _ rfl;(with_reducible repeat (first|refine blk_drewN ?_ _|refine blk_drew ?_|refine blk_alloc ?_ _));refine blk_put (cs:=#[.int .i64 0,.slice none 0 0]) ?_ 0 _ rfl;(with_reducible repeat (first|refine blk_drewN ?_ _|refine blk_drew ?_|refine blk_alloc ?_ _));exact Au.out) hb);replace HB:=A_ (below_step bb_ hb);(try clear hb);(try clear hb2);(try clear hk);(try clear hi)))
             go_ret
             exact ⟨by first|rfl|(simp [errW_none,errW_some] <;> rfl)|(simp [*,errW_none,errW_some] <;> rfl),bb_⟩
           ·replace I6:=Bool.eq_false_iff.mpr I6;subst I6;have H1 : (some false) = some r:=by rw [if_neg (show ¬ (false = true) by decide)] at H;exact H
            clear H;have H:=H1;clear H1;obtain rfl:=Option.some.inj H;obtain ⟨Eg,Eh,Kk⟩:=Kd.R_slice HO_21.out;subst Kk
            go_wp2_with (first|((with_reducible refine gate_callee (f:=73) rfl ?_);refine goesL_ (some 155) rfl rfl Tryd.func73 (by kernel_rfl) rfl #[.slice Eg Bu.length Eh] rfl au_ ?_;(with_reducible refine (Aa0.calls Cq _ _ Bu As Aq false _ ?side1 ?side2 I3.out).mono ?_);(case side1=>exact cl_ (Kd.R_reads' HO_21.out).2.2);(case side2=>exact (Kd.R_reads' HO_21.out).2.1);rintro e Se ⟨I9,rfl,ho0,hb⟩;refine ⟨_,rfl,?_⟩;have Ay:=A_ (Kd.R_lower (Kd.R_new' (Kd.R_new' (Kd.R_new' (Kd.R_new' (Kd.R_new' (Kd.R_new' ho0 (Kd.R_lt (rl_ HO_19))) (Kd.R_lt (rl_ HO_21))) (Kd.R_lt (rl_ Ad))) (Kd.R_lt (rl_ Ac))) (Kd.R_lt (rl_ Aa))) (Kd.R_lt (rl_ Ag))) (below_size bb_));replace HO_19:=A_ (Kd.R_elder' (rl_ HO_19) (Kd.R_base ho0) hb);replace HO_21:=A_ (Kd.R_elder' (rl_ HO_21) (Kd.R_base ho0) hb);replace Ad:=A_ (Kd.R_elder' (rl_ Ad) (Kd.R_base ho0) hb);replace Ac:=A_ (Kd.R_elder' (rl_ Ac) (Kd.R_base ho0) hb);replace Aa:=A_ (Kd.R_elder' (rl_ Aa) (Kd.R_base ho0) hb);replace Ag:=A_ (Kd.R_elder' (rl_ Ag) (Kd.R_base ho0) hb);replace Af:=bz Af hb;replace Ae:=bz Ae hb;replace Ab:=bz Ab hb;replace Ah:=bz Ah hb;replace HB:=A_ (below_step bb_ hb);(try clear hb);(try clear hb2);(try clear hk);(try clear hi);(try clear ho0))|((with_reducible refine gate_dst (N:=25) rfl ?_);refine box_event ?hg (N:=25) ?hd (cs:=#[.int .i64 0,.slice none 0 0]) (t:=28) ?hr ?_;(case hd=>rfl);(case hg=>rfl);(case hr=>go_simp;try rfl);intro Bw hg J4 hbox hb;replace HO_19:=rb_ HO_19 hb;replace HO_21:=rb_ HO_21 hb;replace Ad:=rb_ Ad hb;replace Ac:=rb_ Ac hb;replace Aa:=rb_ Aa hb;replace Ag:=rb_ Ag hb;replace Ay:=rb_ Ay hb;have Aj:=A_ (hbox);have In:=A_ (gw_ (w:=w) hg bb_);have Io:=A_ (gw_ (w:=w) hg bb_);replace HB:=A_ (below_step bb_ hb);have Bj:=A_ (nl_ hg Af);have C0:=A_ (ng_ hg Af);replace Af:=bz Af hb;have Bk:=A_ (nl_ hg Ae);have C1:=A_ (ng_ hg Ae);replace Ae:=bz Ae hb;have Bl:=A_ (nl_ hg Ab);have C2:=A_ (ng_ hg Ab);replace Ab:=bz Ab hb;have Bm:=A_ (nl_ hg Ah);have C3:=A_ (ng_ hg Ah);replace Ah:=bz Ah hb;clear hb hbox hg;have Q0:=C0.out;have Q1:=Bj.out;have Q2:=C1.out;have Q3:=Bk.out;have Q4:=C2.out;have Q5:=Bl.out;have Q6:=C3.out;have Q7:=Bm.out;have Mt : J4.cell? ⟨Bw,0,none⟩ = some (.int .i64 0):=blk_cell Aj.out 0;have Mu : J4.cell? ⟨Bw,1,none⟩ = some (.slice none 0 0):=blk_cell Aj.out 1;have Mv:=blk_frozen Aj.out 0;have Mw:=blk_frozen Aj.out 1;obtain ⟨Cu,Cp,Kl⟩:=Kd.R_slice Ay.out;subst Kl)|((with_reducible refine gate_callee (f:=73) rfl ?_);refine goesL_ (some 160) rfl rfl Tryd.func73 (by kernel_rfl) rfl #[.slice Cv Bg.length Ci] rfl au_ ?_;(with_reducible refine (Aa0.calls Cq _ _ Bg Ba Av D7 _ ?side1 ?side2 I4.out).mono ?_);(case side1=>refine (Kd.R_reads' (e:=3) (base:=w.heap.size) (ok:=fun k_=>((some k_ ≠ (.slice Eg Bu.length Eh : Value).ownBlock ∧ (some k_ ≠ (.slice Ao16 Am.length co16 : Value).ownBlock ∧ (some k_ ≠ (.slice Ao18 Al.length co18 : Value).ownBlock ∧ (some k_ ≠ (.slice Ao24 Ai.length co24 : Value).ownBlock ∧ some k_ ≠ (.slice Ao33 Az.length co33 : Value).ownBlock)))) ∧ some k_ ≠ (.slice Cu Aq.length Cp : Value).ownBlock)) (n:=Bg.length) (c:=Ci) ?_).2.2;exact (rq_ (rf_ HO_19 Aj (.int .i64 As) (.slice Cu Aq.length Cp))));(case side2=>exact (Kd.R_reads' HO_19.out).2.1);rintro e Sf ⟨Ja,rfl,ho0,hb⟩;refine ⟨_,rfl,?_⟩;have Bi:=A_ (Kd.R_lower (Kd.R_new' (Kd.R_new' (Kd.R_new' (Kd.R_new' (Kd.R_new' (Kd.R_new' (Kd.R_new' ho0 (Kd.R_lt (rq_ (rf_ HO_19 Aj (.int .i64 As) (.slice Cu Aq.length Cp))))) (Kd.R_lt (rq_ (rf_ HO_21 Aj (.int .i64 As) (.slice Cu Aq.length Cp))))) (Kd.R_lt (rq_ (rf_ Ad Aj (.int .i64 As) (.slice Cu Aq.length Cp))))) (Kd.R_lt (rq_ (rf_ Ac Aj (.int .i64 As) (.slice Cu Aq.length Cp))))) (Kd.R_lt (rq_ (rf_ Aa Aj (.int .i64 As) (.slice Cu Aq.length Cp))))) (Kd.R_lt (rq_ (rf_ Ag Aj (.int .i64 As) (.slice Cu Aq.length Cp))))) (Kd.R_lt (rq_ (rf_ Ay Aj (.int .i64 As) (.slice Cu Aq.length Cp))))) (below_size bb_));replace HO_19:=A_ (Kd.R_elder' (rq_ (rf_ HO_19 Aj (.int .i64 As) (.slice Cu Aq.length Cp))) (Kd.R_base ho0) hb);replace HO_21:=A_ (Kd.R_elder' (rq_ (rf_ HO_21 Aj (.int .i64 As) (.slice Cu Aq.length Cp))) (Kd.R_base ho0) hb);replace Ad:=A_ (Kd.R_elder' (rq_ (rf_ Ad Aj (.int .i64 As) (.slice Cu Aq.length Cp))) (Kd.R_base ho0) hb);replace Ac:=A_ (Kd.R_elder' (rq_ (rf_ Ac Aj (.int .i64 As) (.slice Cu Aq.length Cp))) (Kd.R_base ho0) hb);replace Aa:=A_ (Kd.R_elder' (rq_ (rf_ Aa Aj (.int .i64 As) (.slice Cu Aq.length Cp))) (Kd.R_base ho0) hb);replace Ag:=A_ (Kd.R_elder' (rq_ (rf_ Ag Aj (.int .i64 As) (.slice Cu Aq.length Cp))) (Kd.R_base ho0) hb);replace Ay:=A_ (Kd.R_elder' (rq_ (rf_ Ay Aj (.int .i64 As) (.slice Cu Aq.length Cp))) (Kd.R_base ho0) hb);replace Af:=A_ (blk_below (g:=Bb) (o:=.cells #[.int .i64 Ap,.slice Ao16 Am.length co16] 28 (0,0)) (by (with_reducible repeat (first|refine blk_drewN ?_ _|refine blk_drew ?_|refine blk_alloc ?_ _));refine blk_far ?_ Bj.out _;(with_reducible repeat (first|refine blk_drewN ?_ _|refine blk_drew ?_|refine blk_alloc ?_ _));refine blk_far ?_ Bj.out _;(with_reducible repeat (first|refine blk_drewN ?_ _|refine blk_drew ?_|refine blk_alloc ?_ _));exact Af.out) hb);replace Ae:=A_ (blk_below (g:=Ax) (o:=.cells #[.int .i64 Ao,.slice Ao18 Al.length co18] 28 (0,0)) (by (with_reducible repeat (first|refine blk_drewN ?_ _|refine blk_drew ?_|refine blk_alloc ?_ _));refine blk_far ?_ Bk.out _;(with_reducible repeat (first|refine blk_drewN ?_ _|refine blk_drew ?_|refine blk_alloc ?_ _));refine blk_far ?_ Bk.out _;(with_reducible repeat (first|refine blk_drewN ?_ _|refine blk_drew ?_|refine blk_alloc ?_ _));exact Ae.out) hb);replace Ab:=A_ (blk_below (g:=At) (o:=.cells #[.int .i64 Ak,.slice Ao24 Ai.length co24] 28 (0,0)) (by (with_reducible repeat (first|refine blk_drewN ?_ _|refine blk_drew ?_|refine blk_alloc ?_ _));refine blk_far ?_ Bl.out _;(with_reducible repeat (first|refine blk_drewN ?_ _|refine blk_drew ?_|refine blk_alloc ?_ _));refine blk_far ?_ Bl.out _;(with_reducible repeat (first|refine blk_drewN ?_ _|refine blk_drew ?_|refine blk_alloc ?_ _));exact Ab.out) hb);replace Ah:=A_ (blk_below (g:=Cg) (o:=.cells #[.int .i64 B4,.slice Ao33 Az.length co33] 28 (0,0)) (by (with_reducible repeat (first|refine blk_drewN ?_ _|refine blk_drew ?_|refine blk_alloc ?_ _));refine blk_far ?_ Bm.out _;(with_reducible repeat (first|refine blk_drewN ?_ _|refine blk_drew ?_|refine blk_alloc ?_ _));refine blk_far ?_ Bm.out _;(with_reducible repeat (first|refine blk_drewN ?_ _|refine blk_drew ?_|refine blk_alloc ?_ _));exact Ah.out) hb);replace Aj:=A_ (blk_below (g:=Bw) (o:=.cells #[.int .i64 As,.slice Cu Aq.length Cp] 28 (0,0)) (by (with_reducible repeat (first|refine blk_drewN ?_ _|refine blk_drew ?_|refine blk_alloc ?_ _));refine blk_put (cs:=#[.int .i64 As,.slice none 0 0]) ?_ 1 _ rfl;(with_reducible repeat (first|refine blk_drewN ?_ _|refine blk_drew ?_|refine blk_alloc ?_ _));refine blk_put (cs:=#[.int .i64 0,.slice none 0 0]) ?_ 0 _ rfl;(with_reducible repeat (first|refine blk_drewN ?_ _|refine blk_drew ?_|refine blk_alloc ?_ _));exact Aj.out) hb);replace HB:=A_ (below_step bb_ hb);(try clear hb);(try clear hb2);(try clear hk);(try clear hi);(try clear ho0))|((with_reducible refine gate_dst (N:=27) rfl ?_);refine box_event ?hg (N:=27) ?hd (cs:=#[.int .i64 0,.slice none 0 0]) (t:=28) ?hr ?_;(case hd=>rfl);(case hg=>rfl);(case hr=>go_simp;try rfl);intro Cx hg Je hbox hb;replace HO_19:=rb_ HO_19 hb;replace HO_21:=rb_ HO_21 hb;replace Ad:=rb_ Ad hb;replace Ac:=rb_ Ac hb;replace Aa:=rb_ Aa hb;replace Ag:=rb_ Ag hb;replace Ay:=rb_ Ay hb;replace Bi:=rb_ Bi hb;have Au:=A_ (hbox);have Ip:=A_ (gw_ (w:=w) hg bb_);have Iq:=A_ (gw_ (w:=w) hg bb_);replace HB:=A_ (below_step bb_ hb);have Bn:=A_ (nl_ hg Af);have C4:=A_ (ng_ hg Af);replace Af:=bz Af hb;have Bo:=A_ (nl_ hg Ae);have C5:=A_ (ng_ hg Ae);replace Ae:=bz Ae hb;have Bp:=A_ (nl_ hg Ab);have C6:=A_ (ng_ hg Ab);replace Ab:=bz Ab hb;have Bq:=A_ (nl_ hg Ah);have C7:=A_ (ng_ hg Ah);replace Ah:=bz Ah hb;have Br:=A_ (nl_ hg Aj);have C8:=A_ (ng_ hg Aj);replace Aj:=bz Aj hb;clear hb hbox hg;have Q8:=C4.out;have Q9:=Bn.out;have Ra:=C5.out;have Rb:=Bo.out;have Rc:=C6.out;have Rd:=Bp.out;have Re:=C7.out;have Rf:=Bq.out;have Rg:=C8.out;have Rh:=Br.out;have Mx : Je.cell? ⟨Cx,0,none⟩ = some (.int .i64 0):=blk_cell Au.out 0;have My : Je.cell? ⟨Cx,1,none⟩ = some (.slice none 0 0):=blk_cell Au.out 1;have Mz:=blk_frozen Au.out 0;have M0:=blk_frozen Au.out 1;obtain ⟨Dk,Dd,Km⟩:=Kd.R_slice Bi.out;subst Km;have M1 : Je.cell? ⟨Bw,0,none⟩ = some (.int .i64 As):=blk_cell Aj.out 0;have M2 : Je.cell? ⟨Bw,1,none⟩ = some (.slice Cu Aq.length Cp):=blk_cell Aj.out 1;have M3:=blk_frozen Aj.out 0;have M4:=blk_frozen Aj.out 1)|((with_reducible refine gate_callee (f:=84) rfl ?_);refine goesL_ (some 166) rfl rfl Tryd.func84 (by kernel_rfl) rfl #[.agg #[.int .i64 As,.slice Cu Aq.length Cp],.agg #[.int .i64 Ba,.slice Dk Av.length Dd]] rfl au_ ?_;(with_reducible refine (Aaj.calls Cq As _ _ Aq Ba _ _ Av Dz D6 _ ?side1 ?side2 ?side3 ?side4 ?side5 I5.out).mono ?_);(case side1=>refine (Kd.R_reads' (e:=3) (base:=w.heap.size) (ok:=fun k_=>(((((((True ∧ some k_ ≠ (.slice Cv Bg.length Ci : Value).ownBlock) ∧ some k_ ≠ (.slice Eg Bu.length Eh : Value).ownBlock) ∧ some k_ ≠ (.slice Ao16 Am.length co16 : Value).ownBlock) ∧ some k_ ≠ (.slice Ao18 Al.length co18 : Value).ownBlock) ∧ some k_ ≠ (.slice Ao24 Ai.length co24 : Value).ownBlock) ∧ some k_ ≠ (.slice Ao33 Az.length co33 : Value).ownBlock) ∧ some k_ ≠ (.slice Dk Av.length Dd : Value).ownBlock)) (n:=Aq.length) (c:=Cp) ?_).2.2;exact (rq_ (rf_ Ay Au (.int .i64 Ba) (.slice Dk Av.length Dd))));(case side2=>exact (Kd.R_reads' Ay.out).2.1);(case side3=>refine (Kd.R_reads' (e:=3) (base:=w.heap.size) (ok:=fun k_=>(((((((True ∧ some k_ ≠ (.slice Cv Bg.length Ci : Value).ownBlock) ∧ some k_ ≠ (.slice Eg Bu.length Eh : Value).ownBlock) ∧ some k_ ≠ (.slice Ao16 Am.length co16 : Value).ownBlock) ∧ some k_ ≠ (.slice Ao18 Al.length co18 : Value).ownBlock) ∧ some k_ ≠ (.slice Ao24 Ai.length co24 : Value).ownBlock) ∧ some k_ ≠ (.slice Ao33 Az.length co33 : Value).ownBlock) ∧ some k_ ≠ (.slice Cu Aq.length Cp : Value).ownBlock)) (n:=Av.length) (c:=Dd) ?_).2.2;exact (rq_ (rf_ Bi Au (.int .i64 Ba) (.slice Dk Av.length Dd))));(case side4=>exact (Kd.R_reads' Bi.out).2.1);(case side5=>first|exact HT.out|exact HT.out.below bb_|(repeat (first|exact HT.out|apply TabOK.drewN|apply TabOK.drew|apply TabOK.alloc)));rintro e Sg ⟨rfl,hb⟩;refine ⟨_,rfl,?_⟩;replace HO_19:=A_ (Kd.R_below (rq_ (rf_ HO_19 Au (.int .i64 Ba) (.slice Dk Av.length Dd))) hb);replace HO_21:=A_ (Kd.R_below (rq_ (rf_ HO_21 Au (.int .i64 Ba) (.slice Dk Av.length Dd))) hb);replace Ad:=A_ (Kd.R_below (rq_ (rf_ Ad Au (.int .i64 Ba) (.slice Dk Av.length Dd))) hb);replace Ac:=A_ (Kd.R_below (rq_ (rf_ Ac Au (.int .i64 Ba) (.slice Dk Av.length Dd))) hb);replace Aa:=A_ (Kd.R_below (rq_ (rf_ Aa Au (.int .i64 Ba) (.slice Dk Av.length Dd))) hb);replace Ag:=A_ (Kd.R_below (rq_ (rf_ Ag Au (.int .i64 Ba) (.slice Dk Av.length Dd))) hb);replace Ay:=A_ (Kd.R_below (rq_ (rf_ Ay Au (.int .i64 Ba) (.slice Dk Av.length Dd))) hb);replace Bi:=A_ (Kd.R_below (rq_ (rf_ Bi Au (.int .i64 Ba) (.slice Dk Av.length Dd))) hb);replace Af:=A_ (blk_below (g:=Bb) (o:=.cells #[.int .i64 Ap,.slice Ao16 Am.length co16] 28 (0,0)) (by (with_reducible repeat (first|refine blk_drewN ?_ _|refine blk_drew ?_|refine blk_alloc ?_ _));refine blk_far ?_ Bn.out _;(with_reducible repeat (first|refine blk_drewN ?_ _|refine blk_drew ?_|refine blk_alloc ?_ _));refine blk_far ?_ Bn.out _;(with_reducible repeat (first|refine blk_drewN ?_ _|refine blk_drew ?_|refine blk_alloc ?_ _));exact Af.out) hb);replace Ae:=A_ (blk_below (g:=Ax) (o:=.cells #[.int .i64 Ao,.slice Ao18 Al.length co18] 28 (0,0)) (by (with_reducible repeat (first|refine blk_drewN ?_ _|refine blk_drew ?_|refine blk_alloc ?_ _));refine blk_far ?_ Bo.out _;(with_reducible repeat (first|refine blk_drewN ?_ _|refine blk_drew ?_|refine blk_alloc ?_ _));refine blk_far ?_ Bo.out _;(with_reducible repeat (first|refine blk_drewN ?_ _|refine blk_drew ?_|refine blk_alloc ?_ _));exact Ae.out) hb);replace Ab:=A_ (blk_below (g:=At) (o:=.cells #[.int .i64 Ak,.slice Ao24 Ai.length co24] 28 (0,0)) (by (with_reducible repeat (first|refine blk_drewN ?_ _|refine blk_drew ?_|refine blk_alloc ?_ _));refine blk_far ?_ Bp.out _;(with_reducible repeat (first|refine blk_drewN ?_ _|refine blk_drew ?_|refine blk_alloc ?_ _));refine blk_far ?_ Bp.out _;(with_reducible repeat (first|refine blk_drewN ?_ _|refine blk_drew ?_|refine blk_alloc ?_ _));exact Ab.out) hb);replace Ah:=A_ (blk_below (g:=Cg) (o:=.cells #[.int .i64 B4,.slice Ao33 Az.length co33] 28 (0,0)) (by (with_reducible repeat (first|refine blk_drewN ?_ _|refine blk_drew ?_|refine blk_alloc ?_ _));refine blk_far ?_ Bq.out _;(with_reducible repeat (first|refine blk_drewN ?_ _|refine blk_drew ?_|refine blk_alloc ?_ _));refine blk_far ?_ Bq.out _;(with_reducible repeat (first|refine blk_drewN ?_ _|refine blk_drew ?_|refine blk_alloc ?_ _));exact Ah.out) hb);replace Aj:=A_ (blk_below (g:=Bw) (o:=.cells #[.int .i64 As,.slice Cu Aq.length Cp] 28 (0,0)) (by (with_reducible repeat (first|refine blk_drewN ?_ _|refine blk_drew ?_|refine blk_alloc ?_ _));refine blk_far ?_ Br.out _;(with_reducible repeat (first|refine blk_drewN ?_ _|refine blk_drew ?_|refine blk_alloc ?_ _));refine blk_far ?_ Br.out _;(with_reducible repeat (first|refine blk_drewN ?_ _|refine blk_drew ?_|refine blk_alloc ?_ _));exact Aj.out) hb);replace Au:=A_ (blk_below (g:=Cx) (o:=.cells #[.int .i64 Ba,.slice Dk Av.length Dd] 28 (0,0)) (by (with_reducible repeat (first|refine blk_drewN ?_ _|refine blk_drew ?_|refine blk_alloc ?_ _));refine blk_put (cs:=#[.int .i64 Ba,.slice none 0 0]) ?_ 1 _ rfl;(with_reducible repeat (first|refine blk_drewN ?_ _|refine blk_drew ?_|refine blk_alloc ?_ _));refine blk_put (cs:=#[.int .i64 0,.slice none 0 0]) ?_ 0 _ rfl;(with_reducible repeat (first|refine blk_drewN ?_ _|refine blk_drew ?_|refine blk_alloc ?_ _));exact Au.out) hb);replace HB:=A_ (below_step bb_ hb);(try clear hb);(try clear hb2);(try clear hk);(try clear hi)))
            go_ret
            exact ⟨by first|rfl|(simp [errW_none,errW_some] <;> rfl)|(simp [*,errW_none,errW_some] <;> rfl),bb_⟩
          ·replace I2:=Bool.eq_false_iff.mpr I2;subst I2;have H1 : (some true) = some r:=by rw [if_neg (show ¬ (false = true) by decide)] at H;exact H
           clear H;have H:=H1;clear H1;obtain rfl:=Option.some.inj H;go_wp2
           go_ret
           exact ⟨by first|rfl|(simp [errW_none,errW_some] <;> rfl)|(simp [*,errW_none,errW_some] <;> rfl),bb_⟩
def Aac.Pure : Prop := ∀ (l0 : List Int) (l1 : List Int), l0.length ≤ maxLen → l0.length * 1 ≤ 140737488351232 → (∀ x ∈ l0, (Lit.int .u8 x).wf = true) → l1.length ≤ maxLen → l1.length * 1 ≤ 140737488351232 → (∀ x ∈ l1, (Lit.int .u8 x).wf = true) → ∃ k, Aac.f k l0 l1 = some true
theorem Aac.walk (P : Aac.Pure) (a0 : Option Addr) (len0 cap0 : Nat) (z0 : List Int) (a1 : Option Addr) (len1 cap1 : Nat) (z1 : List Int) (w : World) (w0 : (a0 = none ∧ len0 = 0 ∧ cap0 = 0 ∧ z0 = []) ∨ ∃ x,a0 = some x ∧ len0 ≤ cap0 ∧ cap0 ≤ maxLen ∧ z0.length = cap0 ∧ (∀ i,i < z0.length → w.cell? (x.add i) = some (.int .u8 (z0.getD i 0))) ∧ ∀ n ∈ z0,(Lit.int .u8 n).wf = true) (y0 : len0 * 1 ≤ 140737488351232) (w1 : (a1 = none ∧ len1 = 0 ∧ cap1 = 0 ∧ z1 = []) ∨ ∃ x,a1 = some x ∧ len1 ≤ cap1 ∧ cap1 ≤ maxLen ∧ z1.length = cap1 ∧ (∀ i,i < z1.length → w.cell? (x.add i) = some (.int .u8 (z1.getD i 0))) ∧ ∀ n ∈ z1,(Lit.int .u8 n).wf = true) (y1 : len1 * 1 ≤ 140737488351232) (hT : TabOK w) :
 Calls Tryd.prog 10 #[.slice a0 len0 cap0,.slice a1 len1 cap1] w fun e w'=>e = .returned (.bool true) ∧ Below w.heap.size w w':=by
 obtain ⟨l0,rfl,hr0,hm0,hw0,hc0⟩:=ReadsInt.ofRowC w0;obtain ⟨l1,rfl,hr1,hm1,hw1,hc1⟩:=ReadsInt.ofRowC w1;obtain ⟨k,h⟩:=P l0 l1 hm0 y0 hw0 hm1 y1 hw1;refine (Aac.calls k _ _ l0 _ _ l1 true w (Kd.C_of_reads (d:=(0 : Int)) (h1:=fun _=>rfl) hr0) hc0 (Kd.C_of_reads (d:=(0 : Int)) (h1:=fun _=>rfl) hr1) hc1 hT h).mono ?_
 rintro e w' ⟨rfl,hd⟩
 exact ⟨rfl,hd⟩
def Abz.l0 : Nat → List Int → List Int → Int → Int → Option (Bool)
 | 0,_,_,_,_=>none
 | k + 1,x0,x1,x12,x13=>if x13 < x12 then (if 0 ≤ x13 then (if x13 < (x0.length : Int) then (if x13 < (x1.length : Int) then (if (rd x0 x13) = (rd x1 x13) then (Abz.l0 k x0 x1 x12 (wrap64 (x13 + 1))) else (some false)) else (none)) else (none)) else (none)) else (some true)
def Aby.f (a0_0 : Int) (l0_1 : List Int) : Option (Int) := if 0 ≤ a0_0 then (some (wrap64 ((shl .i64 1 a0_0) - 1))) else (none)

end Go.Proofs.YtimjblnglhmakaaDoor.P
namespace Go.Proofs.YtimjblnglhmakaaDoor.P
open Go.RowKit Go.Proofs.YtimjblnglhmakaaDoorW.PrintWords Go.Proofs.YtimjblnglhmakaaDoorW.PrintLast Go.Proofs.YtimjblnglhmakaaDoorW.PrintMore
open Bool renaming true → T, false → F
open List renaming setIfInBounds_toArray → L_, set_cons_zero → M_, set_cons_succ → N_, map_toArray → P_, map_cons → Q_, map_nil → R_, length_drop → S_, length_take → U_
open Aside0 renaming mk → A_
attribute [local go_sem] max2_int min2_int max_two min_two max_three min_three max_four min_four
set_option linter.unusedVariables false
set_option linter.unusedSimpArgs false
attribute [local go_sem] fldOrder_0 fldOrder_1
def Abx.l0 : Nat → List Int → Int → Int → Int → List Int → Int → List Int → Option (List Int)
 | 0,_,_,_,_,_,_,_=>none
 | k + 1,x3,x10,x11,x300000,x300001,x308000,x308001=>if x11 < x10 then ((Aby.f x300000 x300001).bind fun t308=>(if 0 ≤ x11 then (if x11 < (x300001.length : Int) then (if x11 < (x308001.length : Int) then (if x3.length < 17592186044416 then (Abx.l0 k (x3 ++ [Go.bits .andNot .i64 (Go.bits .andNot .i64 (Go.bits .andNot .i64 t308 (rd x300001 x11)) (rd x308001 x11)) (shl .i64 1 x11)]) x10 (wrap64 (x11 + 1)) x300000 x300001 x308000 x308001) else (none)) else (none)) else (none)) else (none))) else (some x3)
end Go.Proofs.YtimjblnglhmakaaDoor.P
namespace Go.Proofs.YtimjblnglhmakaaDoor.M
open Go.RowKit Go.Proofs.YtimjblnglhmakaaDoorW.PrintMore Go.Proofs.YtimjblnglhmakaaDoorW.PrintLast Go.Proofs.YtimjblnglhmakaaDoorW.PrintWords
theorem i64_small (n : Nat) (h : n < 9223372036854775808) : IntKind.i64.wrap (n : Int) = (n : Int) := by
  simp [IntKind.wrap, IntKind.signed, IntKind.bits]
  omega
theorem wrap64_id (x : Int) (h0 : -9223372036854775808 ≤ x) (h1 : x ≤ 9223372036854775807) : wrap64 x = x := by
  unfold wrap64
  omega
theorem ofInt64 (a : Nat) (ha : a < 18446744073709551616) : (BitVec.ofInt 64 (a : Int)).toNat = a := by
  rw [BitVec.ofInt_natCast, BitVec.toNat_ofNat]; exact Nat.mod_eq_of_lt (by omega)
theorem and_i64 (a b : Nat) (ha : a < 9223372036854775808) (hb : b < 9223372036854775808) : Go.bits .and .i64 (a : Int) (b : Int) = ((a &&& b : Nat) : Int) := by
  have hx : a &&& b < 2 ^ 63 := Nat.and_lt_two_pow _ (by omega)
  show IntKind.i64.wrap ((BitVec.ofInt 64 (a : Int) &&& BitVec.ofInt 64 (b : Int)).toNat : Int) = _
  rw [BitVec.toNat_and, ofInt64 a (by omega), ofInt64 b (by omega), i64_small _ (by omega)]
theorem or_i64 (a b : Nat) (ha : a < 9223372036854775808) (hb : b < 9223372036854775808) : Go.bits .or .i64 (a : Int) (b : Int) = ((a ||| b : Nat) : Int) := by
  have hx : a ||| b < 2 ^ 63 := Nat.or_lt_two_pow (by omega) (by omega)
  show IntKind.i64.wrap ((BitVec.ofInt 64 (a : Int) ||| BitVec.ofInt 64 (b : Int)).toNat : Int) = _
  rw [BitVec.toNat_or, ofInt64 a (by omega), ofInt64 b (by omega), i64_small _ (by omega)]
def diff (a b : Nat) : Nat := a &&& (a ^^^ b)
theorem testBit_diff (a b i : Nat) : (diff a b).testBit i = (a.testBit i && !b.testBit i) := by
  unfold diff
  rw [Nat.testBit_and, Nat.testBit_xor]
  cases a.testBit i <;> cases b.testBit i <;> rfl
theorem andNot_i64 (a b : Nat) (ha : a < 9223372036854775808) (hb : b < 9223372036854775808) : Go.bits .andNot .i64 (a : Int) (b : Int) = ((diff a b : Nat) : Int) := by
  have hx : diff a b < 2 ^ 63 := Nat.lt_of_le_of_lt Nat.and_le_left (by omega)
  show IntKind.i64.wrap ((BitVec.ofInt 64 (a : Int) &&& ~~~ BitVec.ofInt 64 (b : Int)).toNat : Int) = _
  have e : (BitVec.ofInt 64 (a : Int) &&& ~~~ BitVec.ofInt 64 (b : Int)).toNat = diff a b := by
    apply Nat.eq_of_testBit_eq
    intro i
    rw [BitVec.toNat_and, Nat.testBit_and, testBit_diff, ofInt64 a (by omega)]
    by_cases hi : i < 64
    · rw [show (~~~ BitVec.ofInt 64 (b : Int)).toNat.testBit i = !(BitVec.ofInt 64 (b : Int)).toNat.testBit i from by
        rw [BitVec.testBit_toNat, BitVec.testBit_toNat, BitVec.getLsbD_not]; simp [hi], ofInt64 b (by omega)]
    · rw [Nat.testBit_lt_two_pow (x := a) (i := i) (Nat.lt_of_lt_of_le (by omega : a < 2 ^ 64) (Nat.pow_le_pow_right (by decide) (by omega)))]
      rfl
  rw [e, i64_small _ (by omega)]
theorem shl1 (j : Nat) (h : j ≤ 62) : shl .i64 1 (j : Int) = ((2 ^ j : Nat) : Int) := by
  unfold shl
  have h2 : (2 : Nat) ^ j < 9223372036854775808 := Nat.lt_of_le_of_lt (Nat.pow_le_pow_right (by decide) h) (by decide)
  rw [Int.toNat_natCast, Nat.min_eq_left (by show j ≤ 64; omega), Int.one_mul]
  have := i64_small (2 ^ j) h2
  rwa [Int.natCast_pow] at this ⊢
theorem shr_nat (a j : Nat) (h : j ≤ 64) : shr .i64 (a : Int) (j : Int) = ((a / 2 ^ j : Nat) : Int) := by
  unfold shr
  rw [Int.toNat_natCast, Nat.min_eq_left (by exact h)]
  simp
def bit (s : Int) (j : Nat) : Bool := s.toNat.testBit j
theorem bit_cast (a j : Nat) : bit (a : Int) j = a.testBit j := by simp [bit]
theorem and_one (a : Nat) (j : Nat) : ((a / 2 ^ j) &&& 1 : Nat) = if a.testBit j then 1 else 0 := by
  rw [Nat.and_one_is_mod, Nat.testBit_eq_decide_div_mod_eq]
  rcases Nat.mod_two_eq_zero_or_one (a / 2 ^ j) with h | h <;> simp [h]
theorem has_and (s : Int) (j : Nat) (h0 : 0 ≤ s) (h1 : s < 9223372036854775808) (hj : j ≤ 64) : (Go.bits .and .i64 (shr .i64 s (j : Int)) 1 == 1) = bit s j := by
  obtain ⟨a, rfl⟩ := Int.eq_ofNat_of_zero_le h0
  have hl : a / 2 ^ j < 9223372036854775808 := Nat.lt_of_le_of_lt (Nat.div_le_self _ _) (by omega)
  rw [shr_nat a j hj, show (1 : Int) = ((1 : Nat) : Int) from rfl, and_i64 _ 1 hl (by decide), and_one, bit_cast]
  cases a.testBit j <;> rfl
theorem has_mod (s : Int) (j : Nat) (h0 : 0 ≤ s) (hj : j ≤ 64) : (Int.tmod (shr .i64 s (j : Int)) 2 == 1) = bit s j := by
  obtain ⟨a, rfl⟩ := Int.eq_ofNat_of_zero_le h0
  rw [shr_nat a j hj, bit_cast, Nat.testBit_eq_decide_div_mod_eq, Int.tmod_eq_emod_of_nonneg (Int.natCast_nonneg _)]
  rcases Nat.mod_two_eq_zero_or_one (a / 2 ^ j) with h | h
  · rw [show ((a / 2 ^ j : Nat) : Int) % 2 = 0 from by omega]; simp [h]
  · rw [show ((a / 2 ^ j : Nat) : Int) % 2 = 1 from by omega]; simp [h]
def setOf : Nat → (Nat → Bool) → Nat
  | 0, _ => 0
  | n + 1, q => setOf n q ||| (if q n then 2 ^ n else 0)
theorem testBit_setOf (n : Nat) (q : Nat → Bool) (j : Nat) : (setOf n q).testBit j = (decide (j < n) && q j) := by
  induction n with
  | zero => simp [setOf]
  | succ n ih =>
    unfold setOf
    rw [Nat.testBit_or, ih]
    by_cases hq : q n
    · rw [if_pos hq, Nat.testBit_two_pow]
      by_cases h : n = j
      · subst h; simp [hq]
      · have : (j < n + 1) ↔ j < n := by omega
        simp [h, this]
    · rw [if_neg hq]
      by_cases h : n = j
      · subst h; simp [hq]
      · have : (j < n + 1) ↔ j < n := by omega
        simp [this]
theorem setOf_lt (n : Nat) (q : Nat → Bool) : setOf n q < 2 ^ n := by
  induction n with
  | zero => simp [setOf]
  | succ n ih =>
    unfold setOf
    have h1 : setOf n q < 2 ^ (n + 1) := Nat.lt_of_lt_of_le ih (Nat.pow_le_pow_right (by decide) (by omega))
    refine Nat.or_lt_two_pow h1 ?_
    split
    · exact Nat.pow_lt_pow_right (by decide) (by omega)
    · exact Nat.two_pow_pos _
theorem lt62 {n s : Nat} (h : s < 2 ^ n) (hn : n ≤ 62) : s < 9223372036854775808 := Nat.lt_of_lt_of_le h (Nat.le_trans (Nat.pow_le_pow_right (by decide) hn) (by decide))
theorem setOf_62 (n : Nat) (q : Nat → Bool) (hn : n ≤ 62) : setOf n q < 9223372036854775808 := lt62 (setOf_lt n q) hn
end Go.Proofs.YtimjblnglhmakaaDoor.M
namespace Go.Proofs.YtimjblnglhmakaaDoor.M
open Go.RowKit Go.Proofs.YtimjblnglhmakaaDoorW.PrintMore Go.Proofs.YtimjblnglhmakaaDoorW.PrintLast Go.Proofs.YtimjblnglhmakaaDoorW.PrintWords
theorem Ev.up {α : Type} {r : α} (G : Nat → Nat → Option α) (n : Nat) (step : ∀ i, i < n → Ev (G (i + 1)) r → Ev (G i) r) (stop : Ev (G n) r) : Ev (G 0) r := by
  have key : ∀ m, m ≤ n → Ev (G (n - m)) r := by
    intro m
    induction m with
    | zero => intro _; exact stop
    | succ m ih =>
      intro hm
      have h := step (n - (m + 1)) (by omega)
      rw [show n - (m + 1) + 1 = n - m from by omega] at h
      exact h (ih (by omega))
  have := key n (Nat.le_refl _)
  rwa [Nat.sub_self] at this
theorem Ev.from {α : Type} {r : α} (G : Nat → Nat → Option α) (n i : Nat) (hi : i ≤ n) (step : ∀ i, i < n → Ev (G (i + 1)) r → Ev (G i) r) (stop : Ev (G n) r) : Ev (G i) r := by
  have h := Ev.up (fun j => G (i + j)) (n - i) (fun j hj h => step (i + j) (by omega) h) (by rw [show i + (n - i) = n from by omega]; exact stop)
  exact h
def allB (n : Nat) (p : Nat → Bool) : Bool := (List.range n).all p
theorem allB_iff {n : Nat} {p : Nat → Bool} : allB n p = true ↔ ∀ j, j < n → p j = true := by simp [allB]
theorem allB_false {n : Nat} {p : Nat → Bool} : allB n p = false ↔ ∃ j, j < n ∧ p j = false := by simp [allB]
theorem least_false {n : Nat} {p : Nat → Bool} (h : ∃ j, j < n ∧ p j = false) : ∃ j, j < n ∧ p j = false ∧ ∀ i, i < j → p i = true := by
  obtain ⟨j, hj, hp⟩ := h
  induction j using Nat.strongRecOn with
  | _ j ih =>
    by_cases hl : ∃ i, i < j ∧ p i = false
    · obtain ⟨i, hi, hpi⟩ := hl
      exact ih i hi (by omega) hpi
    · refine ⟨j, hj, hp, fun i hi => ?_⟩
      cases hc : p i with
      | true => rfl
      | false => exact absurd ⟨i, hi, hc⟩ hl
theorem Ev.all (G : Nat → Nat → Option Bool) (n : Nat) (p : Nat → Bool) (yes : ∀ i r, i < n → p i = true → Ev (G (i + 1)) r → Ev (G i) r) (no : ∀ i, i < n → p i = false → Ev (G i) false) (stop : Ev (G n) true) :
    Ev (G 0) (allB n p) := by
  cases h : allB n p with
  | true =>
    have h := allB_iff.1 h
    exact Ev.up G n (fun i hi => yes i true hi (h i hi)) stop
  | false =>
    obtain ⟨j, hj, hp, hl⟩ := least_false (allB_false.1 h)
    exact Ev.up G j (fun i hi => yes i false (by omega) (hl i hi)) (no j hj hp)
theorem Ev.const {α : Type} {x : Option α} {r : α} (h : x = some r) : Ev (fun _ => x) r := ⟨0, fun _ _ => h⟩
theorem Ev.to {α : Type} {g : Nat → Option α} {r r' : α} (h : Ev g r) (e : r = r') : Ev g r' := e ▸ h
theorem rd_nat (l : List Int) (i : Nat) : rd l (i : Int) = l.getD i 0 := by simp [rd]
theorem rd_get (l : List Int) (i : Nat) (h : i < l.length) : rd l (i : Int) = l[i] := by simp [rd, h]
theorem next64 (i n : Nat) (h : i < n) (hn : n ≤ 140737488355328) : wrap64 ((i : Int) + 1) = ((i + 1 : Nat) : Int) := by unfold wrap64; omega
theorem list_ext_getD {l l' : List Int} (hl : l.length = l'.length) (h : ∀ i, i < l.length → l.getD i 0 = l'.getD i 0) : l = l' := by
  apply List.ext_getElem hl
  intro i h1 h2
  have := h i h1
  simpa [h1, h2] using this
end Go.Proofs.YtimjblnglhmakaaDoor.M
namespace Go.Proofs.YtimjblnglhmakaaDoor.M
open Go.RowKit Go.Proofs.YtimjblnglhmakaaDoorW.PrintMore Go.Proofs.YtimjblnglhmakaaDoorW.PrintLast Go.Proofs.YtimjblnglhmakaaDoorW.PrintWords Go.Proofs.YtimjblnglhmakaaDoor.P
def elems (n s : Nat) : List Nat := (List.range n).filter fun j => s.testBit j
theorem mem_elems {n s j : Nat} : j ∈ elems n s ↔ j < n ∧ s.testBit j = true := by simp [elems]
theorem elems_zero (n : Nat) : elems n 0 = [] := by simp [elems]
def ints (l : List Nat) : List Int := l.map fun (j : Nat) => (j : Int)
theorem ints_length (l : List Nat) : (ints l).length = l.length := by simp [ints]
theorem elems_length_le (n s : Nat) : (elems n s).length ≤ n := by
  unfold elems
  exact Nat.le_trans (List.length_filter_le _ _) (by simp)
theorem filter_range_split (n c : Nat) (h : c < n) (p : Nat → Bool) : (List.range n).filter p = (List.range c).filter p ++ ((if p c then [c] else []) ++ (List.range' (c + 1) (n - (c + 1))).filter p) := by
  have e : List.range n = List.range c ++ ([c] ++ List.range' (c + 1) (n - (c + 1))) := by
    rw [List.range_eq_range', List.range_eq_range']
    have h1 : n = c + (1 + (n - (c + 1))) := by omega
    have e1 : List.range' 0 n = List.range' 0 c ++ List.range' c (1 + (n - (c + 1))) := by
      have := List.range'_append_1 (s := 0) (m := c) (n := 1 + (n - (c + 1)))
      rw [Nat.zero_add] at this
      rw [this, ← h1]
    rw [e1, Nat.add_comm 1, List.range'_succ]
    rfl
  rw [e, List.filter_append, List.filter_append]
  congr 1
  cases hp : p c <;> simp [hp]
theorem elems_least (n s c m : Nat) (hs : s = 2 ^ c * (2 * m + 1)) (hn : s < 2 ^ n) : elems n s = c :: elems n (s &&& (s - 1)) := by
  have hp : 0 < 2 ^ c := Nat.two_pow_pos c
  have e1 : s - 1 = 2 ^ (c + 1) * m + (2 ^ c - 1) := by
    have a1 : 2 ^ c * (2 * m + 1) = 2 ^ (c + 1) * m + 2 ^ c := by rw [Nat.pow_succ, Nat.mul_add, Nat.mul_assoc]; simp
    omega
  have hb : ∀ j, s.testBit j = if j < c then false else if j = c then true else m.testBit (j - (c + 1)) := by
    intro j
    rw [hs, Nat.mul_comm, Nat.testBit_mul_two_pow]
    by_cases h1 : j < c
    · rw [if_pos h1]; simp; omega
    · rw [if_neg h1]
      by_cases h2 : j = c
      · subst h2; simp
      · rw [if_neg h2]
        obtain ⟨d, rfl⟩ : ∃ d, j = c + (d + 1) := ⟨j - c - 1, by omega⟩
        rw [show c + (d + 1) - c = d + 1 from by omega, show c + (d + 1) - (c + 1) = d from by omega, Nat.testBit_succ, show (2 * m + 1) / 2 = m from by omega]
        simp
  have hb1 : ∀ j, (s - 1).testBit j = if j < c then true else if j = c then false else m.testBit (j - (c + 1)) := by
    intro j
    rw [e1, Nat.testBit_two_pow_mul_add m (by have : 2 ^ c < 2 ^ (c + 1) := Nat.pow_lt_pow_right (by decide) (by omega); omega)]
    by_cases h1 : j < c
    · rw [if_pos (by omega), if_pos h1, Nat.testBit_two_pow_sub_one]; simp [h1]
    · rw [if_neg h1]
      by_cases h2 : j = c
      · subst h2; rw [if_pos (by omega), if_pos rfl, Nat.testBit_two_pow_sub_one]; simp
      · rw [if_neg (by omega), if_neg h2]
  have hb2 : ∀ j, (s &&& (s - 1)).testBit j = if j ≤ c then false else s.testBit j := by
    intro j
    rw [Nat.testBit_and, hb, hb1]
    by_cases h1 : j < c
    · simp [h1, Nat.le_of_lt h1]
    · by_cases h2 : j = c
      · simp [h2]
      · rw [if_neg h1, if_neg h1, if_neg h2, if_neg h2, if_neg (by omega)]; simp
  have hc : c < n := by
    apply Nat.lt_of_not_le
    intro hle
    have h1 : 2 ^ n ≤ 2 ^ c := Nat.pow_le_pow_right (by decide) hle
    have h2 : 2 ^ c ≤ s := by rw [hs]; exact Nat.le_mul_of_pos_right _ (by omega)
    omega
  unfold elems
  rw [filter_range_split n c hc, filter_range_split n c hc (fun j => (s &&& (s - 1)).testBit j)]
  have z1 : (List.range c).filter (fun j => s.testBit j) = [] := by
    rw [List.filter_eq_nil_iff]; intro j hj; simp at hj; rw [hb, if_pos hj]; simp
  have z2 : (List.range c).filter (fun j => (s &&& (s - 1)).testBit j) = [] := by
    rw [List.filter_eq_nil_iff]; intro j hj; simp at hj; rw [hb2, if_pos (by omega)]; simp
  have z3 : (List.range' (c + 1) (n - (c + 1))).filter (fun j => s.testBit j) = (List.range' (c + 1) (n - (c + 1))).filter (fun j => (s &&& (s - 1)).testBit j) := by
    apply List.filter_congr
    intro j hj
    rw [List.mem_range'] at hj
    obtain ⟨i, hi, rfl⟩ := hj
    rw [hb2, if_neg (by omega)]
  have y1 : s.testBit c = true := by rw [hb, if_neg (by omega), if_pos rfl]
  have y2 : (s &&& (s - 1)).testBit c = false := by rw [hb2, if_pos (Nat.le_refl _)]
  rw [z1, z2, z3, if_pos y1, y2]
  rfl
theorem and_pred_lt (s : Nat) (h : s ≠ 0) : s &&& (s - 1) < s := Nat.lt_of_le_of_lt Nat.and_le_right (by omega)
theorem u64_small (n : Nat) (h : n < 18446744073709551616) : IntKind.u64.wrap (n : Int) = (n : Int) := by
  simp [IntKind.wrap, IntKind.signed, IntKind.bits]
  omega
theorem members_ev (n : Nat) (hn : n ≤ 62) (s : Nat) (hs : s < 2 ^ n) : Ev (fun k => Aa6.f k (s : Int)) (ints (elems n s)) := by
  have key : ∀ d s, s ≤ d → s < 2 ^ n → ∀ acc : List Int, acc.length + (elems n s).length ≤ 64 → Ev (fun k => Aa6.l0 k (s : Int) acc) (acc ++ ints (elems n s)) := by
    intro d
    induction d with
    | zero =>
      intro s h0 _ acc _
      obtain rfl : s = 0 := by omega
      refine Ev.step (fun _ => rfl) ?_
      simp only [Aa6.l0, Int.natCast_zero, if_true]
      rw [elems_zero]
      simpa [ints] using Ev.now acc
    | succ d ih =>
      intro s h0 hs acc ha
      by_cases hz : s = 0
      · exact ih s (by omega) hs acc ha
      · have hs2 := lt62 hs hn
        obtain ⟨m, hm, hk⟩ := Lib.ctzFrom_spec 64 s (by omega) (by omega)
        have he := elems_least n s _ m hm hs
        have hl : (elems n s).length = (elems n (s &&& (s - 1))).length + 1 := by rw [he]; rfl
        refine Ev.step (fun _ => rfl) ?_
        have hc : Lib.ctz 64 s = Lib.ctzFrom 64 s := by unfold Lib.ctz; rw [if_neg hz]
        have e1 : Abt.f (IntKind.u64.wrap (s : Int)) = some ((Lib.ctzFrom 64 s : Nat) : Int) := by
          rw [u64_small s (by omega)]
          unfold Abt.f Abn.f
          rw [if_pos ⟨by omega, by omega⟩, Int.toNat_natCast, hc]
          rfl
        have e2 : Go.bits .and .i64 (s : Int) (wrap64 ((s : Int) - 1)) = ((s &&& (s - 1) : Nat) : Int) := by
          rw [show wrap64 ((s : Int) - 1) = ((s - 1 : Nat) : Int) from by unfold wrap64; omega]
          exact and_i64 _ _ (by omega) (by omega)
        simp only [Aa6.l0, if_neg (show ¬ (s : Int) = 0 by omega), e1, Option.bind_some, if_pos (show acc.length < 17592186044416 by omega), e2]
        have := ih (s &&& (s - 1)) (by have := and_pred_lt s hz; omega) (Nat.lt_of_le_of_lt Nat.and_le_left hs) (acc ++ [((Lib.ctzFrom 64 s : Nat) : Int)]) (by simp; omega)
        refine Ev.to this ?_
        rw [he]
        simp [ints]
  have h := key s s (Nat.le_refl _) hs [] (by have := elems_length_le n s; simp; omega)
  exact h
theorem orHas_eq (s : Nat) (j : Nat) (hj : j ≤ 64) : Abc.f (s : Int) (j : Int) = some (s.testBit j) := by
  unfold Abc.f
  rw [if_pos (by omega), has_mod _ _ (by omega) hj, bit_cast]
theorem orList_ev (n : Nat) (hn : n ≤ 62) (s : Nat) (hs : s < 2 ^ n) : Ev (fun k => Aa2.f k (s : Int)) (ints (elems n s)) := by
  -- up to the place behind the last element
  obtain ⟨t, ht, hlt, hgt⟩ : ∃ t, t ≤ n ∧ s / 2 ^ t = 0 ∧ ∀ i, i < t → 0 < s / 2 ^ i := by
    refine ⟨(if s = 0 then 0 else Nat.log2 s + 1), ?_, ?_, ?_⟩
    · split
      · omega
      · rename_i h
        have := (Nat.log2_lt h (k := n)).2 hs
        omega
    · split
      · rename_i h; simp [h]
      · exact Nat.div_eq_of_lt (Nat.lt_log2_self)
    · intro i hi
      split at hi
      · omega
      · rename_i h
        apply Nat.div_pos _ (Nat.two_pow_pos _)
        exact Nat.le_trans (Nat.pow_le_pow_right (by decide) (by omega : i ≤ Nat.log2 s)) (Nat.log2_self_le h)
  have hs2 := lt62 hs hn
  have hsplit : elems n s = elems t s := by
    unfold elems
    have e : List.range n = List.range t ++ List.range' t (n - t) := by
      rw [List.range_eq_range', List.range_eq_range']
      have := List.range'_append_1 (s := 0) (m := t) (n := n - t)
      rw [Nat.zero_add] at this
      rw [this]
      congr 1
      omega
    rw [e, List.filter_append]
    have z : (List.range' t (n - t)).filter (fun j => s.testBit j) = [] := by
      rw [List.filter_eq_nil_iff]
      intro j hj
      rw [List.mem_range'] at hj
      obtain ⟨i, hi, rfl⟩ := hj
      have h1 : s < 2 ^ t := by
        rcases Nat.div_eq_zero_iff.1 hlt with h | h
        · exact absurd h (Nat.ne_of_gt (Nat.two_pow_pos _))
        · exact h
      rw [Nat.testBit_lt_two_pow (Nat.lt_of_lt_of_le h1 (Nat.pow_le_pow_right (by decide) (by omega)))]
      simp
    rw [z, List.append_nil]
  rw [hsplit]
  unfold Aa2.f
  refine Ev.up (fun i k => Aa2.l0 k (s : Int) (ints (elems i s)) (i : Int)) t ?_ ?_
  · intro i hi h
    refine Ev.step (fun _ => rfl) ?_
    have e1 : shr .i64 (s : Int) (i : Int) > 0 := by rw [shr_nat s i (by omega)]; have := hgt i hi; omega
    have hlen := elems_length_le i s
    have e2 : elems (i + 1) s = elems i s ++ (if s.testBit i then [i] else []) := by
      unfold elems
      rw [List.range_succ, List.filter_append]
      congr 1
      cases hb2 : s.testBit i <;> simp [hb2]
    simp only [Aa2.l0, if_pos (show (0 : Int) ≤ (i : Int) by omega), if_pos e1, orHas_eq s i (by omega), Option.bind_some, next64 i t hi (by omega)]
    rw [e2] at h
    cases hb : s.testBit i with
    | true =>
      simp only [if_true, ints_length, if_pos (show (elems i s).length < 17592186044416 by omega)]
      rw [hb] at h
      simpa [ints] using h
    | false =>
      rw [hb] at h
      simpa [ints] using h
  · refine Ev.step (fun _ => rfl) ?_
    have e1 : ¬ shr .i64 (s : Int) (t : Int) > 0 := by rw [shr_nat s t (by omega)]; omega
    simp only [Aa2.l0, if_pos (show (0 : Int) ≤ (t : Int) by omega), if_neg e1]
    exact Ev.now _
end Go.Proofs.YtimjblnglhmakaaDoor.M
