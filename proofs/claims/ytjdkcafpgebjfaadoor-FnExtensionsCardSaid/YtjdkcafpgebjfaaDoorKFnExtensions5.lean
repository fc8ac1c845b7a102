/- A part of the proof that the law FnExtensions holds at every input. Written by wip/pack.py: the kit's printed words that are used, the functions' walks as wip/gen.py prints them, and hand proofs. -/
import Derived.Test.YtjdkcafpgebjfaaDoorKFnExtensions4
namespace Go.Proofs.YtjdkcafpgebjfaaDoor.P
open Go.RowKit Go.Proofs.YtjdkcafpgebjfaaDoorW.PrintWords Go.Proofs.YtjdkcafpgebjfaaDoorW.PrintLast Go.Proofs.YtjdkcafpgebjfaaDoorW.PrintMore
open Bool renaming true → T, false → F
open List renaming setIfInBounds_toArray → L_, set_cons_zero → M_, set_cons_succ → N_, map_toArray → P_, map_cons → Q_, map_nil → R_, length_drop → S_, length_take → U_
open Aside0 renaming mk → A_
attribute [local go_sem] max2_int min2_int max_two min_two max_three min_three max_four min_four
set_option linter.unusedVariables false
set_option linter.unusedSimpArgs false
attribute [local go_sem] fldOrder_0 fldOrder_1
mutual
def laws_FnExtensions.j0 : Nat → Bool → Bool → Int → List Int → Int → List Int → Int → List Int → Int → List Int → Option (Bool)
 | 0,_,_,_,_,_,_,_,_,_,_=>none
 | k + 1,x8,x87,x992000,x992001,x993000,x993001,x999000,x999001,x1011000,x1011001=>if x87 = true then (some false) else ((impl_CountExtensions.f k x992000 x992001).bind fun bt1019=>((impl_CountExtensions.f k x993000 x993001).bind fun bt1021=>((spec_CountExtensions.f k x992000 x992001).bind fun bt1023=>(if (bt1019.2 != bt1023.2) = true then (laws_FnExtensions.j1 k x8 bt1019.1 bt1019.2 bt1021.1 bt1021.2 true x992000 x992001 x993000 x993001 x999000 x999001 x1011000 x1011001) else (laws_FnExtensions.j1 k x8 bt1019.1 bt1019.2 bt1021.1 bt1021.2 (bt1019.1 != bt1023.1) x992000 x992001 x993000 x993001 x999000 x999001 x1011000 x1011001)))))
def laws_FnExtensions.j1 : Nat → Bool → Int → Bool → Int → Bool → Bool → Int → List Int → Int → List Int → Int → List Int → Int → List Int → Option (Bool)
 | 0,_,_,_,_,_,_,_,_,_,_,_,_,_,_=>none
 | k + 1,x8,x15,x16,x17,x18,x110,x992000,x992001,x993000,x993001,x999000,x999001,x1011000,x1011001=>if x110 = true then (some false) else (if x16 = true then ((impl_FirstExtension.f k x992000 x992001).bind fun bt1025=>((impl_IsExtension.f k x992000 x992001 bt1025.1).bind fun bt1029=>(if bt1025.2 = true then (if bt1029.2 = true then (if bt1029.1 = true then (if x15 < 1 then (some false) else (laws_FnExtensions.j2 k x8 x15 x16 x17 x18 x992000 x992001 x993000 x993001 x999000 x999001 x1011000 x1011001)) else (some false)) else (some false)) else (some false)))) else (laws_FnExtensions.j2 k x8 x15 x16 x17 x18 x992000 x992001 x993000 x993001 x999000 x999001 x1011000 x1011001))
def laws_FnExtensions.j2 : Nat → Bool → Int → Bool → Int → Bool → Int → List Int → Int → List Int → Int → List Int → Int → List Int → Option (Bool)
 | 0,_,_,_,_,_,_,_,_,_,_,_,_,_=>none
 | k + 1,x8,x15,x16,x17,x18,x992000,x992001,x993000,x993001,x999000,x999001,x1011000,x1011001=>if x8 = true then (laws_FnExtensions.l0 k x15 x16 x17 x18 1 1 x992000 x992001 x993000 x993001 x999000 x999001 x1011000 x1011001) else (some true)
def laws_FnExtensions.l0 : Nat → Int → Bool → Int → Bool → Int → Int → Int → List Int → Int → List Int → Int → List Int → Int → List Int → Option (Bool)
 | 0,_,_,_,_,_,_,_,_,_,_,_,_,_,_=>none
 | k + 1,x15,x16,x17,x18,x25,x26,x992000,x992001,x993000,x993001,x999000,x999001,x1011000,x1011001=>if x26 ≤ x993000 then (if x26 = 0 then (none) else (laws_FnExtensions.l0 k x15 x16 x17 x18 (wrap64 (Int.tdiv (wrap64 (x25 * (wrap64 (x992000 + x26)))) x26)) (wrap64 (x26 + 1)) x992000 x992001 x993000 x993001 x999000 x999001 x1011000 x1011001)) else ((impl_CountExtensions.f k x999000 x999001).bind fun bt1031=>((impl_CountExtensions.f k x1011000 x1011001).bind fun bt1033=>(if x16 = true then (if x18 = true then (if bt1031.2 = true then (if bt1033.2 = true then (if bt1031.1 = (wrap64 ((wrap64 (x25 * x15)) * x17)) then (some (bt1033.1 == (wrap64 (x15 * x17)))) else (some false)) else (some false)) else (some false)) else (some false)) else (some false))))
end
def laws_FnExtensions.f (k : Nat) (l0 : List Int) (l1 : List Int) : Option (Bool) := (laws_big.f l0 l1).bind fun t982 => (if t982 = true then (some true) else ((spec_DrawBesideOrders.f k l0).bind fun bt983 => ((impl_BesideOrders.f k bt983.1 bt983.2.1 bt983.2.2.1 bt983.2.2.2).bind fun bt993 => ((spec_BesideOrders.f k bt983.1 bt983.2.1 bt983.2.2.1 bt983.2.2.2).bind fun bt999 => ((impl_StackOrders.f k bt983.1 bt983.2.1 bt983.2.2.1 bt983.2.2.2).bind fun bt1005 => ((spec_StackOrders.f k bt983.1 bt983.2.1 bt983.2.2.1 bt983.2.2.2).bind fun bt1011 => (if (bt993.2.2 != bt999.2.2) = true then (laws_FnExtensions.j0 k bt993.2.2 true bt983.1 bt983.2.1 bt983.2.2.1 bt983.2.2.2 bt993.1 bt993.2.1 bt1005.1 bt1005.2.1) else ((laws_pSameOrder.f k bt993.1 bt993.2.1 bt999.1 bt999.2.1).bind fun t1017 => (if t1017 = true then (if (bt1005.2.2 != bt1011.2.2) = true then (laws_FnExtensions.j0 k bt993.2.2 true bt983.1 bt983.2.1 bt983.2.2.1 bt983.2.2.2 bt993.1 bt993.2.1 bt1005.1 bt1005.2.1) else ((laws_pSameOrder.f k bt1005.1 bt1005.2.1 bt1011.1 bt1011.2.1).bind fun t1018 => (if t1018 = true then (laws_FnExtensions.j0 k bt993.2.2 (bt993.2.2 != bt1005.2.2) bt983.1 bt983.2.1 bt983.2.2.1 bt983.2.2.2 bt993.1 bt993.2.1 bt1005.1 bt1005.2.1) else (laws_FnExtensions.j0 k bt993.2.2 true bt983.1 bt983.2.1 bt983.2.2.1 bt983.2.2.2 bt993.1 bt993.2.1 bt1005.1 bt1005.2.1)))) else (laws_FnExtensions.j0 k bt993.2.2 true bt983.1 bt983.2.1 bt983.2.2.1 bt983.2.2.2 bt993.1 bt993.2.1 bt1005.1 bt1005.2.1))))))))))
set_option maxHeartbeats 8000000 in
set_option maxRecDepth 100000 in
theorem laws_FnExtensions.calls (k : Nat) (A0 : Option Addr) (c0 : Nat) (l0 : List Int) (A1 : Option Addr) (c1 : Nat) (l1 : List Int) (r : Bool) (w : World) (hr0 : Kd.C (Kd.int .u8) w A0 l0.length l0) (hc0 : l0.length ≤ c0) (hr1 : Kd.C (Kd.int .u8) w A1 l1.length l1) (hc1 : l1.length ≤ c1) (hT : TabOK w) (h : laws_FnExtensions.f k l0 l1 = some r) :
 Calls Tryd.prog 7 #[.slice A0 l0.length c0,.slice A1 l1.length c1] w fun e w'=>e = .returned (.bool r) ∧ Below w.heap.size w w':=by
 have hu26:=Tryd.underlying26;have HT:=A_ hT;clear hT;have HR0:=A_ hr0;have HC0:=A_ hc0;clear hr0 hc0;have HR1:=A_ hr1;have HC1:=A_ hc1;clear hr1 hc1;have HB:=A_ (Below.refl w.heap.size w);have H : ((laws_big.f l0 l1).bind fun t982=>(if t982 = true then (some true) else ((spec_DrawBesideOrders.f k l0).bind fun bt983=>((impl_BesideOrders.f k bt983.1 bt983.2.1 bt983.2.2.1 bt983.2.2.2).bind fun bt993=>((spec_BesideOrders.f k bt983.1 bt983.2.1 bt983.2.2.1 bt983.2.2.2).bind fun bt999=>((impl_StackOrders.f k bt983.1 bt983.2.1 bt983.2.2.1 bt983.2.2.2).bind fun bt1005=>((spec_StackOrders.f k bt983.1 bt983.2.1 bt983.2.2.1 bt983.2.2.2).bind fun bt1011=>(if (bt993.2.2 != bt999.2.2) = true then (laws_FnExtensions.j0 k bt993.2.2 true bt983.1 bt983.2.1 bt983.2.2.1 bt983.2.2.2 bt993.1 bt993.2.1 bt1005.1 bt1005.2.1) else ((laws_pSameOrder.f k bt993.1 bt993.2.1 bt999.1 bt999.2.1).bind fun t1017=>(if t1017 = true then (if (bt1005.2.2 != bt1011.2.2) = true then (laws_FnExtensions.j0 k bt993.2.2 true bt983.1 bt983.2.1 bt983.2.2.1 bt983.2.2.2 bt993.1 bt993.2.1 bt1005.1 bt1005.2.1) else ((laws_pSameOrder.f k bt1005.1 bt1005.2.1 bt1011.1 bt1011.2.1).bind fun t1018=>(if t1018 = true then (laws_FnExtensions.j0 k bt993.2.2 (bt993.2.2 != bt1005.2.2) bt983.1 bt983.2.1 bt983.2.2.1 bt983.2.2.2 bt993.1 bt993.2.1 bt1005.1 bt1005.2.1) else (laws_FnExtensions.j0 k bt993.2.2 true bt983.1 bt983.2.1 bt983.2.2.1 bt983.2.2.2 bt993.1 bt993.2.1 bt1005.1 bt1005.2.1)))) else (laws_FnExtensions.j0 k bt993.2.2 true bt983.1 bt983.2.1 bt983.2.2.1 bt983.2.2.2 bt993.1 bt993.2.1 bt1005.1 bt1005.2.1))))))))))) = some r:=h;clear h;replace H:=Option.bind_eq_some_iff.mp H;obtain ⟨t982,A30,H⟩:=H;replace H : (if t982 = true then (some true) else ((spec_DrawBesideOrders.f k l0).bind fun bt983=>((impl_BesideOrders.f k bt983.1 bt983.2.1 bt983.2.2.1 bt983.2.2.2).bind fun bt993=>((spec_BesideOrders.f k bt983.1 bt983.2.1 bt983.2.2.1 bt983.2.2.2).bind fun bt999=>((impl_StackOrders.f k bt983.1 bt983.2.1 bt983.2.2.1 bt983.2.2.2).bind fun bt1005=>((spec_StackOrders.f k bt983.1 bt983.2.1 bt983.2.2.1 bt983.2.2.2).bind fun bt1011=>(if (bt993.2.2 != bt999.2.2) = true then (laws_FnExtensions.j0 k bt993.2.2 true bt983.1 bt983.2.1 bt983.2.2.1 bt983.2.2.2 bt993.1 bt993.2.1 bt1005.1 bt1005.2.1) else ((laws_pSameOrder.f k bt993.1 bt993.2.1 bt999.1 bt999.2.1).bind fun t1017=>(if t1017 = true then (if (bt1005.2.2 != bt1011.2.2) = true then (laws_FnExtensions.j0 k bt993.2.2 true bt983.1 bt983.2.1 bt983.2.2.1 bt983.2.2.2 bt993.1 bt993.2.1 bt1005.1 bt1005.2.1) else ((laws_pSameOrder.f k bt1005.1 bt1005.2.1 bt1011.1 bt1011.2.1).bind fun t1018=>(if t1018 = true then (laws_FnExtensions.j0 k bt993.2.2 (bt993.2.2 != bt1005.2.2) bt983.1 bt983.2.1 bt983.2.2.1 bt983.2.2.2 bt993.1 bt993.2.1 bt1005.1 bt1005.2.1) else (laws_FnExtensions.j0 k bt993.2.2 true bt983.1 bt983.2.1 bt983.2.2.1 bt983.2.2.2 bt993.1 bt993.2.1 bt1005.1 bt1005.2.1)))) else (laws_FnExtensions.j0 k bt993.2.2 true bt983.1 bt983.2.1 bt983.2.2.1 bt983.2.2.2 bt993.1 bt993.2.1 bt1005.1 bt1005.2.1)))))))))) = some r:=H;have A3:=A_ A30;clear A30;by_cases c4 : t982 = true
 ·subst c4;have H1 : (some true) = some r:=by rw [if_pos rfl] at H;exact H
  clear H;have H:=H1;clear H1;obtain rfl:=Option.some.inj H;go_enter Tryd.func7,Tryd.ntmps7
  go_wp2_with (first|((with_reducible refine gate_callee (f:=20) rfl ?_);refine goesL_ (some 33) rfl rfl Tryd.func20 (by kernel_rfl) rfl #[.slice A0 l0.length c0,.slice A1 l1.length c1] rfl au_ ?_;(with_reducible refine (laws_big.calls _ _ l0 _ _ l1 true _ ?side1 ?side2 ?side3 ?side4 A3.out).mono ?_);(case side1=>repeat (first|exact HR0.out|(with_reducible refine Kd.C_alloc ?_ _)|(with_reducible refine Kd.C_drewN ?_ _)|(with_reducible refine Kd.C_drew ?_)));(case side2=>exact HC0.out);(case side3=>repeat (first|exact HR1.out|(with_reducible refine Kd.C_alloc ?_ _)|(with_reducible refine Kd.C_drewN ?_ _)|(with_reducible refine Kd.C_drew ?_)));(case side4=>exact HC1.out);rintro e w' ⟨rfl,⟨nd,rfl⟩⟩;refine ⟨_,rfl,?_⟩))
  go_ret
  exact ⟨by first|rfl|(simp [errW_none,errW_some] <;> rfl)|(simp [*,errW_none,errW_some] <;> rfl),bb_⟩
 ·replace c4:=Bool.eq_false_iff.mpr c4;subst c4;have H1 : ((spec_DrawBesideOrders.f k l0).bind fun bt983=>((impl_BesideOrders.f k bt983.1 bt983.2.1 bt983.2.2.1 bt983.2.2.2).bind fun bt993=>((spec_BesideOrders.f k bt983.1 bt983.2.1 bt983.2.2.1 bt983.2.2.2).bind fun bt999=>((impl_StackOrders.f k bt983.1 bt983.2.1 bt983.2.2.1 bt983.2.2.2).bind fun bt1005=>((spec_StackOrders.f k bt983.1 bt983.2.1 bt983.2.2.1 bt983.2.2.2).bind fun bt1011=>(if (bt993.2.2 != bt999.2.2) = true then (laws_FnExtensions.j0 k bt993.2.2 true bt983.1 bt983.2.1 bt983.2.2.1 bt983.2.2.2 bt993.1 bt993.2.1 bt1005.1 bt1005.2.1) else ((laws_pSameOrder.f k bt993.1 bt993.2.1 bt999.1 bt999.2.1).bind fun t1017=>(if t1017 = true then (if (bt1005.2.2 != bt1011.2.2) = true then (laws_FnExtensions.j0 k bt993.2.2 true bt983.1 bt983.2.1 bt983.2.2.1 bt983.2.2.2 bt993.1 bt993.2.1 bt1005.1 bt1005.2.1) else ((laws_pSameOrder.f k bt1005.1 bt1005.2.1 bt1011.1 bt1011.2.1).bind fun t1018=>(if t1018 = true then (laws_FnExtensions.j0 k bt993.2.2 (bt993.2.2 != bt1005.2.2) bt983.1 bt983.2.1 bt983.2.2.1 bt983.2.2.2 bt993.1 bt993.2.1 bt1005.1 bt1005.2.1) else (laws_FnExtensions.j0 k bt993.2.2 true bt983.1 bt983.2.1 bt983.2.2.1 bt983.2.2.2 bt993.1 bt993.2.1 bt1005.1 bt1005.2.1)))) else (laws_FnExtensions.j0 k bt993.2.2 true bt983.1 bt983.2.1 bt983.2.2.1 bt983.2.2.2 bt993.1 bt993.2.1 bt1005.1 bt1005.2.1))))))))) = some r:=by rw [if_neg (show ¬ (false = true) by decide)] at H;exact H
  clear H;have H:=H1;clear H1;replace H:=Option.bind_eq_some_iff.mp H;obtain ⟨⟨t983,t984,t987,t988⟩,A50,H⟩:=H;replace H : ((impl_BesideOrders.f k t983 t984 t987 t988).bind fun bt993=>((spec_BesideOrders.f k t983 t984 t987 t988).bind fun bt999=>((impl_StackOrders.f k t983 t984 t987 t988).bind fun bt1005=>((spec_StackOrders.f k t983 t984 t987 t988).bind fun bt1011=>(if (bt993.2.2 != bt999.2.2) = true then (laws_FnExtensions.j0 k bt993.2.2 true t983 t984 t987 t988 bt993.1 bt993.2.1 bt1005.1 bt1005.2.1) else ((laws_pSameOrder.f k bt993.1 bt993.2.1 bt999.1 bt999.2.1).bind fun t1017=>(if t1017 = true then (if (bt1005.2.2 != bt1011.2.2) = true then (laws_FnExtensions.j0 k bt993.2.2 true t983 t984 t987 t988 bt993.1 bt993.2.1 bt1005.1 bt1005.2.1) else ((laws_pSameOrder.f k bt1005.1 bt1005.2.1 bt1011.1 bt1011.2.1).bind fun t1018=>(if t1018 = true then (laws_FnExtensions.j0 k bt993.2.2 (bt993.2.2 != bt1005.2.2) t983 t984 t987 t988 bt993.1 bt993.2.1 bt1005.1 bt1005.2.1) else (laws_FnExtensions.j0 k bt993.2.2 true t983 t984 t987 t988 bt993.1 bt993.2.1 bt1005.1 bt1005.2.1)))) else (laws_FnExtensions.j0 k bt993.2.2 true t983 t984 t987 t988 bt993.1 bt993.2.1 bt1005.1 bt1005.2.1)))))))) = some r:=H;have A5:=A_ A50;clear A50;replace H:=Option.bind_eq_some_iff.mp H;obtain ⟨⟨t993,t994,t997⟩,A60,H⟩:=H;replace H : ((spec_BesideOrders.f k t983 t984 t987 t988).bind fun bt999=>((impl_StackOrders.f k t983 t984 t987 t988).bind fun bt1005=>((spec_StackOrders.f k t983 t984 t987 t988).bind fun bt1011=>(if (t997 != bt999.2.2) = true then (laws_FnExtensions.j0 k t997 true t983 t984 t987 t988 t993 t994 bt1005.1 bt1005.2.1) else ((laws_pSameOrder.f k t993 t994 bt999.1 bt999.2.1).bind fun t1017=>(if t1017 = true then (if (bt1005.2.2 != bt1011.2.2) = true then (laws_FnExtensions.j0 k t997 true t983 t984 t987 t988 t993 t994 bt1005.1 bt1005.2.1) else ((laws_pSameOrder.f k bt1005.1 bt1005.2.1 bt1011.1 bt1011.2.1).bind fun t1018=>(if t1018 = true then (laws_FnExtensions.j0 k t997 (t997 != bt1005.2.2) t983 t984 t987 t988 t993 t994 bt1005.1 bt1005.2.1) else (laws_FnExtensions.j0 k t997 true t983 t984 t987 t988 t993 t994 bt1005.1 bt1005.2.1)))) else (laws_FnExtensions.j0 k t997 true t983 t984 t987 t988 t993 t994 bt1005.1 bt1005.2.1))))))) = some r:=H;have A6:=A_ A60;clear A60;replace H:=Option.bind_eq_some_iff.mp H;obtain ⟨⟨t999,t1000,t1003⟩,A70,H⟩:=H;replace H : ((impl_StackOrders.f k t983 t984 t987 t988).bind fun bt1005=>((spec_StackOrders.f k t983 t984 t987 t988).bind fun bt1011=>(if (t997 != t1003) = true then (laws_FnExtensions.j0 k t997 true t983 t984 t987 t988 t993 t994 bt1005.1 bt1005.2.1) else ((laws_pSameOrder.f k t993 t994 t999 t1000).bind fun t1017=>(if t1017 = true then (if (bt1005.2.2 != bt1011.2.2) = true then (laws_FnExtensions.j0 k t997 true t983 t984 t987 t988 t993 t994 bt1005.1 bt1005.2.1) else ((laws_pSameOrder.f k bt1005.1 bt1005.2.1 bt1011.1 bt1011.2.1).bind fun t1018=>(if t1018 = true then (laws_FnExtensions.j0 k t997 (t997 != bt1005.2.2) t983 t984 t987 t988 t993 t994 bt1005.1 bt1005.2.1) else (laws_FnExtensions.j0 k t997 true t983 t984 t987 t988 t993 t994 bt1005.1 bt1005.2.1)))) else (laws_FnExtensions.j0 k t997 true t983 t984 t987 t988 t993 t994 bt1005.1 bt1005.2.1)))))) = some r:=H;have A7:=A_ A70;clear A70;replace H:=Option.bind_eq_some_iff.mp H;obtain ⟨⟨t1005,t1006,t1009⟩,A80,H⟩:=H;replace H : ((spec_StackOrders.f k t983 t984 t987 t988).bind fun bt1011=>(if (t997 != t1003) = true then (laws_FnExtensions.j0 k t997 true t983 t984 t987 t988 t993 t994 t1005 t1006) else ((laws_pSameOrder.f k t993 t994 t999 t1000).bind fun t1017=>(if t1017 = true then (if (t1009 != bt1011.2.2) = true then (laws_FnExtensions.j0 k t997 true t983 t984 t987 t988 t993 t994 t1005 t1006) else ((laws_pSameOrder.f k t1005 t1006 bt1011.1 bt1011.2.1).bind fun t1018=>(if t1018 = true then (laws_FnExtensions.j0 k t997 (t997 != t1009) t983 t984 t987 t988 t993 t994 t1005 t1006) else (laws_FnExtensions.j0 k t997 true t983 t984 t987 t988 t993 t994 t1005 t1006)))) else (laws_FnExtensions.j0 k t997 true t983 t984 t987 t988 t993 t994 t1005 t1006))))) = some r:=H;have A8:=A_ A80;clear A80;replace H:=Option.bind_eq_some_iff.mp H;obtain ⟨⟨t1011,t1012,t1015⟩,A90,H⟩:=H;replace H : (if (t997 != t1003) = true then (laws_FnExtensions.j0 k t997 true t983 t984 t987 t988 t993 t994 t1005 t1006) else ((laws_pSameOrder.f k t993 t994 t999 t1000).bind fun t1017=>(if t1017 = true then (if (t1009 != t1015) = true then (laws_FnExtensions.j0 k t997 true t983 t984 t987 t988 t993 t994 t1005 t1006) else ((laws_pSameOrder.f k t1005 t1006 t1011 t1012).bind fun t1018=>(if t1018 = true then (laws_FnExtensions.j0 k t997 (t997 != t1009) t983 t984 t987 t988 t993 t994 t1005 t1006) else (laws_FnExtensions.j0 k t997 true t983 t984 t987 t988 t993 t994 t1005 t1006)))) else (laws_FnExtensions.j0 k t997 true t983 t984 t987 t988 t993 t994 t1005 t1006)))) = some r:=H;have A9:=A_ A90;clear A90;have HC10:=A_ H;clear H;go_enter Tryd.func7,Tryd.ntmps7
  go_upto_region 8 with (first|((with_reducible refine gate_callee (f:=20) rfl ?_);refine goesL_ (some 33) rfl rfl Tryd.func20 (by kernel_rfl) rfl #[.slice A0 l0.length c0,.slice A1 l1.length c1] rfl au_ ?_;(with_reducible refine (laws_big.calls _ _ l0 _ _ l1 false _ ?side1 ?side2 ?side3 ?side4 A3.out).mono ?_);(case side1=>repeat (first|exact HR0.out|(with_reducible refine Kd.C_alloc ?_ _)|(with_reducible refine Kd.C_drewN ?_ _)|(with_reducible refine Kd.C_drew ?_)));(case side2=>exact HC0.out);(case side3=>repeat (first|exact HR1.out|(with_reducible refine Kd.C_alloc ?_ _)|(with_reducible refine Kd.C_drewN ?_ _)|(with_reducible refine Kd.C_drew ?_)));(case side4=>exact HC1.out);rintro e w' ⟨rfl,⟨nd,rfl⟩⟩;refine ⟨_,rfl,?_⟩)|((with_reducible refine gate_callee (f:=42) rfl ?_);refine goesL_ (some 36) rfl rfl Tryd.func42 (by kernel_rfl) rfl #[.slice A0 l0.length c0] rfl au_ ?_;(with_reducible refine (spec_DrawBesideOrders.calls k _ _ l0 t983 t984 t987 t988 _ ?side1 ?side2 A5.out).mono ?_);(case side1=>repeat (first|exact HR0.out|(with_reducible refine Kd.C_alloc ?_ _)|(with_reducible refine Kd.C_drewN ?_ _)|(with_reducible refine Kd.C_drew ?_)));(case side2=>exact HC0.out);rintro e w11 ⟨v985,v989,rfl,ho0,ho1,hb⟩;refine ⟨_,rfl,?_⟩;have HO986:=A_ (Kd.R_lower ho0 (below_size bb_));have HO990:=A_ (Kd.R_lower ho1 (below_size bb_));replace HB:=A_ (below_step bb_ hb);(try clear hb);(try clear hb2);(try clear hk);(try clear hi);(try clear ho0);(try clear ho1))|((with_reducible refine gate_dst (N:=5) rfl ?_);refine box_event ?hg (N:=5) ?hd (cs:=#[.int .i64 0,.slice none 0 0]) (t:=26) ?hr ?_;(case hd=>rfl);(case hg=>rfl);(case hr=>first|(go_simp;done)|(go_simp;rfl));intro gb991 hg w12 hbox hb;replace HO986:=rb_ HO986 hb;replace HO990:=rb_ HO990 hb;have BK991:=A_ (hbox);have GW991:=A_ ((by rw [hg];exact (below_size bb_) : w.heap.size ≤ gb991));have GE991:=A_ ((by rw [hg];exact (below_size bb_) : w.heap.size ≤ gb991));replace HB:=A_ (below_step bb_ hb);clear hb hbox hg)|((with_reducible refine gate_dst (N:=6) rfl ?_);refine box_event ?hg (N:=6) ?hd (cs:=#[.int .i64 0,.slice none 0 0]) (t:=26) ?hr ?_;(case hd=>rfl);(case hg=>rfl);(case hr=>first|(go_simp;done)|(go_simp;rfl));intro gb992 hg w13 hbox hb;replace HO986:=rb_ HO986 hb;replace HO990:=rb_ HO990 hb;have BK992:=A_ (hbox);have GW992:=A_ ((by rw [hg];exact (below_size bb_) : w.heap.size ≤ gb992));have GE992:=A_ ((by rw [hg];exact (below_size bb_) : w.heap.size ≤ gb992));replace HB:=A_ (below_step bb_ hb);have NB991_992:=A_ ((by rw [hg];exact Nat.ne_of_lt (blk_lt (bl_ BK991)) : gb991 ≠ gb992));have NB992_991:=A_ ((by rw [hg];exact Nat.ne_of_gt (blk_lt (bl_ BK991)) : gb992 ≠ gb991));replace BK991:=bz BK991 hb;clear hb hbox hg;have hnb14:=NB991_992.out;have hnc14:=NB992_991.out;have hcz15_0 : w13.cell? ⟨gb991,0,none⟩ = some (.int .i64 0):=blk_cell BK991.out 0;have hcz15_1 : w13.cell? ⟨gb991,1,none⟩ = some (.slice none 0 0):=blk_cell BK991.out 1;have hfz15_0:=blk_frozen BK991.out 0;have hfz15_1:=blk_frozen BK991.out 1;obtain ⟨Ao16,co16,eo16⟩:=Kd.R_slice HO986.out;subst eo16;have hcz17_0 : w13.cell? ⟨gb992,0,none⟩ = some (.int .i64 0):=blk_cell BK992.out 0;have hcz17_1 : w13.cell? ⟨gb992,1,none⟩ = some (.slice none 0 0):=blk_cell BK992.out 1;have hfz17_0:=blk_frozen BK992.out 0;have hfz17_1:=blk_frozen BK992.out 1;obtain ⟨Ao18,co18,eo18⟩:=Kd.R_slice HO990.out;subst eo18)|((with_reducible refine gate_callee (f:=43) rfl ?_);refine goesL_ (some 42) rfl rfl Tryd.func43 (by kernel_rfl) rfl #[.agg #[.int .i64 t983,.slice Ao16 t984.length co16],.agg #[.int .i64 t987,.slice Ao18 t988.length co18]] rfl au_ ?_;(with_reducible refine (impl_BesideOrders.calls k t983 _ _ t984 t987 _ _ t988 t993 t994 t997 _ ?side1 ?side2 ?side3 ?side4 ?side5 A6.out).mono ?_);(case side1=>refine (Kd.R_reads' (e:=3) (base:=w.heap.size) (ok:=fun k_=>some k_ ≠ (.slice Ao18 t988.length co18 : Value).ownBlock) (n:=t984.length) (c:=co16) ?_).2.2;exact (by (with_reducible repeat (first|apply Kd.R_alloc|apply Kd.R_drewN|apply Kd.R_drew));exact (Kd.R_mono (Kd.R_mono (Kd.R_far (p:=⟨gb992,1,none⟩) (Kd.R_far (p:=⟨gb992,0,none⟩) (Kd.R_far (p:=⟨gb991,1,none⟩) (Kd.R_far (p:=⟨gb991,0,none⟩) (Kd.R_types (Kd.R_types HO986.out BK991.out (by decide)) BK992.out (by decide)) (fun _ hk=>hk.1.2) (.int .i64 t983)) (fun _ hk=>hk.1.2) (.slice Ao16 t984.length co16)) (fun _ hk=>hk.2) (.int .i64 t987)) (fun _ hk=>hk.2) (.slice Ao18 t988.length co18)) (fun _ h_=>h_.1)) (fun _ h_=>h_.1))));(case side2=>exact (Kd.R_reads' HO986.out).2.1);(case side3=>refine (Kd.R_reads' (e:=3) (base:=w.heap.size) (ok:=fun k_=>some k_ ≠ (.slice Ao16 t984.length co16 : Value).ownBlock) (n:=t988.length) (c:=co18) ?_).2.2;exact (by (with_reducible repeat (first|apply Kd.R_alloc|apply Kd.R_drewN|apply Kd.R_drew));exact (Kd.R_mono (Kd.R_mono (Kd.R_far (p:=⟨gb992,1,none⟩) (Kd.R_far (p:=⟨gb992,0,none⟩) (Kd.R_far (p:=⟨gb991,1,none⟩) (Kd.R_far (p:=⟨gb991,0,none⟩) (Kd.R_types (Kd.R_types HO990.out BK991.out (by decide)) BK992.out (by decide)) (fun _ hk=>hk.1.2) (.int .i64 t983)) (fun _ hk=>hk.1.2) (.slice Ao16 t984.length co16)) (fun _ hk=>hk.2) (.int .i64 t987)) (fun _ hk=>hk.2) (.slice Ao18 t988.length co18)) (fun _ h_=>h_.1)) (fun _ h_=>h_.1))));(case side4=>exact (Kd.R_reads' HO990.out).2.1);(case side5=>first|exact HT.out|exact HT.out.below bb_|(repeat (first|exact HT.out|apply TabOK.drewN|apply TabOK.drew|apply TabOK.alloc)));rintro e w19 ⟨v995,rfl,ho0,hb⟩;refine ⟨_,rfl,?_⟩;have HO996:=A_ (Kd.R_lower (Kd.R_new' (Kd.R_new' ho0 (Kd.R_lt (by (with_reducible repeat (first|apply Kd.R_alloc|apply Kd.R_drewN|apply Kd.R_drew));exact (Kd.R_mono (Kd.R_mono (Kd.R_far (p:=⟨gb992,1,none⟩) (Kd.R_far (p:=⟨gb992,0,none⟩) (Kd.R_far (p:=⟨gb991,1,none⟩) (Kd.R_far (p:=⟨gb991,0,none⟩) (Kd.R_types (Kd.R_types HO986.out BK991.out (by decide)) BK992.out (by decide)) (fun _ hk=>hk.1.2) (.int .i64 t983)) (fun _ hk=>hk.1.2) (.slice Ao16 t984.length co16)) (fun _ hk=>hk.2) (.int .i64 t987)) (fun _ hk=>hk.2) (.slice Ao18 t988.length co18)) (fun _ h_=>h_.1)) (fun _ h_=>h_.1))))) (Kd.R_lt (by (with_reducible repeat (first|apply Kd.R_alloc|apply Kd.R_drewN|apply Kd.R_drew));exact (Kd.R_mono (Kd.R_mono (Kd.R_far (p:=⟨gb992,1,none⟩) (Kd.R_far (p:=⟨gb992,0,none⟩) (Kd.R_far (p:=⟨gb991,1,none⟩) (Kd.R_far (p:=⟨gb991,0,none⟩) (Kd.R_types (Kd.R_types HO990.out BK991.out (by decide)) BK992.out (by decide)) (fun _ hk=>hk.1.2) (.int .i64 t983)) (fun _ hk=>hk.1.2) (.slice Ao16 t984.length co16)) (fun _ hk=>hk.2) (.int .i64 t987)) (fun _ hk=>hk.2) (.slice Ao18 t988.length co18)) (fun _ h_=>h_.1)) (fun _ h_=>h_.1))))) (below_size bb_));replace HO986:=A_ (Kd.R_elder' (by (with_reducible repeat (first|apply Kd.R_alloc|apply Kd.R_drewN|apply Kd.R_drew));exact (Kd.R_mono (Kd.R_mono (Kd.R_far (p:=⟨gb992,1,none⟩) (Kd.R_far (p:=⟨gb992,0,none⟩) (Kd.R_far (p:=⟨gb991,1,none⟩) (Kd.R_far (p:=⟨gb991,0,none⟩) (Kd.R_types (Kd.R_types HO986.out BK991.out (by decide)) BK992.out (by decide)) (fun _ hk=>hk.1.2) (.int .i64 t983)) (fun _ hk=>hk.1.2) (.slice Ao16 t984.length co16)) (fun _ hk=>hk.2) (.int .i64 t987)) (fun _ hk=>hk.2) (.slice Ao18 t988.length co18)) (fun _ h_=>h_.1)) (fun _ h_=>h_.1))) (Kd.R_base ho0) hb);replace HO990:=A_ (Kd.R_elder' (by (with_reducible repeat (first|apply Kd.R_alloc|apply Kd.R_drewN|apply Kd.R_drew));exact (Kd.R_mono (Kd.R_mono (Kd.R_far (p:=⟨gb992,1,none⟩) (Kd.R_far (p:=⟨gb992,0,none⟩) (Kd.R_far (p:=⟨gb991,1,none⟩) (Kd.R_far (p:=⟨gb991,0,none⟩) (Kd.R_types (Kd.R_types HO990.out BK991.out (by decide)) BK992.out (by decide)) (fun _ hk=>hk.1.2) (.int .i64 t983)) (fun _ hk=>hk.1.2) (.slice Ao16 t984.length co16)) (fun _ hk=>hk.2) (.int .i64 t987)) (fun _ hk=>hk.2) (.slice Ao18 t988.length co18)) (fun _ h_=>h_.1)) (fun _ h_=>h_.1))) (Kd.R_base ho0) hb);replace BK991:=A_ (blk_below (g:=gb991) (o:=.cells #[.int .i64 t983,.slice Ao16 t984.length co16] 26 (0,0)) (by (with_reducible repeat (first|refine blk_drewN ?_ _|refine blk_drew ?_|refine blk_alloc ?_ _));refine blk_far ?_ NB991_992.out _;(with_reducible repeat (first|refine blk_drewN ?_ _|refine blk_drew ?_|refine blk_alloc ?_ _));refine blk_far ?_ NB991_992.out _;(with_reducible repeat (first|refine blk_drewN ?_ _|refine blk_drew ?_|refine blk_alloc ?_ _));refine blk_put (cs:=#[.int .i64 t983,.slice none 0 0]) ?_ 1 _ rfl;(with_reducible repeat (first|refine blk_drewN ?_ _|refine blk_drew ?_|refine blk_alloc ?_ _));refine blk_put (cs:=#[.int .i64 0,.slice none 0 0]) ?_ 0 _ rfl;(with_reducible repeat (first|refine blk_drewN ?_ _|refine blk_drew ?_|refine blk_alloc ?_ _));exact BK991.out) hb);replace BK992:=A_ (blk_below (g:=gb992) (o:=.cells #[.int .i64 t987,.slice Ao18 t988.length co18] 26 (0,0)) (by (with_reducible repeat (first|refine blk_drewN ?_ _|refine blk_drew ?_|refine blk_alloc ?_ _));refine blk_put (cs:=#[.int .i64 t987,.slice none 0 0]) ?_ 1 _ rfl;(with_reducible repeat (first|refine blk_drewN ?_ _|refine blk_drew ?_|refine blk_alloc ?_ _));refine blk_put (cs:=#[.int .i64 0,.slice none 0 0]) ?_ 0 _ rfl;(with_reducible repeat (first|refine blk_drewN ?_ _|refine blk_drew ?_|refine blk_alloc ?_ _));refine blk_far ?_ NB992_991.out _;(with_reducible repeat (first|refine blk_drewN ?_ _|refine blk_drew ?_|refine blk_alloc ?_ _));refine blk_far ?_ NB992_991.out _;(with_reducible repeat (first|refine blk_drewN ?_ _|refine blk_drew ?_|refine blk_alloc ?_ _));exact BK992.out) hb);replace HB:=A_ (below_step bb_ hb);(try clear hb);(try clear hb2);(try clear hk);(try clear hi);(try clear ho0))|((with_reducible refine gate_dst (N:=7) rfl ?_);refine box_event ?hg (N:=7) ?hd (cs:=#[.int .i64 0,.slice none 0 0]) (t:=26) ?hr ?_;(case hd=>rfl);(case hg=>rfl);(case hr=>first|(go_simp;done)|(go_simp;rfl));intro gb998 hg w20 hbox hb;replace HO986:=rb_ HO986 hb;replace HO990:=rb_ HO990 hb;replace HO996:=rb_ HO996 hb;have BK998:=A_ (hbox);have GW998:=A_ ((by rw [hg];exact (below_size bb_) : w.heap.size ≤ gb998));have GE998:=A_ ((by rw [hg];exact (below_size bb_) : w.heap.size ≤ gb998));replace HB:=A_ (below_step bb_ hb);have NB991_998:=A_ ((by rw [hg];exact Nat.ne_of_lt (blk_lt (bl_ BK991)) : gb991 ≠ gb998));have NB998_991:=A_ ((by rw [hg];exact Nat.ne_of_gt (blk_lt (bl_ BK991)) : gb998 ≠ gb991));replace BK991:=bz BK991 hb;have NB992_998:=A_ ((by rw [hg];exact Nat.ne_of_lt (blk_lt (bl_ BK992)) : gb992 ≠ gb998));have NB998_992:=A_ ((by rw [hg];exact Nat.ne_of_gt (blk_lt (bl_ BK992)) : gb998 ≠ gb992));replace BK992:=bz BK992 hb;clear hb hbox hg;have hnb21:=NB998_991.out;have hnc21:=NB991_998.out;have hnb22:=NB998_992.out;have hnc22:=NB992_998.out;have hcz23_0 : w20.cell? ⟨gb998,0,none⟩ = some (.int .i64 0):=blk_cell BK998.out 0;have hcz23_1 : w20.cell? ⟨gb998,1,none⟩ = some (.slice none 0 0):=blk_cell BK998.out 1;have hfz23_0:=blk_frozen BK998.out 0;have hfz23_1:=blk_frozen BK998.out 1;obtain ⟨Ao24,co24,eo24⟩:=Kd.R_slice HO996.out;subst eo24;have hcz25_0 : w20.cell? ⟨gb991,0,none⟩ = some (.int .i64 t983):=blk_cell BK991.out 0;have hcz25_1 : w20.cell? ⟨gb991,1,none⟩ = some (.slice Ao16 t984.length co16):=blk_cell BK991.out 1;have hfz25_0:=blk_frozen BK991.out 0;have hfz25_1:=blk_frozen BK991.out 1;have hcz26_0 : w20.cell? ⟨gb992,0,none⟩ = some (.int .i64 t987):=blk_cell BK992.out 0;have hcz26_1 : w20.cell? ⟨gb992,1,none⟩ = some (.slice Ao18 t988.length co18):=blk_cell BK992.out 1;have hfz26_0:=blk_frozen BK992.out 0;have hfz26_1:=blk_frozen BK992.out 1)|((with_reducible refine gate_callee (f:=44) rfl ?_);refine goesL_ (some 48) rfl rfl Tryd.func44 (by kernel_rfl) rfl #[.agg #[.int .i64 t983,.slice Ao16 t984.length co16],.agg #[.int .i64 t987,.slice Ao18 t988.length co18]] rfl au_ ?_;(with_reducible refine (spec_BesideOrders.calls k t983 _ _ t984 t987 _ _ t988 t999 t1000 t1003 _ ?side1 ?side2 ?side3 ?side4 A7.out).mono ?_);(case side1=>refine (Kd.R_reads' (e:=3) (base:=w.heap.size) (ok:=fun k_=>(some k_ ≠ (.slice Ao18 t988.length co18 : Value).ownBlock ∧ some k_ ≠ (.slice Ao24 t994.length co24 : Value).ownBlock)) (n:=t984.length) (c:=co16) ?_).2.2;exact (by (with_reducible repeat (first|apply Kd.R_alloc|apply Kd.R_drewN|apply Kd.R_drew));exact (Kd.R_mono (Kd.R_far (p:=⟨gb998,1,none⟩) (Kd.R_far (p:=⟨gb998,0,none⟩) (Kd.R_types HO986.out BK998.out (by decide)) (fun _ hk=>hk.2) (.int .i64 t993)) (fun _ hk=>hk.2) (.slice Ao24 t994.length co24)) (fun _ h_=>h_.1))));(case side2=>exact (Kd.R_reads' HO986.out).2.1);(case side3=>refine (Kd.R_reads' (e:=3) (base:=w.heap.size) (ok:=fun k_=>(some k_ ≠ (.slice Ao16 t984.length co16 : Value).ownBlock ∧ some k_ ≠ (.slice Ao24 t994.length co24 : Value).ownBlock)) (n:=t988.length) (c:=co18) ?_).2.2;exact (by (with_reducible repeat (first|apply Kd.R_alloc|apply Kd.R_drewN|apply Kd.R_drew));exact (Kd.R_mono (Kd.R_far (p:=⟨gb998,1,none⟩) (Kd.R_far (p:=⟨gb998,0,none⟩) (Kd.R_types HO990.out BK998.out (by decide)) (fun _ hk=>hk.2) (.int .i64 t993)) (fun _ hk=>hk.2) (.slice Ao24 t994.length co24)) (fun _ h_=>h_.1))));(case side4=>exact (Kd.R_reads' HO990.out).2.1);rintro e w27 ⟨v1001,rfl,ho0,hb⟩;refine ⟨_,rfl,?_⟩;have HO1002:=A_ (Kd.R_lower (Kd.R_new' (Kd.R_new' (Kd.R_new' ho0 (Kd.R_lt (by (with_reducible repeat (first|apply Kd.R_alloc|apply Kd.R_drewN|apply Kd.R_drew));exact (Kd.R_mono (Kd.R_far (p:=⟨gb998,1,none⟩) (Kd.R_far (p:=⟨gb998,0,none⟩) (Kd.R_types HO986.out BK998.out (by decide)) (fun _ hk=>hk.2) (.int .i64 t993)) (fun _ hk=>hk.2) (.slice Ao24 t994.length co24)) (fun _ h_=>h_.1))))) (Kd.R_lt (by (with_reducible repeat (first|apply Kd.R_alloc|apply Kd.R_drewN|apply Kd.R_drew));exact (Kd.R_mono (Kd.R_far (p:=⟨gb998,1,none⟩) (Kd.R_far (p:=⟨gb998,0,none⟩) (Kd.R_types HO990.out BK998.out (by decide)) (fun _ hk=>hk.2) (.int .i64 t993)) (fun _ hk=>hk.2) (.slice Ao24 t994.length co24)) (fun _ h_=>h_.1))))) (Kd.R_lt (by (with_reducible repeat (first|apply Kd.R_alloc|apply Kd.R_drewN|apply Kd.R_drew));exact (Kd.R_mono (Kd.R_far (p:=⟨gb998,1,none⟩) (Kd.R_far (p:=⟨gb998,0,none⟩) (Kd.R_types HO996.out BK998.out (by decide)) (fun _ hk=>hk.2) (.int .i64 t993)) (fun _ hk=>hk.2) (.slice Ao24 t994.length co24)) (fun _ h_=>h_.1))))) (below_size bb_));replace HO986:=A_ (Kd.R_elder' (by (with_reducible repeat (first|apply Kd.R_alloc|apply Kd.R_drewN|apply Kd.R_drew));exact (Kd.R_mono (Kd.R_far (p:=⟨gb998,1,none⟩) (Kd.R_far (p:=⟨gb998,0,none⟩) (Kd.R_types HO986.out BK998.out (by decide)) (fun _ hk=>hk.2) (.int .i64 t993)) (fun _ hk=>hk.2) (.slice Ao24 t994.length co24)) (fun _ h_=>h_.1))) (Kd.R_base ho0) hb);replace HO990:=A_ (Kd.R_elder' (by (with_reducible repeat (first|apply Kd.R_alloc|apply Kd.R_drewN|apply Kd.R_drew));exact (Kd.R_mono (Kd.R_far (p:=⟨gb998,1,none⟩) (Kd.R_far (p:=⟨gb998,0,none⟩) (Kd.R_types HO990.out BK998.out (by decide)) (fun _ hk=>hk.2) (.int .i64 t993)) (fun _ hk=>hk.2) (.slice Ao24 t994.length co24)) (fun _ h_=>h_.1))) (Kd.R_base ho0) hb);replace HO996:=A_ (Kd.R_elder' (by (with_reducible repeat (first|apply Kd.R_alloc|apply Kd.R_drewN|apply Kd.R_drew));exact (Kd.R_mono (Kd.R_far (p:=⟨gb998,1,none⟩) (Kd.R_far (p:=⟨gb998,0,none⟩) (Kd.R_types HO996.out BK998.out (by decide)) (fun _ hk=>hk.2) (.int .i64 t993)) (fun _ hk=>hk.2) (.slice Ao24 t994.length co24)) (fun _ h_=>h_.1))) (Kd.R_base ho0) hb);replace BK991:=A_ (blk_below (g:=gb991) (o:=.cells #[.int .i64 t983,.slice Ao16 t984.length co16] 26 (0,0)) (by (with_reducible repeat (first|refine blk_drewN ?_ _|refine blk_drew ?_|refine blk_alloc ?_ _));refine blk_far ?_ NB991_998.out _;(with_reducible repeat (first|refine blk_drewN ?_ _|refine blk_drew ?_|refine blk_alloc ?_ _));refine blk_far ?_ NB991_998.out _;(with_reducible repeat (first|refine blk_drewN ?_ _|refine blk_drew ?_|refine blk_alloc ?_ _));exact BK991.out) hb);replace BK992:=A_ (blk_below (g:=gb992) (o:=.cells #[.int .i64 t987,.slice Ao18 t988.length co18] 26 (0,0)) (by (with_reducible repeat (first|refine blk_drewN ?_ _|refine blk_drew ?_|refine blk_alloc ?_ _));refine blk_far ?_ NB992_998.out _;(with_reducible repeat (first|refine blk_drewN ?_ _|refine blk_drew ?_|refine blk_alloc ?_ _));refine blk_far ?_ NB992_998.out _;(with_reducible repeat (first|refine blk_drewN ?_ _|refine blk_drew ?_|refine blk_alloc ?_ _));exact BK992.out) hb);replace BK998:=A_ (blk_below (g:=gb998) (o:=.cells #[.int .i64 t993,.slice Ao24 t994.length co24] 26 (0,0)) (by (with_reducible repeat (first|refine blk_drewN ?_ _|refine blk_drew ?_|refine blk_alloc ?_ _));refine blk_put (cs:=#[.int .i64 t993,.slice none 0 0]) ?_ 1 _ rfl;(with_reducible repeat (first|refine blk_drewN ?_ _|refine blk_drew ?_|refine blk_alloc ?_ _));refine blk_put (cs:=#[.int .i64 0,.slice none 0 0]) ?_ 0 _ rfl;(with_reducible repeat (first|refine blk_drewN ?_ _|refine blk_drew ?_|refine blk_alloc ?_ _));exact BK998.out) hb);replace HB:=A_ (below_step bb_ hb);(try clear hb);(try clear hb2);(try clear hk);(try clear hi);(try clear ho0))|((with_reducible refine gate_dst (N:=9) rfl ?_);refine box_event ?hg (N:=9) ?hd (cs:=#[.int .i64 0,.slice none 0 0]) (t:=26) ?hr ?_;(case hd=>rfl);(case hg=>rfl);(case hr=>first|(go_simp;done)|(go_simp;rfl));intro gb1004 hg w28 hbox hb;replace HO986:=rb_ HO986 hb;replace HO990:=rb_ HO990 hb;replace HO996:=rb_ HO996 hb;replace HO1002:=rb_ HO1002 hb;have BK1004:=A_ (hbox);have GW1004:=A_ ((by rw [hg];exact (below_size bb_) : w.heap.size ≤ gb1004));have GE1004:=A_ ((by rw [hg];exact (below_size bb_) : w.heap.size ≤ gb1004));replace HB:=A_ (below_step bb_ hb);have NB991_1004:=A_ ((by rw [hg];exact Nat.ne_of_lt (blk_lt (bl_ BK991)) : gb991 ≠ gb1004));have NB1004_991:=A_ ((by rw [hg];exact Nat.ne_of_gt (blk_lt (bl_ BK991)) : gb1004 ≠ gb991));replace BK991:=bz BK991 hb;have NB992_1004:=A_ ((by rw [hg];exact Nat.ne_of_lt (blk_lt (bl_ BK992)) : gb992 ≠ gb1004));have NB1004_992:=A_ ((by rw [hg];exact Nat.ne_of_gt (blk_lt (bl_ BK992)) : gb1004 ≠ gb992));replace BK992:=bz BK992 hb;have NB998_1004:=A_ ((by rw [hg];exact Nat.ne_of_lt (blk_lt (bl_ BK998)) : gb998 ≠ gb1004));have NB1004_998:=A_ ((by rw [hg];exact Nat.ne_of_gt (blk_lt (bl_ BK998)) : gb1004 ≠ gb998));replace BK998:=bz BK998 hb;clear hb hbox hg;have hnb29:=NB1004_991.out;have hnc29:=NB991_1004.out;have hnb30:=NB1004_992.out;have hnc30:=NB992_1004.out;have hnb31:=NB1004_998.out;have hnc31:=NB998_1004.out;have hcz32_0 : w28.cell? ⟨gb1004,0,none⟩ = some (.int .i64 0):=blk_cell BK1004.out 0;have hcz32_1 : w28.cell? ⟨gb1004,1,none⟩ = some (.slice none 0 0):=blk_cell BK1004.out 1;have hfz32_0:=blk_frozen BK1004.out 0;have hfz32_1:=blk_frozen BK1004.out 1;obtain ⟨Ao33,co33,eo33⟩:=Kd.R_slice HO1002.out;subst eo33;have hcz34_0 : w28.cell? ⟨gb991,0,none⟩ = some (.int .i64 t983):=blk_cell BK991.out 0;have hcz34_1 : w28.cell? ⟨gb991,1,none⟩ = some (.slice Ao16 t984.length co16):=blk_cell BK991.out 1;have hfz34_0:=blk_frozen BK991.out 0;have hfz34_1:=blk_frozen BK991.out 1;have hcz35_0 : w28.cell? ⟨gb992,0,none⟩ = some (.int .i64 t987):=blk_cell BK992.out 0;have hcz35_1 : w28.cell? ⟨gb992,1,none⟩ = some (.slice Ao18 t988.length co18):=blk_cell BK992.out 1;have hfz35_0:=blk_frozen BK992.out 0;have hfz35_1:=blk_frozen BK992.out 1)|((with_reducible refine gate_callee (f:=45) rfl ?_);refine goesL_ (some 54) rfl rfl Tryd.func45 (by kernel_rfl) rfl #[.agg #[.int .i64 t983,.slice Ao16 t984.length co16],.agg #[.int .i64 t987,.slice Ao18 t988.length co18]] rfl au_ ?_;(with_reducible refine (impl_StackOrders.calls k t983 _ _ t984 t987 _ _ t988 t1005 t1006 t1009 _ ?side1 ?side2 ?side3 ?side4 ?side5 A8.out).mono ?_);(case side1=>refine (Kd.R_reads' (e:=3) (base:=w.heap.size) (ok:=fun k_=>((some k_ ≠ (.slice Ao18 t988.length co18 : Value).ownBlock ∧ some k_ ≠ (.slice Ao24 t994.length co24 : Value).ownBlock) ∧ some k_ ≠ (.slice Ao33 t1000.length co33 : Value).ownBlock)) (n:=t984.length) (c:=co16) ?_).2.2;exact (by (with_reducible repeat (first|apply Kd.R_alloc|apply Kd.R_drewN|apply Kd.R_drew));exact (Kd.R_mono (Kd.R_far (p:=⟨gb1004,1,none⟩) (Kd.R_far (p:=⟨gb1004,0,none⟩) (Kd.R_types HO986.out BK1004.out (by decide)) (fun _ hk=>hk.2) (.int .i64 t999)) (fun _ hk=>hk.2) (.slice Ao33 t1000.length co33)) (fun _ h_=>h_.1))));(case side2=>exact (Kd.R_reads' HO986.out).2.1);(case side3=>refine (Kd.R_reads' (e:=3) (base:=w.heap.size) (ok:=fun k_=>((some k_ ≠ (.slice Ao16 t984.length co16 : Value).ownBlock ∧ some k_ ≠ (.slice Ao24 t994.length co24 : Value).ownBlock) ∧ some k_ ≠ (.slice Ao33 t1000.length co33 : Value).ownBlock)) (n:=t988.length) (c:=co18) ?_).2.2;exact (by (with_reducible repeat (first|apply Kd.R_alloc|apply Kd.R_drewN|apply Kd.R_drew));exact (Kd.R_mono (Kd.R_far (p:=⟨gb1004,1,none⟩) (Kd.R_far (p:=⟨gb1004,0,none⟩) (Kd.R_types HO990.out BK1004.out (by decide)) (fun _ hk=>hk.2) (.int .i64 t999)) (fun _ hk=>hk.2) (.slice Ao33 t1000.length co33)) (fun _ h_=>h_.1))));(case side4=>exact (Kd.R_reads' HO990.out).2.1);(case side5=>first|exact HT.out|exact HT.out.below bb_|(repeat (first|exact HT.out|apply TabOK.drewN|apply TabOK.drew|apply TabOK.alloc)));rintro e w36 ⟨v1007,rfl,ho0,hb⟩;refine ⟨_,rfl,?_⟩;have HO1008:=A_ (Kd.R_lower (Kd.R_new' (Kd.R_new' (Kd.R_new' (Kd.R_new' ho0 (Kd.R_lt (by (with_reducible repeat (first|apply Kd.R_alloc|apply Kd.R_drewN|apply Kd.R_drew));exact (Kd.R_mono (Kd.R_far (p:=⟨gb1004,1,none⟩) (Kd.R_far (p:=⟨gb1004,0,none⟩) (Kd.R_types HO986.out BK1004.out (by decide)) (fun _ hk=>hk.2) (.int .i64 t999)) (fun _ hk=>hk.2) (.slice Ao33 t1000.length co33)) (fun _ h_=>h_.1))))) (Kd.R_lt (by (with_reducible repeat (first|apply Kd.R_alloc|apply Kd.R_drewN|apply Kd.R_drew));exact (Kd.R_mono (Kd.R_far (p:=⟨gb1004,1,none⟩) (Kd.R_far (p:=⟨gb1004,0,none⟩) (Kd.R_types HO990.out BK1004.out (by decide)) (fun _ hk=>hk.2) (.int .i64 t999)) (fun _ hk=>hk.2) (.slice Ao33 t1000.length co33)) (fun _ h_=>h_.1))))) (Kd.R_lt (by (with_reducible repeat (first|apply Kd.R_alloc|apply Kd.R_drewN|apply Kd.R_drew));exact (Kd.R_mono (Kd.R_far (p:=⟨gb1004,1,none⟩) (Kd.R_far (p:=⟨gb1004,0,none⟩) (Kd.R_types HO996.out BK1004.out (by decide)) (fun _ hk=>hk.2) (.int .i64 t999)) (fun _ hk=>hk.2) (.slice Ao33 t1000.length co33)) (fun _ h_=>h_.1))))) (Kd.R_lt (by (with_reducible repeat (first|apply Kd.R_alloc|apply Kd.R_drewN|apply Kd.R_drew));exact (Kd.R_mono (Kd.R_far (p:=⟨gb1004,1,none⟩) (Kd.R_far (p:=⟨gb1004,0,none⟩) (Kd.R_types HO1002.out BK1004.out (by decide)) (fun _ hk=>hk.2) (.int .i64 t999)) (fun _ hk=>hk.2) (.slice Ao33 t1000.length co33)) (fun _ h_=>h_.1))))) (below_size bb_));replace HO986:=A_ (Kd.R_elder' (by (with_reducible repeat (first|apply Kd.R_alloc|apply Kd.R_drewN|apply Kd.R_drew));exact (Kd.R_mono (Kd.R_far (p:=⟨gb1004,1,none⟩) (Kd.R_far (p:=⟨gb1004,0,none⟩) (Kd.R_types HO986.out BK1004.out (by decide)) (fun _ hk=>hk.2) (.int .i64 t999)) (fun _ hk=>hk.2) (.slice Ao33 t1000.length co33)) (fun _ h_=>h_.1))) (Kd.R_base ho0) hb);replace HO990:=A_ (Kd.R_elder' (by (with_reducible repeat (first|apply Kd.R_alloc|apply Kd.R_drewN|apply Kd.R_drew));exact (Kd.R_mono (Kd.R_far (p:=⟨gb1004,1,none⟩) (Kd.R_far (p:=⟨gb1004,0,none⟩) (Kd.R_types HO990.out BK1004.out (by decide)) (fun _ hk=>hk.2) (.int .i64 t999)) (fun _ hk=>hk.2) (.slice Ao33 t1000.length co33)) (fun _ h_=>h_.1))) (Kd.R_base ho0) hb);replace HO996:=A_ (Kd.R_elder' (by (with_reducible repeat (first|apply Kd.R_alloc|apply Kd.R_drewN|apply Kd.R_drew));exact (Kd.R_mono (Kd.R_far (p:=⟨gb1004,1,none⟩) (Kd.R_far (p:=⟨gb1004,0,none⟩) (Kd.R_types HO996.out BK1004.out (by decide)) (fun _ hk=>hk.2) (.int .i64 t999)) (fun _ hk=>hk.2) (.slice Ao33 t1000.length co33)) (fun _ h_=>h_.1))) (Kd.R_base ho0) hb);replace HO1002:=A_ (Kd.R_elder' (by (with_reducible repeat (first|apply Kd.R_alloc|apply Kd.R_drewN|apply Kd.R_drew));exact (Kd.R_mono (Kd.R_far (p:=⟨gb1004,1,none⟩) (Kd.R_far (p:=⟨gb1004,0,none⟩) (Kd.R_types HO1002.out BK1004.out (by decide)) (fun _ hk=>hk.2) (.int .i64 t999)) (fun _ hk=>hk.2) (.slice Ao33 t1000.length co33)) (fun _ h_=>h_.1))) (Kd.R_base ho0) hb);replace BK991:=A_ (blk_below (g:=gb991) (o:=.cells #[.int .i64 t983,.slice Ao16 t984.length co16] 26 (0,0)) (by (with_reducible repeat (first|refine blk_drewN ?_ _|refine blk_drew ?_|refine blk_alloc ?_ _));refine blk_far ?_ NB991_1004.out _;(with_reducible repeat (first|refine blk_drewN ?_ _|refine blk_drew ?_|refine blk_alloc ?_ _));refine blk_far ?_ NB991_1004.out _;(with_reducible repeat (first|refine blk_drewN ?_ _|refine blk_drew ?_|refine blk_alloc ?_ _));exact BK991.out) hb);replace BK992:=A_ (blk_below (g:=gb992) (o:=.cells #[.int .i64 t987,.slice Ao18 t988.length co18] 26 (0,0)) (by (with_reducible repeat (first|refine blk_drewN ?_ _|refine blk_drew ?_|refine blk_alloc ?_ _));refine blk_far ?_ NB992_1004.out _;(with_reducible repeat (first|refine blk_drewN ?_ _|refine blk_drew ?_|refine blk_alloc ?_ _));refine blk_far ?_ NB992_1004.out _;(with_reducible repeat (first|refine blk_drewN ?_ _|refine blk_drew ?_|refine blk_alloc ?_ _));exact BK992.out) hb);replace BK998:=A_ (blk_below (g:=gb998) (o:=.cells #[.int .i64 t993,.slice Ao24 t994.length co24] 26 (0,0)) (by (with_reducible repeat (first|refine blk_drewN ?_ _|refine blk_drew ?_|refine blk_alloc ?_ _));refine blk_far ?_ NB998_1004.out _;(with_reducible repeat (first|refine blk_drewN ?_ _|refine blk_drew ?_|refine blk_alloc ?_ _));refine blk_far ?_ NB998_1004.out _;(with_reducible repeat (first|refine blk_drewN ?_ _|refine blk_drew ?_|refine blk_alloc ?_ _));exact BK998.out) hb);replace BK1004:=A_ (blk_below (g:=gb1004) (o:=.cells #[.int .i64 t999,.slice Ao33 t1000.length co33] 26 (0,0)) (by (with_reducible repeat (first|refine blk_drewN ?_ _|refine blk_drew ?_|refine blk_alloc ?_ _));refine blk_put (cs:=#[.int .i64 t999,.slice none 0 0]) ?_ 1 _ rfl;(with_reducible repeat (first|refine blk_drewN ?_ _|refine blk_drew ?_|refine blk_alloc ?_ _));refine blk_put (cs:=#[.int .i64 0,.slice none 0 0]) ?_ 0 _ rfl;(with_reducible repeat (first|refine blk_drewN ?_ _|refine blk_drew ?_|refine blk_alloc ?_ _));exact BK1004.out) hb);replace HB:=A_ (below_step bb_ hb);(try clear hb);(try clear hb2);(try clear hk);(try clear hi);(try clear ho0))|((with_reducible refine gate_dst (N:=11) rfl ?_);refine box_event ?hg (N:=11) ?hd (cs:=#[.int .i64 0,.slice none 0 0]) (t:=26) ?hr ?_;(case hd=>rfl);(case hg=>rfl);(case hr=>first|(go_simp;done)|(go_simp;rfl));intro gb1010 hg w37 hbox hb;replace HO986:=rb_ HO986 hb;replace HO990:=rb_ HO990 hb;replace HO996:=rb_ HO996 hb;replace HO1002:=rb_ HO1002 hb;replace HO1008:=rb_ HO1008 hb;have BK1010:=A_ (hbox);have GW1010:=A_ ((by rw [hg];exact (below_size bb_) : w.heap.size ≤ gb1010));have GE1010:=A_ ((by rw [hg];exact (below_size bb_) : w.heap.size ≤ gb1010));replace HB:=A_ (below_step bb_ hb);have NB991_1010:=A_ ((by rw [hg];exact Nat.ne_of_lt (blk_lt (bl_ BK991)) : gb991 ≠ gb1010));have NB1010_991:=A_ ((by rw [hg];exact Nat.ne_of_gt (blk_lt (bl_ BK991)) : gb1010 ≠ gb991));replace BK991:=bz BK991 hb;have NB992_1010:=A_ ((by rw [hg];exact Nat.ne_of_lt (blk_lt (bl_ BK992)) : gb992 ≠ gb1010));have NB1010_992:=A_ ((by rw [hg];exact Nat.ne_of_gt (blk_lt (bl_ BK992)) : gb1010 ≠ gb992));replace BK992:=bz BK992 hb;have NB998_1010:=A_ ((by rw [hg];exact Nat.ne_of_lt (blk_lt (bl_ BK998)) : gb998 ≠ gb1010));have NB1010_998:=A_ ((by rw [hg];exact Nat.ne_of_gt (blk_lt (bl_ BK998)) : gb1010 ≠ gb998));replace BK998:=bz BK998 hb;have NB1004_1010:=A_ ((by rw [hg];exact Nat.ne_of_lt (blk_lt (bl_ BK1004)) : gb1004 ≠ gb1010));have NB1010_1004:=A_ ((by rw [hg];exact Nat.ne_of_gt (blk_lt (bl_ BK1004)) : gb1010 ≠ gb1004));replace BK1004:=bz BK1004 hb;clear hb hbox hg;have hnb38:=NB1010_991.out;have hnc38:=NB991_1010.out;have hnb39:=NB1010_992.out;have hnc39:=NB992_1010.out;have hnb40:=NB1010_998.out;have hnc40:=NB998_1010.out;have hnb41:=NB1010_1004.out;have hnc41:=NB1004_1010.out;have hcz42_0 : w37.cell? ⟨gb1010,0,none⟩ = some (.int .i64 0):=blk_cell BK1010.out 0;have hcz42_1 : w37.cell? ⟨gb1010,1,none⟩ = some (.slice none 0 0):=blk_cell BK1010.out 1;have hfz42_0:=blk_frozen BK1010.out 0;have hfz42_1:=blk_frozen BK1010.out 1;obtain ⟨Ao43,co43,eo43⟩:=Kd.R_slice HO1008.out;subst eo43;have hcz44_0 : w37.cell? ⟨gb991,0,none⟩ = some (.int .i64 t983):=blk_cell BK991.out 0;have hcz44_1 : w37.cell? ⟨gb991,1,none⟩ = some (.slice Ao16 t984.length co16):=blk_cell BK991.out 1;have hfz44_0:=blk_frozen BK991.out 0;have hfz44_1:=blk_frozen BK991.out 1;have hcz45_0 : w37.cell? ⟨gb992,0,none⟩ = some (.int .i64 t987):=blk_cell BK992.out 0;have hcz45_1 : w37.cell? ⟨gb992,1,none⟩ = some (.slice Ao18 t988.length co18):=blk_cell BK992.out 1;have hfz45_0:=blk_frozen BK992.out 0;have hfz45_1:=blk_frozen BK992.out 1)|((with_reducible refine gate_callee (f:=46) rfl ?_);refine goesL_ (some 60) rfl rfl Tryd.func46 (by kernel_rfl) rfl #[.agg #[.int .i64 t983,.slice Ao16 t984.length co16],.agg #[.int .i64 t987,.slice Ao18 t988.length co18]] rfl au_ ?_;(with_reducible refine (spec_StackOrders.calls k t983 _ _ t984 t987 _ _ t988 t1011 t1012 t1015 _ ?side1 ?side2 ?side3 ?side4 A9.out).mono ?_);(case side1=>refine (Kd.R_reads' (e:=3) (base:=w.heap.size) (ok:=fun k_=>(((some k_ ≠ (.slice Ao18 t988.length co18 : Value).ownBlock ∧ some k_ ≠ (.slice Ao24 t994.length co24 : Value).ownBlock) ∧ some k_ ≠ (.slice Ao33 t1000.length co33 : Value).ownBlock) ∧ some k_ ≠ (.slice Ao43 t1006.length co43 : Value).ownBlock)) (n:=t984.length) (c:=co16) ?_).2.2;exact (by (with_reducible repeat (first|apply Kd.R_alloc|apply Kd.R_drewN|apply Kd.R_drew));exact (Kd.R_mono (Kd.R_far (p:=⟨gb1010,1,none⟩) (Kd.R_far (p:=⟨gb1010,0,none⟩) (Kd.R_types HO986.out BK1010.out (by decide)) (fun _ hk=>hk.2) (.int .i64 t1005)) (fun _ hk=>hk.2) (.slice Ao43 t1006.length co43)) (fun _ h_=>h_.1))));(case side2=>exact (Kd.R_reads' HO986.out).2.1);(case side3=>refine (Kd.R_reads' (e:=3) (base:=w.heap.size) (ok:=fun k_=>(((some k_ ≠ (.slice Ao16 t984.length co16 : Value).ownBlock ∧ some k_ ≠ (.slice Ao24 t994.length co24 : Value).ownBlock) ∧ some k_ ≠ (.slice Ao33 t1000.length co33 : Value).ownBlock) ∧ some k_ ≠ (.slice Ao43 t1006.length co43 : Value).ownBlock)) (n:=t988.length) (c:=co18) ?_).2.2;exact (by (with_reducible repeat (first|apply Kd.R_alloc|apply Kd.R_drewN|apply Kd.R_drew));exact (Kd.R_mono (Kd.R_far (p:=⟨gb1010,1,none⟩) (Kd.R_far (p:=⟨gb1010,0,none⟩) (Kd.R_types HO990.out BK1010.out (by decide)) (fun _ hk=>hk.2) (.int .i64 t1005)) (fun _ hk=>hk.2) (.slice Ao43 t1006.length co43)) (fun _ h_=>h_.1))));(case side4=>exact (Kd.R_reads' HO990.out).2.1);rintro e w46 ⟨v1013,rfl,ho0,hb⟩;refine ⟨_,rfl,?_⟩;have HO1014:=A_ (Kd.R_lower (Kd.R_new' (Kd.R_new' (Kd.R_new' (Kd.R_new' (Kd.R_new' ho0 (Kd.R_lt (by (with_reducible repeat (first|apply Kd.R_alloc|apply Kd.R_drewN|apply Kd.R_drew));exact (Kd.R_mono (Kd.R_far (p:=⟨gb1010,1,none⟩) (Kd.R_far (p:=⟨gb1010,0,none⟩) (Kd.R_types HO986.out BK1010.out (by decide)) (fun _ hk=>hk.2) (.int .i64 t1005)) (fun _ hk=>hk.2) (.slice Ao43 t1006.length co43)) (fun _ h_=>h_.1))))) (Kd.R_lt (by (with_reducible repeat (first|apply Kd.R_alloc|apply Kd.R_drewN|apply Kd.R_drew));exact (Kd.R_mono (Kd.R_far (p:=⟨gb1010,1,none⟩) (Kd.R_far (p:=⟨gb1010,0,none⟩) (Kd.R_types HO990.out BK1010.out (by decide)) (fun _ hk=>hk.2) (.int .i64 t1005)) (fun _ hk=>hk.2) (.slice Ao43 t1006.length co43)) (fun _ h_=>h_.1))))) (Kd.R_lt (by (with_reducible repeat (first|apply Kd.R_alloc|apply Kd.R_drewN|apply Kd.R_drew));exact (Kd.R_mono (Kd.R_far (p:=⟨gb1010,1,none⟩) (Kd.R_far (p:=⟨gb1010,0,none⟩) (Kd.R_types HO996.out BK1010.out (by decide)) (fun _ hk=>hk.2) (.int .i64 t1005)) (fun _ hk=>hk.2) (.slice Ao43 t1006.length co43)) (fun _ h_=>h_.1))))) (Kd.R_lt (by (with_reducible repeat (first|apply Kd.R_alloc|apply Kd.R_drewN|apply Kd.R_drew));exact (Kd.R_mono (Kd.R_far (p:=⟨gb1010,1,none⟩) (Kd.R_far (p:=⟨gb1010,0,none⟩) (Kd.R_types HO1002.out BK1010.out (by decide)) (fun _ hk=>hk.2) (.int .i64 t1005)) (fun _ hk=>hk.2) (.slice Ao43 t1006.length co43)) (fun _ h_=>h_.1))))) (Kd.R_lt (by (with_reducible repeat (first|apply Kd.R_alloc|apply Kd.R_drewN|apply Kd.R_drew));exact (Kd.R_mono (Kd.R_far (p:=⟨gb1010,1,none⟩) (Kd.R_far (p:=⟨gb1010,0,none⟩) (Kd.R_types HO1008.out BK1010.out (by decide)) (fun _ hk=>hk.2) (.int .i64 t1005)) (fun _ hk=>hk.2) (.slice Ao43 t1006.length co43)) (fun _ h_=>h_.1))))) (below_size bb_));replace HO986:=A_ (Kd.R_elder' (by (with_reducible repeat (first|apply Kd.R_alloc|apply Kd.R_drewN|apply Kd.R_drew));exact (Kd.R_mono (Kd.R_far (p:=⟨gb1010,1,none⟩) (Kd.R_far (p:=⟨gb1010,0,none⟩) (Kd.R_types HO986.out BK1010.out (by decide)) (fun _ hk=>hk.2) (.int .i64 t1005)) (fun _ hk=>hk.2) (.slice Ao43 t1006.length co43)) (fun _ h_=>h_.1))) (Kd.R_base ho0) hb);replace HO990:=A_ (Kd.R_elder' (by (with_reducible repeat (first|apply Kd.R_alloc|apply Kd.R_drewN|apply Kd.R_drew));exact (Kd.R_mono (Kd.R_far (p:=⟨gb1010,1,none⟩) (Kd.R_far (p:=⟨gb1010,0,none⟩) (Kd.R_types HO990.out BK1010.out (by decide)) (fun _ hk=>hk.2) (.int .i64 t1005)) (fun _ hk=>hk.2) (.slice Ao43 t1006.length co43)) (fun _ h_=>h_.1))) (Kd.R_base ho0) hb);replace HO996:=A_ (Kd.R_elder' (by (with_reducible repeat (first|apply Kd.R_alloc|apply Kd.R_drewN|apply Kd.R_drew));exact (Kd.R_mono (Kd.R_far (p:=⟨gb1010,1,none⟩) (Kd.R_far (p:=⟨gb1010,0,none⟩) (Kd.R_types HO996.out BK1010.out (by decide)) (fun _ hk=>hk.2) (.int .i64 t1005)) (fun _ hk=>hk.2) (.slice Ao43 t1006.length co43)) (fun _ h_=>h_.1))) (Kd.R_base ho0) hb);replace HO1002:=A_ (Kd.R_elder' (by (with_reducible repeat (first|apply Kd.R_alloc|apply Kd.R_drewN|apply Kd.R_drew));exact (Kd.R_mono (Kd.R_far (p:=⟨gb1010,1,none⟩) (Kd.R_far (p:=⟨gb1010,0,none⟩) (Kd.R_types HO1002.out BK1010.out (by decide)) (fun _ hk=>hk.2) (.int .i64 t1005)) (fun _ hk=>hk.2) (.slice Ao43 t1006.length co43)) (fun _ h_=>h_.1))) (Kd.R_base ho0) hb);replace HO1008:=A_ (Kd.R_elder' (by (with_reducible repeat (first|apply Kd.R_alloc|apply Kd.R_drewN|apply Kd.R_drew));exact (Kd.R_mono (Kd.R_far (p:=⟨gb1010,1,none⟩) (Kd.R_far (p:=⟨gb1010,0,none⟩) (Kd.R_types HO1008.out BK1010.out (by decide)) (fun _ hk=>hk.2) (.int .i64 t1005)) (fun _ hk=>hk.2) (.slice Ao43 t1006.length co43)) (fun _ h_=>h_.1))) (Kd.R_base ho0) hb);replace BK991:=A_ (blk_below (g:=gb991) (o:=.cells #[.int .i64 t983,.slice Ao16 t984.length co16] 26 (0,0)) (by (with_reducible repeat (first|refine blk_drewN ?_ _|refine blk_drew ?_|refine blk_alloc ?_ _));refine blk_far ?_ NB991_1010.out _;(with_reducible repeat (first|refine blk_drewN ?_ _|refine blk_drew ?_|refine blk_alloc ?_ _));refine blk_far ?_ NB991_1010.out _;(with_reducible repeat (first|refine blk_drewN ?_ _|refine blk_drew ?_|refine blk_alloc ?_ _));exact BK991.out) hb);replace BK992:=A_ (blk_below (g:=gb992) (o:=.cells #[.int .i64 t987,.slice Ao18 t988.length co18] 26 (0,0)) (by (with_reducible repeat (first|refine blk_drewN ?_ _|refine blk_drew ?_|refine blk_alloc ?_ _));refine blk_far ?_ NB992_1010.out _;(with_reducible repeat (first|refine blk_drewN ?_ _|refine blk_drew ?_|refine blk_alloc ?_ _));refine blk_far ?_ NB992_1010.out _;(with_reducible repeat (first|refine blk_drewN ?_ _|refine blk_drew ?_|refine blk_alloc ?_ _));exact BK992.out) hb);replace BK998:=A_ (blk_below (g:=gb998) (o:=.cells #[.int .i64 t993,.slice Ao24 t994.length co24] 26 (0,0)) (by (with_reducible repeat (first|refine blk_drewN ?_ _|refine blk_drew ?_|refine blk_alloc ?_ _));refine blk_far ?_ NB998_1010.out _;(with_reducible repeat (first|refine blk_drewN ?_ _|refine blk_drew ?_|refine blk_alloc ?_ _));refine blk_far ?_ NB998_1010.out _;(with_reducible repeat (first|refine blk_drewN ?_ _|refine blk_drew ?_|refine blk_alloc ?_ _));exact BK998.out) hb);replace BK1004:=A_ (blk_below (g:=gb1004) (o:=.cells #[.int .i64 t999,.slice Ao33 t1000.length co33] 26 (0,0)) (by (with_reducible repeat (first|refine blk_drewN ?_ _|refine blk_drew ?_|refine blk_alloc ?_ _));refine blk_far ?_ NB1004_1010.out _;(with_reducible repeat (first|refine blk_drewN ?_ _|refine blk_drew ?_|refine blk_alloc ?_ _));refine blk_far ?_ NB1004_1010.out _;(with_reducible repeat (first|refine blk_drewN ?_ _|refine blk_drew ?_|refine blk_alloc ?_ _));exact BK1004.out) hb);replace BK1010:=A_ (blk_below (g:=gb1010) (o:=.cells #[.int .i64 t1005,.slice Ao43 t1006.length co43] 26 (0,0)) (by (with_reducible repeat (first|refine blk_drewN ?_ _|refine blk_drew ?_|refine blk_alloc ?_ _));refine blk_put (cs:=#[.int .i64 t1005,.slice none 0 0]) ?_ 1 _ rfl;(with_reducible repeat (first|refine blk_drewN ?_ _|refine blk_drew ?_|refine blk_alloc ?_ _));refine blk_put (cs:=#[.int .i64 0,.slice none 0 0]) ?_ 0 _ rfl;(with_reducible repeat (first|refine blk_drewN ?_ _|refine blk_drew ?_|refine blk_alloc ?_ _));exact BK1010.out) hb);replace HB:=A_ (below_step bb_ hb);(try clear hb);(try clear hb2);(try clear hk);(try clear hi);(try clear ho0))|((with_reducible refine gate_dst (N:=13) rfl ?_);refine box_event ?hg (N:=13) ?hd (cs:=#[.int .i64 0,.slice none 0 0]) (t:=26) ?hr ?_;(case hd=>rfl);(case hg=>rfl);(case hr=>first|(go_simp;done)|(go_simp;rfl));intro gb1016 hg w47 hbox hb;replace HO986:=rb_ HO986 hb;replace HO990:=rb_ HO990 hb;replace HO996:=rb_ HO996 hb;replace HO1002:=rb_ HO1002 hb;replace HO1008:=rb_ HO1008 hb;replace HO1014:=rb_ HO1014 hb;have BK1016:=A_ (hbox);have GW1016:=A_ ((by rw [hg];exact (below_size bb_) : w.heap.size ≤ gb1016));have GE1016:=A_ ((by rw [hg];exact (below_size bb_) : w.heap.size ≤ gb1016));replace HB:=A_ (below_step bb_ hb);have NB991_1016:=A_ ((by rw [hg];exact Nat.ne_of_lt (blk_lt (bl_ BK991)) : gb991 ≠ gb1016));have NB1016_991:=A_ ((by rw [hg];exact Nat.ne_of_gt (blk_lt (bl_ BK991)) : gb1016 ≠ gb991));replace BK991:=bz BK991 hb;have NB992_1016:=A_ ((by rw [hg];exact Nat.ne_of_lt (blk_lt (bl_ BK992)) : gb992 ≠ gb1016));have NB1016_992:=A_ ((by rw [hg];exact Nat.ne_of_gt (blk_lt (bl_ BK992)) : gb1016 ≠ gb992));replace BK992:=bz BK992 hb;have NB998_1016:=A_ ((by rw [hg];exact Nat.ne_of_lt (blk_lt (bl_ BK998)) : gb998 ≠ gb1016));have NB1016_998:=A_ ((by rw [hg];exact Nat.ne_of_gt (blk_lt (bl_ BK998)) : gb1016 ≠ gb998));replace BK998:=bz BK998 hb;have NB1004_1016:=A_ ((by rw [hg];exact Nat.ne_of_lt (blk_lt (bl_ BK1004)) : gb1004 ≠ gb1016));have NB1016_1004:=A_ ((by rw [hg];exact Nat.ne_of_gt (blk_lt (bl_ BK1004)) : gb1016 ≠ gb1004));replace BK1004:=bz BK1004 hb;have NB1010_1016:=A_ ((by rw [hg];exact Nat.ne_of_lt (blk_lt (bl_ BK1010)) : gb1010 ≠ gb1016));have NB1016_1010:=A_ ((by rw [hg];exact Nat.ne_of_gt (blk_lt (bl_ BK1010)) : gb1016 ≠ gb1010));replace BK1010:=bz BK1010 hb;clear hb hbox hg;have hnb48:=NB1016_991.out;have hnc48:=NB991_1016.out;have hnb49:=NB1016_992.out;have hnc49:=NB992_1016.out;have hnb50:=NB1016_998.out;have hnc50:=NB998_1016.out;have hnb51:=NB1016_1004.out;have hnc51:=NB1004_1016.out;have hnb52:=NB1016_1010.out;have hnc52:=NB1010_1016.out;have hcz53_0 : w47.cell? ⟨gb1016,0,none⟩ = some (.int .i64 0):=blk_cell BK1016.out 0;have hcz53_1 : w47.cell? ⟨gb1016,1,none⟩ = some (.slice none 0 0):=blk_cell BK1016.out 1;have hfz53_0:=blk_frozen BK1016.out 0;have hfz53_1:=blk_frozen BK1016.out 1;obtain ⟨Ao54,co54,eo54⟩:=Kd.R_slice HO1014.out;subst eo54))
  (try simp only [Act.put,L_,M_,N_]);go_cut [87] (fun v87 wc=>∃ (kq : Nat) (x87_9 : Bool),v87 = .bool x87_9 ∧ Aside0 (laws_FnExtensions.j0 kq t997 x87_9 t983 t984 t987 t988 t993 t994 t1005 t1006 = some r) ∧ Aside0 (kq ≤ k) ∧ Aside0 (Kd.R (Kd.int .i64) 3 wc w.heap.size (fun k_=>some k_ ≠ ((.slice Ao18 t988.length co18) : Value).ownBlock ∧ some k_ ≠ ((.slice Ao24 t994.length co24) : Value).ownBlock ∧ some k_ ≠ ((.slice Ao33 t1000.length co33) : Value).ownBlock ∧ some k_ ≠ ((.slice Ao43 t1006.length co43) : Value).ownBlock ∧ some k_ ≠ ((.slice Ao54 t1012.length co54) : Value).ownBlock) (.slice Ao16 t984.length co16) t984) ∧ Aside0 (Kd.R (Kd.int .i64) 3 wc w.heap.size (fun k_=>some k_ ≠ ((.slice Ao16 t984.length co16) : Value).ownBlock ∧ some k_ ≠ ((.slice Ao24 t994.length co24) : Value).ownBlock ∧ some k_ ≠ ((.slice Ao33 t1000.length co33) : Value).ownBlock ∧ some k_ ≠ ((.slice Ao43 t1006.length co43) : Value).ownBlock ∧ some k_ ≠ ((.slice Ao54 t1012.length co54) : Value).ownBlock) (.slice Ao18 t988.length co18) t988) ∧ Aside0 (Kd.R (Kd.int .i64) 3 wc w.heap.size (fun k_=>some k_ ≠ ((.slice Ao16 t984.length co16) : Value).ownBlock ∧ some k_ ≠ ((.slice Ao18 t988.length co18) : Value).ownBlock ∧ some k_ ≠ ((.slice Ao33 t1000.length co33) : Value).ownBlock ∧ some k_ ≠ ((.slice Ao43 t1006.length co43) : Value).ownBlock ∧ some k_ ≠ ((.slice Ao54 t1012.length co54) : Value).ownBlock) (.slice Ao24 t994.length co24) t994) ∧ Aside0 (Kd.R (Kd.int .i64) 3 wc w.heap.size (fun k_=>some k_ ≠ ((.slice Ao16 t984.length co16) : Value).ownBlock ∧ some k_ ≠ ((.slice Ao18 t988.length co18) : Value).ownBlock ∧ some k_ ≠ ((.slice Ao24 t994.length co24) : Value).ownBlock ∧ some k_ ≠ ((.slice Ao43 t1006.length co43) : Value).ownBlock ∧ some k_ ≠ ((.slice Ao54 t1012.length co54) : Value).ownBlock) (.slice Ao33 t1000.length co33) t1000) ∧ Aside0 (Kd.R (Kd.int .i64) 3 wc w.heap.size (fun k_=>some k_ ≠ ((.slice Ao16 t984.length co16) : Value).ownBlock ∧ some k_ ≠ ((.slice Ao18 t988.length co18) : Value).ownBlock ∧ some k_ ≠ ((.slice Ao24 t994.length co24) : Value).ownBlock ∧ some k_ ≠ ((.slice Ao33 t1000.length co33) : Value).ownBlock ∧ some k_ ≠ ((.slice Ao54 t1012.length co54) : Value).ownBlock) (.slice Ao43 t1006.length co43) t1006) ∧ Aside0 (Kd.R (Kd.int .i64) 3 wc w.heap.size (fun k_=>some k_ ≠ ((.slice Ao16 t984.length co16) : Value).ownBlock ∧ some k_ ≠ ((.slice Ao18 t988.length co18) : Value).ownBlock ∧ some k_ ≠ ((.slice Ao24 t994.length co24) : Value).ownBlock ∧ some k_ ≠ ((.slice Ao33 t1000.length co33) : Value).ownBlock ∧ some k_ ≠ ((.slice Ao43 t1006.length co43) : Value).ownBlock) (.slice Ao54 t1012.length co54) t1012) ∧ Aside0 (wc.heap[gb991]? = some (.cells #[.int .i64 t983,(.slice Ao16 t984.length co16)] 26 (0,0))) ∧ Aside0 (wc.heap[gb992]? = some (.cells #[.int .i64 t987,(.slice Ao18 t988.length co18)] 26 (0,0))) ∧ Aside0 (wc.heap[gb998]? = some (.cells #[.int .i64 t993,(.slice Ao24 t994.length co24)] 26 (0,0))) ∧ Aside0 (wc.heap[gb1004]? = some (.cells #[.int .i64 t999,(.slice Ao33 t1000.length co33)] 26 (0,0))) ∧ Aside0 (wc.heap[gb1010]? = some (.cells #[.int .i64 t1005,(.slice Ao43 t1006.length co43)] 26 (0,0))) ∧ Aside0 (wc.heap[gb1016]? = some (.cells #[.int .i64 t1011,(.slice Ao54 t1012.length co54)] 26 (0,0))) ∧ Aside0 (Below w.heap.size w wc))
  case first =>
   have H:=HC10.out;clear HC10;by_cases c55 : (t997 != t1003) = true
   ·rw [if_pos c55] at H;have c55b0 : (t997 != t1003) = true:=c55;(try (have c55b1 : decide (t997 = t1003) = false:=by simpa using c55));(try (have c55b2 : (t997 == t1003) = false:=by simpa using c55));(try (have c55b3 : ¬ (t997 = t1003):=by simpa using c55));clear c55;(first|rw [c55b0]|(simp only [i64_w,i32_w];rw [c55b0])|skip)
    have H':=A_ H;clear H;go_wp2
    go_meet
    case rel=>exact ⟨_,(true),(by first|rfl|(simp;done)|(simp [*];done)),H',⟨by first|omega|exact Nat.le_refl _⟩,⟨by (with_reducible repeat (first|apply Kd.R_alloc|apply Kd.R_drewN|apply Kd.R_drew));exact Kd.R_mono (Kd.R_far (p:=⟨gb1016,1,none⟩) (Kd.R_far (p:=⟨gb1016,0,none⟩) (Kd.R_types HO986.out BK1016.out (by decide)) (fun _ hk=>hk.2) (.int .i64 t1011)) (fun _ hk=>hk.2) (.slice Ao54 t1012.length co54)) (fun _ hk=>⟨hk.1.1.1.1.1,⟨hk.1.1.1.1.2,⟨hk.1.1.1.2,⟨hk.1.1.2,hk.1.2⟩⟩⟩⟩)⟩,⟨by (with_reducible repeat (first|apply Kd.R_alloc|apply Kd.R_drewN|apply Kd.R_drew));exact Kd.R_mono (Kd.R_far (p:=⟨gb1016,1,none⟩) (Kd.R_far (p:=⟨gb1016,0,none⟩) (Kd.R_types HO990.out BK1016.out (by decide)) (fun _ hk=>hk.2) (.int .i64 t1011)) (fun _ hk=>hk.2) (.slice Ao54 t1012.length co54)) (fun _ hk=>⟨hk.1.1.1.1.1,⟨hk.1.1.1.1.2,⟨hk.1.1.1.2,⟨hk.1.1.2,hk.1.2⟩⟩⟩⟩)⟩,⟨by (with_reducible repeat (first|apply Kd.R_alloc|apply Kd.R_drewN|apply Kd.R_drew));exact Kd.R_mono (Kd.R_far (p:=⟨gb1016,1,none⟩) (Kd.R_far (p:=⟨gb1016,0,none⟩) (Kd.R_types HO996.out BK1016.out (by decide)) (fun _ hk=>hk.2) (.int .i64 t1011)) (fun _ hk=>hk.2) (.slice Ao54 t1012.length co54)) (fun _ hk=>⟨hk.1.1.1.1.1.2,⟨hk.1.1.1.1.2,⟨hk.1.1.1.2,⟨hk.1.1.2,hk.1.2⟩⟩⟩⟩)⟩,⟨by (with_reducible repeat (first|apply Kd.R_alloc|apply Kd.R_drewN|apply Kd.R_drew));exact Kd.R_mono (Kd.R_far (p:=⟨gb1016,1,none⟩) (Kd.R_far (p:=⟨gb1016,0,none⟩) (Kd.R_types HO1002.out BK1016.out (by decide)) (fun _ hk=>hk.2) (.int .i64 t1011)) (fun _ hk=>hk.2) (.slice Ao54 t1012.length co54)) (fun _ hk=>⟨hk.1.1.1.1.1.2,⟨hk.1.1.1.1.2,⟨hk.1.1.1.2,⟨hk.1.1.2,hk.1.2⟩⟩⟩⟩)⟩,⟨by (with_reducible repeat (first|apply Kd.R_alloc|apply Kd.R_drewN|apply Kd.R_drew));exact Kd.R_mono (Kd.R_far (p:=⟨gb1016,1,none⟩) (Kd.R_far (p:=⟨gb1016,0,none⟩) (Kd.R_types HO1008.out BK1016.out (by decide)) (fun _ hk=>hk.2) (.int .i64 t1011)) (fun _ hk=>hk.2) (.slice Ao54 t1012.length co54)) (fun _ hk=>⟨hk.1.1.1.1.1.2,⟨hk.1.1.1.1.2,⟨hk.1.1.1.2,⟨hk.1.1.2,hk.1.2⟩⟩⟩⟩)⟩,⟨by (with_reducible repeat (first|apply Kd.R_alloc|apply Kd.R_drewN|apply Kd.R_drew));exact Kd.R_mono (Kd.R_far (p:=⟨gb1016,1,none⟩) (Kd.R_far (p:=⟨gb1016,0,none⟩) (Kd.R_types HO1014.out BK1016.out (by decide)) (fun _ hk=>hk.2) (.int .i64 t1011)) (fun _ hk=>hk.2) (.slice Ao54 t1012.length co54)) (fun _ hk=>⟨hk.1.1.1.1.1.2,⟨hk.1.1.1.1.2,⟨hk.1.1.1.2,⟨hk.1.1.2,hk.1.2⟩⟩⟩⟩)⟩,⟨by (with_reducible repeat (first|refine blk_drewN ?_ _|refine blk_drew ?_|refine blk_alloc ?_ _));refine blk_far ?_ NB991_1016.out _;(with_reducible repeat (first|refine blk_drewN ?_ _|refine blk_drew ?_|refine blk_alloc ?_ _));refine blk_far ?_ NB991_1016.out _;(with_reducible repeat (first|refine blk_drewN ?_ _|refine blk_drew ?_|refine blk_alloc ?_ _));exact BK991.out⟩,⟨by (with_reducible repeat (first|refine blk_drewN ?_ _|refine blk_drew ?_|refine blk_alloc ?_ _));refine blk_far ?_ NB992_1016.out _;(with_reducible repeat (first|refine blk_drewN ?_ _|refine blk_drew ?_|refine blk_alloc ?_ _));refine blk_far ?_ NB992_1016.out _;(with_reducible repeat (first|refine blk_drewN ?_ _|refine blk_drew ?_|refine blk_alloc ?_ _));exact BK992.out⟩,⟨by (with_reducible repeat (first|refine blk_drewN ?_ _|refine blk_drew ?_|refine blk_alloc ?_ _));refine blk_far ?_ NB998_1016.out _;(with_reducible repeat (first|refine blk_drewN ?_ _|refine blk_drew ?_|refine blk_alloc ?_ _));refine blk_far ?_ NB998_1016.out _;(with_reducible repeat (first|refine blk_drewN ?_ _|refine blk_drew ?_|refine blk_alloc ?_ _));exact BK998.out⟩,⟨by (with_reducible repeat (first|refine blk_drewN ?_ _|refine blk_drew ?_|refine blk_alloc ?_ _));refine blk_far ?_ NB1004_1016.out _;(with_reducible repeat (first|refine blk_drewN ?_ _|refine blk_drew ?_|refine blk_alloc ?_ _));refine blk_far ?_ NB1004_1016.out _;(with_reducible repeat (first|refine blk_drewN ?_ _|refine blk_drew ?_|refine blk_alloc ?_ _));exact BK1004.out⟩,⟨by (with_reducible repeat (first|refine blk_drewN ?_ _|refine blk_drew ?_|refine blk_alloc ?_ _));refine blk_far ?_ NB1010_1016.out _;(with_reducible repeat (first|refine blk_drewN ?_ _|refine blk_drew ?_|refine blk_alloc ?_ _));refine blk_far ?_ NB1010_1016.out _;(with_reducible repeat (first|refine blk_drewN ?_ _|refine blk_drew ?_|refine blk_alloc ?_ _));exact BK1010.out⟩,⟨by (with_reducible repeat (first|refine blk_drewN ?_ _|refine blk_drew ?_|refine blk_alloc ?_ _));refine blk_put (cs:=#[.int .i64 t1011,.slice none 0 0]) ?_ 1 _ rfl;(with_reducible repeat (first|refine blk_drewN ?_ _|refine blk_drew ?_|refine blk_alloc ?_ _));refine blk_put (cs:=#[.int .i64 0,.slice none 0 0]) ?_ 0 _ rfl;(with_reducible repeat (first|refine blk_drewN ?_ _|refine blk_drew ?_|refine blk_alloc ?_ _));exact BK1016.out⟩,⟨bb_⟩⟩
   ·rw [if_neg c55] at H;have c55b0 : (t997 != t1003) = false:=by simpa using c55
    (try (have c55b1 : decide (t997 = t1003) = true:=by simpa using c55));(try (have c55b2 : (t997 == t1003) = true:=by simpa using c55));clear c55;(first|rw [c55b0]|(simp only [i64_w,i32_w];rw [c55b0])|skip)
    replace H:=Option.bind_eq_some_iff.mp H;obtain ⟨t1017,A560,H⟩:=H;replace H : (if t1017 = true then (if (t1009 != t1015) = true then (laws_FnExtensions.j0 k t997 true t983 t984 t987 t988 t993 t994 t1005 t1006) else ((laws_pSameOrder.f k t1005 t1006 t1011 t1012).bind fun t1018=>(if t1018 = true then (laws_FnExtensions.j0 k t997 (t997 != t1009) t983 t984 t987 t988 t993 t994 t1005 t1006) else (laws_FnExtensions.j0 k t997 true t983 t984 t987 t988 t993 t994 t1005 t1006)))) else (laws_FnExtensions.j0 k t997 true t983 t984 t987 t988 t993 t994 t1005 t1006)) = some r:=H;have A56:=A_ A560;clear A560;by_cases c57 : t1017 = true
    ·subst c57;have H1 : (if (t1009 != t1015) = true then (laws_FnExtensions.j0 k t997 true t983 t984 t987 t988 t993 t994 t1005 t1006) else ((laws_pSameOrder.f k t1005 t1006 t1011 t1012).bind fun t1018=>(if t1018 = true then (laws_FnExtensions.j0 k t997 (t997 != t1009) t983 t984 t987 t988 t993 t994 t1005 t1006) else (laws_FnExtensions.j0 k t997 true t983 t984 t987 t988 t993 t994 t1005 t1006)))) = some r:=by rw [if_pos rfl] at H;exact H
     clear H;have H:=H1;clear H1;by_cases c58 : (t1009 != t1015) = true
     ·rw [if_pos c58] at H;have c58b0 : (t1009 != t1015) = true:=c58;(try (have c58b1 : decide (t1009 = t1015) = false:=by simpa using c58));(try (have c58b2 : (t1009 == t1015) = false:=by simpa using c58));(try (have c58b3 : ¬ (t1009 = t1015):=by simpa using c58));clear c58;have H':=A_ H;clear H;have hnb59:=NB998_991.out;have hnc59:=NB991_998.out;have hnb60:=NB998_992.out;have hnc60:=NB992_998.out;have hnb61:=NB998_1004.out;have hnc61:=NB1004_998.out;have hnb62:=NB998_1010.out;have hnc62:=NB1010_998.out;have hnb63:=NB998_1016.out;have hnc63:=NB1016_998.out;have hcz64_0 : w47.cell? ⟨gb998,0,none⟩ = some (.int .i64 t993):=blk_cell BK998.out 0;have hcz64_1 : w47.cell? ⟨gb998,1,none⟩ = some (.slice Ao24 t994.length co24):=blk_cell BK998.out 1;have hfz64_0:=blk_frozen BK998.out 0;have hfz64_1:=blk_frozen BK998.out 1;have hnb65:=NB1004_991.out;have hnc65:=NB991_1004.out;have hnb66:=NB1004_992.out;have hnc66:=NB992_1004.out;have hnb67:=NB1004_1010.out;have hnc67:=NB1010_1004.out;have hnb68:=NB1004_1016.out;have hnc68:=NB1016_1004.out;have hcz69_0 : w47.cell? ⟨gb1004,0,none⟩ = some (.int .i64 t999):=blk_cell BK1004.out 0;have hcz69_1 : w47.cell? ⟨gb1004,1,none⟩ = some (.slice Ao33 t1000.length co33):=blk_cell BK1004.out 1;have hfz69_0:=blk_frozen BK1004.out 0;have hfz69_1:=blk_frozen BK1004.out 1;go_wp2_with (first|(go_at_call 31;(with_reducible refine (laws_pSameOrder.calls k t993 _ _ t994 t999 _ _ t1000 true _ ?side1 ?side2 ?side3 ?side4 A56.out).mono ?_);(case side1=>refine (Kd.R_reads' (e:=3) (base:=w.heap.size) (ok:=fun k_=>(((((True ∧ some k_ ≠ (.slice Ao16 t984.length co16 : Value).ownBlock) ∧ some k_ ≠ (.slice Ao18 t988.length co18 : Value).ownBlock) ∧ some k_ ≠ (.slice Ao33 t1000.length co33 : Value).ownBlock) ∧ some k_ ≠ (.slice Ao43 t1006.length co43 : Value).ownBlock) ∧ some k_ ≠ (.slice Ao54 t1012.length co54 : Value).ownBlock)) (n:=t994.length) (c:=co24) ?_).2.2;exact (by (with_reducible repeat (first|apply Kd.R_alloc|apply Kd.R_drewN|apply Kd.R_drew));exact (Kd.R_mono (Kd.R_far (p:=⟨gb1016,1,none⟩) (Kd.R_far (p:=⟨gb1016,0,none⟩) (Kd.R_types HO996.out BK1016.out (by decide)) (fun _ hk=>hk.2) (.int .i64 t1011)) (fun _ hk=>hk.2) (.slice Ao54 t1012.length co54)) (fun _ h_=>h_.1))));(case side2=>exact (Kd.R_reads' HO996.out).2.1);(case side3=>refine (Kd.R_reads' (e:=3) (base:=w.heap.size) (ok:=fun k_=>(((((True ∧ some k_ ≠ (.slice Ao16 t984.length co16 : Value).ownBlock) ∧ some k_ ≠ (.slice Ao18 t988.length co18 : Value).ownBlock) ∧ some k_ ≠ (.slice Ao24 t994.length co24 : Value).ownBlock) ∧ some k_ ≠ (.slice Ao43 t1006.length co43 : Value).ownBlock) ∧ some k_ ≠ (.slice Ao54 t1012.length co54 : Value).ownBlock)) (n:=t1000.length) (c:=co33) ?_).2.2;exact (by (with_reducible repeat (first|apply Kd.R_alloc|apply Kd.R_drewN|apply Kd.R_drew));exact (Kd.R_mono (Kd.R_far (p:=⟨gb1016,1,none⟩) (Kd.R_far (p:=⟨gb1016,0,none⟩) (Kd.R_types HO1002.out BK1016.out (by decide)) (fun _ hk=>hk.2) (.int .i64 t1011)) (fun _ hk=>hk.2) (.slice Ao54 t1012.length co54)) (fun _ h_=>h_.1))));(case side4=>exact (Kd.R_reads' HO1002.out).2.1);rintro e w70 ⟨rfl,hb⟩;replace HO986:=A_ (Kd.R_below (by (with_reducible repeat (first|apply Kd.R_alloc|apply Kd.R_drewN|apply Kd.R_drew));exact (Kd.R_mono (Kd.R_far (p:=⟨gb1016,1,none⟩) (Kd.R_far (p:=⟨gb1016,0,none⟩) (Kd.R_types HO986.out BK1016.out (by decide)) (fun _ hk=>hk.2) (.int .i64 t1011)) (fun _ hk=>hk.2) (.slice Ao54 t1012.length co54)) (fun _ h_=>h_.1))) hb);replace HO990:=A_ (Kd.R_below (by (with_reducible repeat (first|apply Kd.R_alloc|apply Kd.R_drewN|apply Kd.R_drew));exact (Kd.R_mono (Kd.R_far (p:=⟨gb1016,1,none⟩) (Kd.R_far (p:=⟨gb1016,0,none⟩) (Kd.R_types HO990.out BK1016.out (by decide)) (fun _ hk=>hk.2) (.int .i64 t1011)) (fun _ hk=>hk.2) (.slice Ao54 t1012.length co54)) (fun _ h_=>h_.1))) hb);replace HO996:=A_ (Kd.R_below (by (with_reducible repeat (first|apply Kd.R_alloc|apply Kd.R_drewN|apply Kd.R_drew));exact (Kd.R_mono (Kd.R_far (p:=⟨gb1016,1,none⟩) (Kd.R_far (p:=⟨gb1016,0,none⟩) (Kd.R_types HO996.out BK1016.out (by decide)) (fun _ hk=>hk.2) (.int .i64 t1011)) (fun _ hk=>hk.2) (.slice Ao54 t1012.length co54)) (fun _ h_=>h_.1))) hb);replace HO1002:=A_ (Kd.R_below (by (with_reducible repeat (first|apply Kd.R_alloc|apply Kd.R_drewN|apply Kd.R_drew));exact (Kd.R_mono (Kd.R_far (p:=⟨gb1016,1,none⟩) (Kd.R_far (p:=⟨gb1016,0,none⟩) (Kd.R_types HO1002.out BK1016.out (by decide)) (fun _ hk=>hk.2) (.int .i64 t1011)) (fun _ hk=>hk.2) (.slice Ao54 t1012.length co54)) (fun _ h_=>h_.1))) hb);replace HO1008:=A_ (Kd.R_below (by (with_reducible repeat (first|apply Kd.R_alloc|apply Kd.R_drewN|apply Kd.R_drew));exact (Kd.R_mono (Kd.R_far (p:=⟨gb1016,1,none⟩) (Kd.R_far (p:=⟨gb1016,0,none⟩) (Kd.R_types HO1008.out BK1016.out (by decide)) (fun _ hk=>hk.2) (.int .i64 t1011)) (fun _ hk=>hk.2) (.slice Ao54 t1012.length co54)) (fun _ h_=>h_.1))) hb);replace HO1014:=A_ (Kd.R_below (by (with_reducible repeat (first|apply Kd.R_alloc|apply Kd.R_drewN|apply Kd.R_drew));exact (Kd.R_mono (Kd.R_far (p:=⟨gb1016,1,none⟩) (Kd.R_far (p:=⟨gb1016,0,none⟩) (Kd.R_types HO1014.out BK1016.out (by decide)) (fun _ hk=>hk.2) (.int .i64 t1011)) (fun _ hk=>hk.2) (.slice Ao54 t1012.length co54)) (fun _ h_=>h_.1))) hb);replace BK991:=A_ (blk_below (g:=gb991) (o:=.cells #[.int .i64 t983,.slice Ao16 t984.length co16] 26 (0,0)) (by (with_reducible repeat (first|refine blk_drewN ?_ _|refine blk_drew ?_|refine blk_alloc ?_ _));refine blk_far ?_ NB991_1016.out _;(with_reducible repeat (first|refine blk_drewN ?_ _|refine blk_drew ?_|refine blk_alloc ?_ _));refine blk_far ?_ NB991_1016.out _;(with_reducible repeat (first|refine blk_drewN ?_ _|refine blk_drew ?_|refine blk_alloc ?_ _));exact BK991.out) hb);replace BK992:=A_ (blk_below (g:=gb992) (o:=.cells #[.int .i64 t987,.slice Ao18 t988.length co18] 26 (0,0)) (by (with_reducible repeat (first|refine blk_drewN ?_ _|refine blk_drew ?_|refine blk_alloc ?_ _));refine blk_far ?_ NB992_1016.out _;(with_reducible repeat (first|refine blk_drewN ?_ _|refine blk_drew ?_|refine blk_alloc ?_ _));refine blk_far ?_ NB992_1016.out _;(with_reducible repeat (first|refine blk_drewN ?_ _|refine blk_drew ?_|refine blk_alloc ?_ _));exact BK992.out) hb);replace BK998:=A_ (blk_below (g:=gb998) (o:=.cells #[.int .i64 t993,.slice Ao24 t994.length co24] 26 (0,0)) (by (with_reducible repeat (first|refine blk_drewN ?_ _|refine blk_drew ?_|refine blk_alloc ?_ _));refine blk_far ?_ NB998_1016.out _;(with_reducible repeat (first|refine blk_drewN ?_ _|refine blk_drew ?_|refine blk_alloc ?_ _));refine blk_far ?_ NB998_1016.out _;(with_reducible repeat (first|refine blk_drewN ?_ _|refine blk_drew ?_|refine blk_alloc ?_ _));exact BK998.out) hb);replace BK1004:=A_ (blk_below (g:=gb1004) (o:=.cells #[.int .i64 t999,.slice Ao33 t1000.length co33] 26 (0,0)) (by (with_reducible repeat (first|refine blk_drewN ?_ _|refine blk_drew ?_|refine blk_alloc ?_ _));refine blk_far ?_ NB1004_1016.out _;(with_reducible repeat (first|refine blk_drewN ?_ _|refine blk_drew ?_|refine blk_alloc ?_ _));refine blk_far ?_ NB1004_1016.out _;(with_reducible repeat (first|refine blk_drewN ?_ _|refine blk_drew ?_|refine blk_alloc ?_ _));exact BK1004.out) hb);replace BK1010:=A_ (blk_below (g:=gb1010) (o:=.cells #[.int .i64 t1005,.slice Ao43 t1006.length co43] 26 (0,0)) (by (with_reducible repeat (first|refine blk_drewN ?_ _|refine blk_drew ?_|refine blk_alloc ?_ _));refine blk_far ?_ NB1010_1016.out _;(with_reducible repeat (first|refine blk_drewN ?_ _|refine blk_drew ?_|refine blk_alloc ?_ _));refine blk_far ?_ NB1010_1016.out _;(with_reducible repeat (first|refine blk_drewN ?_ _|refine blk_drew ?_|refine blk_alloc ?_ _));exact BK1010.out) hb);replace BK1016:=A_ (blk_below (g:=gb1016) (o:=.cells #[.int .i64 t1011,.slice Ao54 t1012.length co54] 26 (0,0)) (by (with_reducible repeat (first|refine blk_drewN ?_ _|refine blk_drew ?_|refine blk_alloc ?_ _));refine blk_put (cs:=#[.int .i64 t1011,.slice none 0 0]) ?_ 1 _ rfl;(with_reducible repeat (first|refine blk_drewN ?_ _|refine blk_drew ?_|refine blk_alloc ?_ _));refine blk_put (cs:=#[.int .i64 0,.slice none 0 0]) ?_ 0 _ rfl;(with_reducible repeat (first|refine blk_drewN ?_ _|refine blk_drew ?_|refine blk_alloc ?_ _));exact BK1016.out) hb);replace HB:=A_ (below_step bb_ hb);(try clear hb);(try clear hb2);(try clear hk);(try clear hi)))
      go_meet
      case rel=>exact ⟨_,(true),(by first|rfl|(simp;done)|(simp [*];done)),H',⟨by first|omega|exact Nat.le_refl _⟩,⟨by (with_reducible repeat (first|apply Kd.R_alloc|apply Kd.R_drewN|apply Kd.R_drew));exact Kd.R_mono HO986.out (fun _ hk=>⟨hk.1.1.1.1,⟨hk.1.1.1.2,⟨hk.1.1.2,⟨hk.1.2,hk.2⟩⟩⟩⟩)⟩,⟨by (with_reducible repeat (first|apply Kd.R_alloc|apply Kd.R_drewN|apply Kd.R_drew));exact Kd.R_mono HO990.out (fun _ hk=>⟨hk.1.1.1.1,⟨hk.1.1.1.2,⟨hk.1.1.2,⟨hk.1.2,hk.2⟩⟩⟩⟩)⟩,⟨by (with_reducible repeat (first|apply Kd.R_alloc|apply Kd.R_drewN|apply Kd.R_drew));exact Kd.R_mono HO996.out (fun _ hk=>⟨hk.1.1.1.1.2,⟨hk.1.1.1.2,⟨hk.1.1.2,⟨hk.1.2,hk.2⟩⟩⟩⟩)⟩,⟨by (with_reducible repeat (first|apply Kd.R_alloc|apply Kd.R_drewN|apply Kd.R_drew));exact Kd.R_mono HO1002.out (fun _ hk=>⟨hk.1.1.1.1.2,⟨hk.1.1.1.2,⟨hk.1.1.2,⟨hk.1.2,hk.2⟩⟩⟩⟩)⟩,⟨by (with_reducible repeat (first|apply Kd.R_alloc|apply Kd.R_drewN|apply Kd.R_drew));exact Kd.R_mono HO1008.out (fun _ hk=>⟨hk.1.1.1.1.2,⟨hk.1.1.1.2,⟨hk.1.1.2,⟨hk.1.2,hk.2⟩⟩⟩⟩)⟩,⟨by (with_reducible repeat (first|apply Kd.R_alloc|apply Kd.R_drewN|apply Kd.R_drew));exact Kd.R_mono HO1014.out (fun _ hk=>⟨hk.1.1.1.1.2,⟨hk.1.1.1.2,⟨hk.1.1.2,⟨hk.1.2,hk.2⟩⟩⟩⟩)⟩,⟨bl_ BK991⟩,⟨bl_ BK992⟩,⟨bl_ BK998⟩,⟨bl_ BK1004⟩,⟨bl_ BK1010⟩,⟨bl_ BK1016⟩,⟨bb_⟩⟩
     ·rw [if_neg c58] at H;have c58b0 : (t1009 != t1015) = false:=by simpa using c58
      (try (have c58b1 : decide (t1009 = t1015) = true:=by simpa using c58));(try (have c58b2 : (t1009 == t1015) = true:=by simpa using c58));clear c58;replace H:=Option.bind_eq_some_iff.mp H;obtain ⟨t1018,A710,H⟩:=H;replace H : (if t1018 = true then (laws_FnExtensions.j0 k t997 (t997 != t1009) t983 t984 t987 t988 t993 t994 t1005 t1006) else (laws_FnExtensions.j0 k t997 true t983 t984 t987 t988 t993 t994 t1005 t1006)) = some r:=H;have A71:=A_ A710;clear A710;by_cases c72 : t1018 = true
      ·subst c72;have H1 : (laws_FnExtensions.j0 k t997 (t997 != t1009) t983 t984 t987 t988 t993 t994 t1005 t1006) = some r:=by rw [if_pos rfl] at H;exact H
       clear H;have H:=H1;clear H1;have H':=A_ H;clear H;have hnb73:=NB998_991.out;have hnc73:=NB991_998.out;have hnb74:=NB998_992.out;have hnc74:=NB992_998.out;have hnb75:=NB998_1004.out;have hnc75:=NB1004_998.out;have hnb76:=NB998_1010.out;have hnc76:=NB1010_998.out;have hnb77:=NB998_1016.out;have hnc77:=NB1016_998.out;have hcz78_0 : w47.cell? ⟨gb998,0,none⟩ = some (.int .i64 t993):=blk_cell BK998.out 0;have hcz78_1 : w47.cell? ⟨gb998,1,none⟩ = some (.slice Ao24 t994.length co24):=blk_cell BK998.out 1;have hfz78_0:=blk_frozen BK998.out 0;have hfz78_1:=blk_frozen BK998.out 1;have hnb79:=NB1004_991.out;have hnc79:=NB991_1004.out;have hnb80:=NB1004_992.out;have hnc80:=NB992_1004.out;have hnb81:=NB1004_1010.out;have hnc81:=NB1010_1004.out;have hnb82:=NB1004_1016.out;have hnc82:=NB1016_1004.out;have hcz83_0 : w47.cell? ⟨gb1004,0,none⟩ = some (.int .i64 t999):=blk_cell BK1004.out 0;have hcz83_1 : w47.cell? ⟨gb1004,1,none⟩ = some (.slice Ao33 t1000.length co33):=blk_cell BK1004.out 1;have hfz83_0:=blk_frozen BK1004.out 0;have hfz83_1:=blk_frozen BK1004.out 1;go_wp2_with (first|(go_at_call 31;(with_reducible refine (laws_pSameOrder.calls k t993 _ _ t994 t999 _ _ t1000 true _ ?side1 ?side2 ?side3 ?side4 A56.out).mono ?_);(case side1=>refine (Kd.R_reads' (e:=3) (base:=w.heap.size) (ok:=fun k_=>(((((True ∧ some k_ ≠ (.slice Ao16 t984.length co16 : Value).ownBlock) ∧ some k_ ≠ (.slice Ao18 t988.length co18 : Value).ownBlock) ∧ some k_ ≠ (.slice Ao33 t1000.length co33 : Value).ownBlock) ∧ some k_ ≠ (.slice Ao43 t1006.length co43 : Value).ownBlock) ∧ some k_ ≠ (.slice Ao54 t1012.length co54 : Value).ownBlock)) (n:=t994.length) (c:=co24) ?_).2.2;exact (by (with_reducible repeat (first|apply Kd.R_alloc|apply Kd.R_drewN|apply Kd.R_drew));exact (Kd.R_mono (Kd.R_far (p:=⟨gb1016,1,none⟩) (Kd.R_far (p:=⟨gb1016,0,none⟩) (Kd.R_types HO996.out BK1016.out (by decide)) (fun _ hk=>hk.2) (.int .i64 t1011)) (fun _ hk=>hk.2) (.slice Ao54 t1012.length co54)) (fun _ h_=>h_.1))));(case side2=>exact (Kd.R_reads' HO996.out).2.1);(case side3=>refine (Kd.R_reads' (e:=3) (base:=w.heap.size) (ok:=fun k_=>(((((True ∧ some k_ ≠ (.slice Ao16 t984.length co16 : Value).ownBlock) ∧ some k_ ≠ (.slice Ao18 t988.length co18 : Value).ownBlock) ∧ some k_ ≠ (.slice Ao24 t994.length co24 : Value).ownBlock) ∧ some k_ ≠ (.slice Ao43 t1006.length co43 : Value).ownBlock) ∧ some k_ ≠ (.slice Ao54 t1012.length co54 : Value).ownBlock)) (n:=t1000.length) (c:=co33) ?_).2.2;exact (by (with_reducible repeat (first|apply Kd.R_alloc|apply Kd.R_drewN|apply Kd.R_drew));exact (Kd.R_mono (Kd.R_far (p:=⟨gb1016,1,none⟩) (Kd.R_far (p:=⟨gb1016,0,none⟩) (Kd.R_types HO1002.out BK1016.out (by decide)) (fun _ hk=>hk.2) (.int .i64 t1011)) (fun _ hk=>hk.2) (.slice Ao54 t1012.length co54)) (fun _ h_=>h_.1))));(case side4=>exact (Kd.R_reads' HO1002.out).2.1);rintro e w84 ⟨rfl,hb⟩;replace HO986:=A_ (Kd.R_below (by (with_reducible repeat (first|apply Kd.R_alloc|apply Kd.R_drewN|apply Kd.R_drew));exact (Kd.R_mono (Kd.R_far (p:=⟨gb1016,1,none⟩) (Kd.R_far (p:=⟨gb1016,0,none⟩) (Kd.R_types HO986.out BK1016.out (by decide)) (fun _ hk=>hk.2) (.int .i64 t1011)) (fun _ hk=>hk.2) (.slice Ao54 t1012.length co54)) (fun _ h_=>h_.1))) hb);replace HO990:=A_ (Kd.R_below (by (with_reducible repeat (first|apply Kd.R_alloc|apply Kd.R_drewN|apply Kd.R_drew));exact (Kd.R_mono (Kd.R_far (p:=⟨gb1016,1,none⟩) (Kd.R_far (p:=⟨gb1016,0,none⟩) (Kd.R_types HO990.out BK1016.out (by decide)) (fun _ hk=>hk.2) (.int .i64 t1011)) (fun _ hk=>hk.2) (.slice Ao54 t1012.length co54)) (fun _ h_=>h_.1))) hb);replace HO996:=A_ (Kd.R_below (by (with_reducible repeat (first|apply Kd.R_alloc|apply Kd.R_drewN|apply Kd.R_drew));exact (Kd.R_mono (Kd.R_far (p:=⟨gb1016,1,none⟩) (Kd.R_far (p:=⟨gb1016,0,none⟩) (Kd.R_types HO996.out BK1016.out (by decide)) (fun _ hk=>hk.2) (.int .i64 t1011)) (fun _ hk=>hk.2) (.slice Ao54 t1012.length co54)) (fun _ h_=>h_.1))) hb);replace HO1002:=A_ (Kd.R_below (by (with_reducible repeat (first|apply Kd.R_alloc|apply Kd.R_drewN|apply Kd.R_drew));exact (Kd.R_mono (Kd.R_far (p:=⟨gb1016,1,none⟩) (Kd.R_far (p:=⟨gb1016,0,none⟩) (Kd.R_types HO1002.out BK1016.out (by decide)) (fun _ hk=>hk.2) (.int .i64 t1011)) (fun _ hk=>hk.2) (.slice Ao54 t1012.length co54)) (fun _ h_=>h_.1))) hb);replace HO1008:=A_ (Kd.R_below (by (with_reducible repeat (first|apply Kd.R_alloc|apply Kd.R_drewN|apply Kd.R_drew));exact (Kd.R_mono (Kd.R_far (p:=⟨gb1016,1,none⟩) (Kd.R_far (p:=⟨gb1016,0,none⟩) (Kd.R_types HO1008.out BK1016.out (by decide)) (fun _ hk=>hk.2) (.int .i64 t1011)) (fun _ hk=>hk.2) (.slice Ao54 t1012.length co54)) (fun _ h_=>h_.1))) hb);replace HO1014:=A_ (Kd.R_below (by (with_reducible repeat (first|apply Kd.R_alloc|apply Kd.R_drewN|apply Kd.R_drew));exact (Kd.R_mono (Kd.R_far (p:=⟨gb1016,1,none⟩) (Kd.R_far (p:=⟨gb1016,0,none⟩) (Kd.R_types HO1014.out BK1016.out (by decide)) (fun _ hk=>hk.2) (.int .i64 t1011)) (fun _ hk=>hk.2) (.slice Ao54 t1012.length co54)) (fun _ h_=>h_.1))) hb);replace BK991:=A_ (blk_below (g:=gb991) (o:=.cells #[.int .i64 t983,.slice Ao16 t984.length co16] 26 (0,0)) (by (with_reducible repeat (first|refine blk_drewN ?_ _|refine blk_drew ?_|refine blk_alloc ?_ _));refine blk_far ?_ NB991_1016.out _;(with_reducible repeat (first|refine blk_drewN ?_ _|refine blk_drew ?_|refine blk_alloc ?_ _));refine blk_far ?_ NB991_1016.out _;(with_reducible repeat (first|refine blk_drewN ?_ _|refine blk_drew ?_|refine blk_alloc ?_ _));exact BK991.out) hb);replace BK992:=A_ (blk_below (g:=gb992) (o:=.cells #[.int .i64 t987,.slice Ao18 t988.length co18] 26 (0,0)) (by (with_reducible repeat (first|refine blk_drewN ?_ _|refine blk_drew ?_|refine blk_alloc ?_ _));refine blk_far ?_ NB992_1016.out _;(with_reducible repeat (first|refine blk_drewN ?_ _|refine blk_drew ?_|refine blk_alloc ?_ _));refine blk_far ?_ NB992_1016.out _;(with_reducible repeat (first|refine blk_drewN ?_ _|refine blk_drew ?_|refine blk_alloc ?_ _));exact BK992.out) hb);replace BK998:=A_ (blk_below (g:=gb998) (o:=.cells #[.int .i64 t993,.slice Ao24 t994.length co24] 26 (0,0)) (by (with_reducible repeat (first|refine blk_drewN ?_ _|refine blk_drew ?_|refine blk_alloc ?_ _));refine blk_far ?_ NB998_1016.out _;(with_reducible repeat (first|refine blk_drewN ?_ _|refine blk_drew ?_|refine blk_alloc ?_ _));refine blk_far ?_ NB998_1016.out _;(with_reducible repeat (first|refine blk_drewN ?_ _|refine blk_drew ?_|refine blk_alloc ?_ _));exact BK998.out) hb);replace BK1004:=A_ (blk_below (g:=gb1004) (o:=.cells #[.int .i64 t999,.slice Ao33 t1000.length co33] 26 (0,0)) (by (with_reducible repeat (first|refine blk_drewN ?_ _|refine blk_drew ?_|refine blk_alloc ?_ _));refine blk_far ?_ NB1004_1016.out _;(with_reducible repeat (first|refine blk_drewN ?_ _|refine blk_drew ?_|refine blk_alloc ?_ _));refine blk_far ?_ NB1004_1016.out _;(with_reducible repeat (first|refine blk_drewN ?_ _|refine blk_drew ?_|refine blk_alloc ?_ _));exact BK1004.out) hb);replace BK1010:=A_ (blk_below (g:=gb1010) (o:=.cells #[.int .i64 t1005,.slice Ao43 t1006.length co43] 26 (0,0)) (by (with_reducible repeat (first|refine blk_drewN ?_ _|refine blk_drew ?_|refine blk_alloc ?_ _));refine blk_far ?_ NB1010_1016.out _;(with_reducible repeat (first|refine blk_drewN ?_ _|refine blk_drew ?_|refine blk_alloc ?_ _));refine blk_far ?_ NB1010_1016.out _;(with_reducible repeat (first|refine blk_drewN ?_ _|refine blk_drew ?_|refine blk_alloc ?_ _));exact BK1010.out) hb);replace BK1016:=A_ (blk_below (g:=gb1016) (o:=.cells #[.int .i64 t1011,.slice Ao54 t1012.length co54] 26 (0,0)) (by (with_reducible repeat (first|refine blk_drewN ?_ _|refine blk_drew ?_|refine blk_alloc ?_ _));refine blk_put (cs:=#[.int .i64 t1011,.slice none 0 0]) ?_ 1 _ rfl;(with_reducible repeat (first|refine blk_drewN ?_ _|refine blk_drew ?_|refine blk_alloc ?_ _));refine blk_put (cs:=#[.int .i64 0,.slice none 0 0]) ?_ 0 _ rfl;(with_reducible repeat (first|refine blk_drewN ?_ _|refine blk_drew ?_|refine blk_alloc ?_ _));exact BK1016.out) hb);replace HB:=A_ (below_step bb_ hb);(try clear hb);(try clear hb2);(try clear hk);(try clear hi);have hnb85:=NB1010_991.out;have hnc85:=NB991_1010.out;have hnb86:=NB1010_992.out;have hnc86:=NB992_1010.out;have hnb87:=NB1010_1016.out;have hnc87:=NB1016_1010.out;have hcz88_0 : w84.cell? ⟨gb1010,0,none⟩ = some (.int .i64 t1005):=blk_cell BK1010.out 0;have hcz88_1 : w84.cell? ⟨gb1010,1,none⟩ = some (.slice Ao43 t1006.length co43):=blk_cell BK1010.out 1;have hfz88_0:=blk_frozen BK1010.out 0;have hfz88_1:=blk_frozen BK1010.out 1;have hnb89:=NB1016_991.out;have hnc89:=NB991_1016.out;have hnb90:=NB1016_992.out;have hnc90:=NB992_1016.out;have hcz91_0 : w84.cell? ⟨gb1016,0,none⟩ = some (.int .i64 t1011):=blk_cell BK1016.out 0;have hcz91_1 : w84.cell? ⟨gb1016,1,none⟩ = some (.slice Ao54 t1012.length co54):=blk_cell BK1016.out 1;have hfz91_0:=blk_frozen BK1016.out 0;have hfz91_1:=blk_frozen BK1016.out 1)|(go_at_call 31;(with_reducible refine (laws_pSameOrder.calls k t1005 _ _ t1006 t1011 _ _ t1012 true _ ?side1 ?side2 ?side3 ?side4 A71.out).mono ?_);(case side1=>exact cl_ (Kd.R_reads' HO1008.out).2.2);(case side2=>exact (Kd.R_reads' HO1008.out).2.1);(case side3=>exact cl_ (Kd.R_reads' HO1014.out).2.2);(case side4=>exact (Kd.R_reads' HO1014.out).2.1);rintro e w92 ⟨rfl,hb⟩;replace HO986:=rb_ HO986 hb;replace HO990:=rb_ HO990 hb;replace HO996:=rb_ HO996 hb;replace HO1002:=rb_ HO1002 hb;replace HO1008:=rb_ HO1008 hb;replace HO1014:=rb_ HO1014 hb;replace BK991:=bz BK991 hb;replace BK992:=bz BK992 hb;replace BK998:=bz BK998 hb;replace BK1004:=bz BK1004 hb;replace BK1010:=bz BK1010 hb;replace BK1016:=bz BK1016 hb;replace HB:=A_ (below_step bb_ hb);(try clear hb);(try clear hb2);(try clear hk);(try clear hi)))
       go_meet
       case rel=>exact ⟨_,((t997 != t1009)),(by first|rfl|(simp;done)|(simp [*];done)),H',⟨by first|omega|exact Nat.le_refl _⟩,⟨by (with_reducible repeat (first|apply Kd.R_alloc|apply Kd.R_drewN|apply Kd.R_drew));exact Kd.R_mono HO986.out (fun _ hk=>⟨hk.1.1.1.1,⟨hk.1.1.1.2,⟨hk.1.1.2,⟨hk.1.2,hk.2⟩⟩⟩⟩)⟩,⟨by (with_reducible repeat (first|apply Kd.R_alloc|apply Kd.R_drewN|apply Kd.R_drew));exact Kd.R_mono HO990.out (fun _ hk=>⟨hk.1.1.1.1,⟨hk.1.1.1.2,⟨hk.1.1.2,⟨hk.1.2,hk.2⟩⟩⟩⟩)⟩,⟨by (with_reducible repeat (first|apply Kd.R_alloc|apply Kd.R_drewN|apply Kd.R_drew));exact Kd.R_mono HO996.out (fun _ hk=>⟨hk.1.1.1.1.2,⟨hk.1.1.1.2,⟨hk.1.1.2,⟨hk.1.2,hk.2⟩⟩⟩⟩)⟩,⟨by (with_reducible repeat (first|apply Kd.R_alloc|apply Kd.R_drewN|apply Kd.R_drew));exact Kd.R_mono HO1002.out (fun _ hk=>⟨hk.1.1.1.1.2,⟨hk.1.1.1.2,⟨hk.1.1.2,⟨hk.1.2,hk.2⟩⟩⟩⟩)⟩,⟨by (with_reducible repeat (first|apply Kd.R_alloc|apply Kd.R_drewN|apply Kd.R_drew));exact Kd.R_mono HO1008.out (fun _ hk=>⟨hk.1.1.1.1.2,⟨hk.1.1.1.2,⟨hk.1.1.2,⟨hk.1.2,hk.2⟩⟩⟩⟩)⟩,⟨by (with_reducible repeat (first|apply Kd.R_alloc|apply Kd.R_drewN|apply Kd.R_drew));exact Kd.R_mono HO1014.out (fun _ hk=>⟨hk.1.1.1.1.2,⟨hk.1.1.1.2,⟨hk.1.1.2,⟨hk.1.2,hk.2⟩⟩⟩⟩)⟩,⟨bl_ BK991⟩,⟨bl_ BK992⟩,⟨bl_ BK998⟩,⟨bl_ BK1004⟩,⟨bl_ BK1010⟩,⟨bl_ BK1016⟩,⟨bb_⟩⟩
      ·replace c72:=Bool.eq_false_iff.mpr c72;subst c72;have H1 : (laws_FnExtensions.j0 k t997 true t983 t984 t987 t988 t993 t994 t1005 t1006) = some r:=by rw [if_neg (show ¬ (false = true) by decide)] at H;exact H
       clear H;have H:=H1;clear H1;have H':=A_ H;clear H;have hnb93:=NB998_991.out;have hnc93:=NB991_998.out;have hnb94:=NB998_992.out;have hnc94:=NB992_998.out;have hnb95:=NB998_1004.out;have hnc95:=NB1004_998.out;have hnb96:=NB998_1010.out;have hnc96:=NB1010_998.out;have hnb97:=NB998_1016.out;have hnc97:=NB1016_998.out;have hcz98_0 : w47.cell? ⟨gb998,0,none⟩ = some (.int .i64 t993):=blk_cell BK998.out 0;have hcz98_1 : w47.cell? ⟨gb998,1,none⟩ = some (.slice Ao24 t994.length co24):=blk_cell BK998.out 1;have hfz98_0:=blk_frozen BK998.out 0;have hfz98_1:=blk_frozen BK998.out 1;have hnb99:=NB1004_991.out;have hnc99:=NB991_1004.out;have hnb100:=NB1004_992.out;have hnc100:=NB992_1004.out;have hnb101:=NB1004_1010.out;have hnc101:=NB1010_1004.out;have hnb102:=NB1004_1016.out;have hnc102:=NB1016_1004.out;have hcz103_0 : w47.cell? ⟨gb1004,0,none⟩ = some (.int .i64 t999):=blk_cell BK1004.out 0;have hcz103_1 : w47.cell? ⟨gb1004,1,none⟩ = some (.slice Ao33 t1000.length co33):=blk_cell BK1004.out 1;have hfz103_0:=blk_frozen BK1004.out 0;have hfz103_1:=blk_frozen BK1004.out 1;go_wp2_with (first|(go_at_call 31;(with_reducible refine (laws_pSameOrder.calls k t993 _ _ t994 t999 _ _ t1000 true _ ?side1 ?side2 ?side3 ?side4 A56.out).mono ?_);(case side1=>refine (Kd.R_reads' (e:=3) (base:=w.heap.size) (ok:=fun k_=>(((((True ∧ some k_ ≠ (.slice Ao16 t984.length co16 : Value).ownBlock) ∧ some k_ ≠ (.slice Ao18 t988.length co18 : Value).ownBlock) ∧ some k_ ≠ (.slice Ao33 t1000.length co33 : Value).ownBlock) ∧ some k_ ≠ (.slice Ao43 t1006.length co43 : Value).ownBlock) ∧ some k_ ≠ (.slice Ao54 t1012.length co54 : Value).ownBlock)) (n:=t994.length) (c:=co24) ?_).2.2;exact (by (with_reducible repeat (first|apply Kd.R_alloc|apply Kd.R_drewN|apply Kd.R_drew));exact (Kd.R_mono (Kd.R_far (p:=⟨gb1016,1,none⟩) (Kd.R_far (p:=⟨gb1016,0,none⟩) (Kd.R_types HO996.out BK1016.out (by decide)) (fun _ hk=>hk.2) (.int .i64 t1011)) (fun _ hk=>hk.2) (.slice Ao54 t1012.length co54)) (fun _ h_=>h_.1))));(case side2=>exact (Kd.R_reads' HO996.out).2.1);(case side3=>refine (Kd.R_reads' (e:=3) (base:=w.heap.size) (ok:=fun k_=>(((((True ∧ some k_ ≠ (.slice Ao16 t984.length co16 : Value).ownBlock) ∧ some k_ ≠ (.slice Ao18 t988.length co18 : Value).ownBlock) ∧ some k_ ≠ (.slice Ao24 t994.length co24 : Value).ownBlock) ∧ some k_ ≠ (.slice Ao43 t1006.length co43 : Value).ownBlock) ∧ some k_ ≠ (.slice Ao54 t1012.length co54 : Value).ownBlock)) (n:=t1000.length) (c:=co33) ?_).2.2;exact (by (with_reducible repeat (first|apply Kd.R_alloc|apply Kd.R_drewN|apply Kd.R_drew));exact (Kd.R_mono (Kd.R_far (p:=⟨gb1016,1,none⟩) (Kd.R_far (p:=⟨gb1016,0,none⟩) (Kd.R_types HO1002.out BK1016.out (by decide)) (fun _ hk=>hk.2) (.int .i64 t1011)) (fun _ hk=>hk.2) (.slice Ao54 t1012.length co54)) (fun _ h_=>h_.1))));(case side4=>exact (Kd.R_reads' HO1002.out).2.1);rintro e w104 ⟨rfl,hb⟩;replace HO986:=A_ (Kd.R_below (by (with_reducible repeat (first|apply Kd.R_alloc|apply Kd.R_drewN|apply Kd.R_drew));exact (Kd.R_mono (Kd.R_far (p:=⟨gb1016,1,none⟩) (Kd.R_far (p:=⟨gb1016,0,none⟩) (Kd.R_types HO986.out BK1016.out (by decide)) (fun _ hk=>hk.2) (.int .i64 t1011)) (fun _ hk=>hk.2) (.slice Ao54 t1012.length co54)) (fun _ h_=>h_.1))) hb);replace HO990:=A_ (Kd.R_below (by (with_reducible repeat (first|apply Kd.R_alloc|apply Kd.R_drewN|apply Kd.R_drew));exact (Kd.R_mono (Kd.R_far (p:=⟨gb1016,1,none⟩) (Kd.R_far (p:=⟨gb1016,0,none⟩) (Kd.R_types HO990.out BK1016.out (by decide)) (fun _ hk=>hk.2) (.int .i64 t1011)) (fun _ hk=>hk.2) (.slice Ao54 t1012.length co54)) (fun _ h_=>h_.1))) hb);replace HO996:=A_ (Kd.R_below (by (with_reducible repeat (first|apply Kd.R_alloc|apply Kd.R_drewN|apply Kd.R_drew));exact (Kd.R_mono (Kd.R_far (p:=⟨gb1016,1,none⟩) (Kd.R_far (p:=⟨gb1016,0,none⟩) (Kd.R_types HO996.out BK1016.out (by decide)) (fun _ hk=>hk.2) (.int .i64 t1011)) (fun _ hk=>hk.2) (.slice Ao54 t1012.length co54)) (fun _ h_=>h_.1))) hb);replace HO1002:=A_ (Kd.R_below (by (with_reducible repeat (first|apply Kd.R_alloc|apply Kd.R_drewN|apply Kd.R_drew));exact (Kd.R_mono (Kd.R_far (p:=⟨gb1016,1,none⟩) (Kd.R_far (p:=⟨gb1016,0,none⟩) (Kd.R_types HO1002.out BK1016.out (by decide)) (fun _ hk=>hk.2) (.int .i64 t1011)) (fun _ hk=>hk.2) (.slice Ao54 t1012.length co54)) (fun _ h_=>h_.1))) hb);replace HO1008:=A_ (Kd.R_below (by (with_reducible repeat (first|apply Kd.R_alloc|apply Kd.R_drewN|apply Kd.R_drew));exact (Kd.R_mono (Kd.R_far (p:=⟨gb1016,1,none⟩) (Kd.R_far (p:=⟨gb1016,0,none⟩) (Kd.R_types HO1008.out BK1016.out (by decide)) (fun _ hk=>hk.2) (.int .i64 t1011)) (fun _ hk=>hk.2) (.slice Ao54 t1012.length co54)) (fun _ h_=>h_.1))) hb);replace HO1014:=A_ (Kd.R_below (by (with_reducible repeat (first|apply Kd.R_alloc|apply Kd.R_drewN|apply Kd.R_drew));exact (Kd.R_mono (Kd.R_far (p:=⟨gb1016,1,none⟩) (Kd.R_far (p:=⟨gb1016,0,none⟩) (Kd.R_types HO1014.out BK1016.out (by decide)) (fun _ hk=>hk.2) (.int .i64 t1011)) (fun _ hk=>hk.2) (.slice Ao54 t1012.length co54)) (fun _ h_=>h_.1))) hb);replace BK991:=A_ (blk_below (g:=gb991) (o:=.cells #[.int .i64 t983,.slice Ao16 t984.length co16] 26 (0,0)) (by (with_reducible repeat (first|refine blk_drewN ?_ _|refine blk_drew ?_|refine blk_alloc ?_ _));refine blk_far ?_ NB991_1016.out _;(with_reducible repeat (first|refine blk_drewN ?_ _|refine blk_drew ?_|refine blk_alloc ?_ _));refine blk_far ?_ NB991_1016.out _;(with_reducible repeat (first|refine blk_drewN ?_ _|refine blk_drew ?_|refine blk_alloc ?_ _));exact BK991.out) hb);replace BK992:=A_ (blk_below (g:=gb992) (o:=.cells #[.int .i64 t987,.slice Ao18 t988.length co18] 26 (0,0)) (by (with_reducible repeat (first|refine blk_drewN ?_ _|refine blk_drew ?_|refine blk_alloc ?_ _));refine blk_far ?_ NB992_1016.out _;(with_reducible repeat (first|refine blk_drewN ?_ _|refine blk_drew ?_|refine blk_alloc ?_ _));refine blk_far ?_ NB992_1016.out _;(with_reducible repeat (first|refine blk_drewN ?_ _|refine blk_drew ?_|refine blk_alloc ?_ _));exact BK992.out) hb);replace BK998:=A_ (blk_below (g:=gb998) (o:=.cells #[.int .i64 t993,.slice Ao24 t994.length co24] 26 (0,0)) (by (with_reducible repeat (first|refine blk_drewN ?_ _|refine blk_drew ?_|refine blk_alloc ?_ _));refine blk_far ?_ NB998_1016.out _;(with_reducible repeat (first|refine blk_drewN ?_ _|refine blk_drew ?_|refine blk_alloc ?_ _));refine blk_far ?_ NB998_1016.out _;(with_reducible repeat (first|refine blk_drewN ?_ _|refine blk_drew ?_|refine blk_alloc ?_ _));exact BK998.out) hb);replace BK1004:=A_ (blk_below (g:=gb1004) (o:=.cells #[.int .i64 t999,.slice Ao33 t1000.length co33] 26 (0,0)) (by (with_reducible repeat (first|refine blk_drewN ?_ _|refine blk_drew ?_|refine blk_alloc ?_ _));refine blk_far ?_ NB1004_1016.out _;(with_reducible repeat (first|refine blk_drewN ?_ _|refine blk_drew ?_|refine blk_alloc ?_ _));refine blk_far ?_ NB1004_1016.out _;(with_reducible repeat (first|refine blk_drewN ?_ _|refine blk_drew ?_|refine blk_alloc ?_ _));exact BK1004.out) hb);replace BK1010:=A_ (blk_below (g:=gb1010) (o:=.cells #[.int .i64 t1005,.slice Ao43 t1006.length co43] 26 (0,0)) (by (with_reducible repeat (first|refine blk_drewN ?_ _|refine blk_drew ?_|refine blk_alloc ?_ _));refine blk_far ?_ NB1010_1016.out _;(with_reducible repeat (first|refine blk_drewN ?_ _|refine blk_drew ?_|refine blk_alloc ?_ _));refine blk_far ?_ NB1010_1016.out _;(with_reducible repeat (first|refine blk_drewN ?_ _|refine blk_drew ?_|refine blk_alloc ?_ _));exact BK1010.out) hb);replace BK1016:=A_ (blk_below (g:=gb1016) (o:=.cells #[.int .i64 t1011,.slice Ao54 t1012.length co54] 26 (0,0)) (by (with_reducible repeat (first|refine blk_drewN ?_ _|refine blk_drew ?_|refine blk_alloc ?_ _));refine blk_put (cs:=#[.int .i64 t1011,.slice none 0 0]) ?_ 1 _ rfl;(with_reducible repeat (first|refine blk_drewN ?_ _|refine blk_drew ?_|refine blk_alloc ?_ _));refine blk_put (cs:=#[.int .i64 0,.slice none 0 0]) ?_ 0 _ rfl;(with_reducible repeat (first|refine blk_drewN ?_ _|refine blk_drew ?_|refine blk_alloc ?_ _));exact BK1016.out) hb);replace HB:=A_ (below_step bb_ hb);(try clear hb);(try clear hb2);(try clear hk);(try clear hi);have hnb105:=NB1010_991.out;have hnc105:=NB991_1010.out;have hnb106:=NB1010_992.out;have hnc106:=NB992_1010.out;have hnb107:=NB1010_1016.out;have hnc107:=NB1016_1010.out;have hcz108_0 : w104.cell? ⟨gb1010,0,none⟩ = some (.int .i64 t1005):=blk_cell BK1010.out 0;have hcz108_1 : w104.cell? ⟨gb1010,1,none⟩ = some (.slice Ao43 t1006.length co43):=blk_cell BK1010.out 1;have hfz108_0:=blk_frozen BK1010.out 0;have hfz108_1:=blk_frozen BK1010.out 1;have hnb109:=NB1016_991.out;have hnc109:=NB991_1016.out;have hnb110:=NB1016_992.out;have hnc110:=NB992_1016.out;have hcz111_0 : w104.cell? ⟨gb1016,0,none⟩ = some (.int .i64 t1011):=blk_cell BK1016.out 0;have hcz111_1 : w104.cell? ⟨gb1016,1,none⟩ = some (.slice Ao54 t1012.length co54):=blk_cell BK1016.out 1;have hfz111_0:=blk_frozen BK1016.out 0;have hfz111_1:=blk_frozen BK1016.out 1)|(go_at_call 31;(with_reducible refine (laws_pSameOrder.calls k t1005 _ _ t1006 t1011 _ _ t1012 false _ ?side1 ?side2 ?side3 ?side4 A71.out).mono ?_);(case side1=>exact cl_ (Kd.R_reads' HO1008.out).2.2);(case side2=>exact (Kd.R_reads' HO1008.out).2.1);(case side3=>exact cl_ (Kd.R_reads' HO1014.out).2.2);(case side4=>exact (Kd.R_reads' HO1014.out).2.1);rintro e w112 ⟨rfl,hb⟩;replace HO986:=rb_ HO986 hb;replace HO990:=rb_ HO990 hb;replace HO996:=rb_ HO996 hb;replace HO1002:=rb_ HO1002 hb;replace HO1008:=rb_ HO1008 hb;replace HO1014:=rb_ HO1014 hb;replace BK991:=bz BK991 hb;replace BK992:=bz BK992 hb;replace BK998:=bz BK998 hb;replace BK1004:=bz BK1004 hb;replace BK1010:=bz BK1010 hb;replace BK1016:=bz BK1016 hb;replace HB:=A_ (below_step bb_ hb);(try clear hb);(try clear hb2);(try clear hk);(try clear hi)))
       go_meet
       case rel=>exact ⟨_,(true),(by first|rfl|(simp;done)|(simp [*];done)),H',⟨by first|omega|exact Nat.le_refl _⟩,⟨by (with_reducible repeat (first|apply Kd.R_alloc|apply Kd.R_drewN|apply Kd.R_drew));exact Kd.R_mono HO986.out (fun _ hk=>⟨hk.1.1.1.1,⟨hk.1.1.1.2,⟨hk.1.1.2,⟨hk.1.2,hk.2⟩⟩⟩⟩)⟩,⟨by (with_reducible repeat (first|apply Kd.R_alloc|apply Kd.R_drewN|apply Kd.R_drew));exact Kd.R_mono HO990.out (fun _ hk=>⟨hk.1.1.1.1,⟨hk.1.1.1.2,⟨hk.1.1.2,⟨hk.1.2,hk.2⟩⟩⟩⟩)⟩,⟨by (with_reducible repeat (first|apply Kd.R_alloc|apply Kd.R_drewN|apply Kd.R_drew));exact Kd.R_mono HO996.out (fun _ hk=>⟨hk.1.1.1.1.2,⟨hk.1.1.1.2,⟨hk.1.1.2,⟨hk.1.2,hk.2⟩⟩⟩⟩)⟩,⟨by (with_reducible repeat (first|apply Kd.R_alloc|apply Kd.R_drewN|apply Kd.R_drew));exact Kd.R_mono HO1002.out (fun _ hk=>⟨hk.1.1.1.1.2,⟨hk.1.1.1.2,⟨hk.1.1.2,⟨hk.1.2,hk.2⟩⟩⟩⟩)⟩,⟨by (with_reducible repeat (first|apply Kd.R_alloc|apply Kd.R_drewN|apply Kd.R_drew));exact Kd.R_mono HO1008.out (fun _ hk=>⟨hk.1.1.1.1.2,⟨hk.1.1.1.2,⟨hk.1.1.2,⟨hk.1.2,hk.2⟩⟩⟩⟩)⟩,⟨by (with_reducible repeat (first|apply Kd.R_alloc|apply Kd.R_drewN|apply Kd.R_drew));exact Kd.R_mono HO1014.out (fun _ hk=>⟨hk.1.1.1.1.2,⟨hk.1.1.1.2,⟨hk.1.1.2,⟨hk.1.2,hk.2⟩⟩⟩⟩)⟩,⟨bl_ BK991⟩,⟨bl_ BK992⟩,⟨bl_ BK998⟩,⟨bl_ BK1004⟩,⟨bl_ BK1010⟩,⟨bl_ BK1016⟩,⟨bb_⟩⟩
    ·replace c57:=Bool.eq_false_iff.mpr c57;subst c57;have H1 : (laws_FnExtensions.j0 k t997 true t983 t984 t987 t988 t993 t994 t1005 t1006) = some r:=by rw [if_neg (show ¬ (false = true) by decide)] at H;exact H
     clear H;have H:=H1;clear H1;have H':=A_ H;clear H;have hnb113:=NB998_991.out;have hnc113:=NB991_998.out;have hnb114:=NB998_992.out;have hnc114:=NB992_998.out;have hnb115:=NB998_1004.out;have hnc115:=NB1004_998.out;have hnb116:=NB998_1010.out;have hnc116:=NB1010_998.out;have hnb117:=NB998_1016.out;have hnc117:=NB1016_998.out;have hcz118_0 : w47.cell? ⟨gb998,0,none⟩ = some (.int .i64 t993):=blk_cell BK998.out 0;have hcz118_1 : w47.cell? ⟨gb998,1,none⟩ = some (.slice Ao24 t994.length co24):=blk_cell BK998.out 1;have hfz118_0:=blk_frozen BK998.out 0;have hfz118_1:=blk_frozen BK998.out 1;have hnb119:=NB1004_991.out;have hnc119:=NB991_1004.out;have hnb120:=NB1004_992.out;have hnc120:=NB992_1004.out;have hnb121:=NB1004_1010.out;have hnc121:=NB1010_1004.out;have hnb122:=NB1004_1016.out;have hnc122:=NB1016_1004.out;have hcz123_0 : w47.cell? ⟨gb1004,0,none⟩ = some (.int .i64 t999):=blk_cell BK1004.out 0;have hcz123_1 : w47.cell? ⟨gb1004,1,none⟩ = some (.slice Ao33 t1000.length co33):=blk_cell BK1004.out 1;have hfz123_0:=blk_frozen BK1004.out 0;have hfz123_1:=blk_frozen BK1004.out 1;go_wp2_with (first|(go_at_call 31;(with_reducible refine (laws_pSameOrder.calls k t993 _ _ t994 t999 _ _ t1000 false _ ?side1 ?side2 ?side3 ?side4 A56.out).mono ?_);(case side1=>refine (Kd.R_reads' (e:=3) (base:=w.heap.size) (ok:=fun k_=>(((((True ∧ some k_ ≠ (.slice Ao16 t984.length co16 : Value).ownBlock) ∧ some k_ ≠ (.slice Ao18 t988.length co18 : Value).ownBlock) ∧ some k_ ≠ (.slice Ao33 t1000.length co33 : Value).ownBlock) ∧ some k_ ≠ (.slice Ao43 t1006.length co43 : Value).ownBlock) ∧ some k_ ≠ (.slice Ao54 t1012.length co54 : Value).ownBlock)) (n:=t994.length) (c:=co24) ?_).2.2;exact (by (with_reducible repeat (first|apply Kd.R_alloc|apply Kd.R_drewN|apply Kd.R_drew));exact (Kd.R_mono (Kd.R_far (p:=⟨gb1016,1,none⟩) (Kd.R_far (p:=⟨gb1016,0,none⟩) (Kd.R_types HO996.out BK1016.out (by decide)) (fun _ hk=>hk.2) (.int .i64 t1011)) (fun _ hk=>hk.2) (.slice Ao54 t1012.length co54)) (fun _ h_=>h_.1))));(case side2=>exact (Kd.R_reads' HO996.out).2.1);(case side3=>refine (Kd.R_reads' (e:=3) (base:=w.heap.size) (ok:=fun k_=>(((((True ∧ some k_ ≠ (.slice Ao16 t984.length co16 : Value).ownBlock) ∧ some k_ ≠ (.slice Ao18 t988.length co18 : Value).ownBlock) ∧ some k_ ≠ (.slice Ao24 t994.length co24 : Value).ownBlock) ∧ some k_ ≠ (.slice Ao43 t1006.length co43 : Value).ownBlock) ∧ some k_ ≠ (.slice Ao54 t1012.length co54 : Value).ownBlock)) (n:=t1000.length) (c:=co33) ?_).2.2;exact (by (with_reducible repeat (first|apply Kd.R_alloc|apply Kd.R_drewN|apply Kd.R_drew));exact (Kd.R_mono (Kd.R_far (p:=⟨gb1016,1,none⟩) (Kd.R_far (p:=⟨gb1016,0,none⟩) (Kd.R_types HO1002.out BK1016.out (by decide)) (fun _ hk=>hk.2) (.int .i64 t1011)) (fun _ hk=>hk.2) (.slice Ao54 t1012.length co54)) (fun _ h_=>h_.1))));(case side4=>exact (Kd.R_reads' HO1002.out).2.1);rintro e w124 ⟨rfl,hb⟩;replace HO986:=A_ (Kd.R_below (by (with_reducible repeat (first|apply Kd.R_alloc|apply Kd.R_drewN|apply Kd.R_drew));exact (Kd.R_mono (Kd.R_far (p:=⟨gb1016,1,none⟩) (Kd.R_far (p:=⟨gb1016,0,none⟩) (Kd.R_types HO986.out BK1016.out (by decide)) (fun _ hk=>hk.2) (.int .i64 t1011)) (fun _ hk=>hk.2) (.slice Ao54 t1012.length co54)) (fun _ h_=>h_.1))) hb);replace HO990:=A_ (Kd.R_below (by (with_reducible repeat (first|apply Kd.R_alloc|apply Kd.R_drewN|apply Kd.R_drew));exact (Kd.R_mono (Kd.R_far (p:=⟨gb1016,1,none⟩) (Kd.R_far (p:=⟨gb1016,0,none⟩) (Kd.R_types HO990.out BK1016.out (by decide)) (fun _ hk=>hk.2) (.int .i64 t1011)) (fun _ hk=>hk.2) (.slice Ao54 t1012.length co54)) (fun _ h_=>h_.1))) hb);replace HO996:=A_ (Kd.R_below (by (with_reducible repeat (first|apply Kd.R_alloc|apply Kd.R_drewN|apply Kd.R_drew));exact (Kd.R_mono (Kd.R_far (p:=⟨gb1016,1,none⟩) (Kd.R_far (p:=⟨gb1016,0,none⟩) (Kd.R_types HO996.out BK1016.out (by decide)) (fun _ hk=>hk.2) (.int .i64 t1011)) (fun _ hk=>hk.2) (.slice Ao54 t1012.length co54)) (fun _ h_=>h_.1))) hb);replace HO1002:=A_ (Kd.R_below (by (with_reducible repeat (first|apply Kd.R_alloc|apply Kd.R_drewN|apply Kd.R_drew));exact (Kd.R_mono (Kd.R_far (p:=⟨gb1016,1,none⟩) (Kd.R_far (p:=⟨gb1016,0,none⟩) (Kd.R_types HO1002.out BK1016.out (by decide)) (fun _ hk=>hk.2) (.int .i64 t1011)) (fun _ hk=>hk.2) (.slice Ao54 t1012.length co54)) (fun _ h_=>h_.1))) hb);replace HO1008:=A_ (Kd.R_below (by (with_reducible repeat (first|apply Kd.R_alloc|apply Kd.R_drewN|apply Kd.R_drew));exact (Kd.R_mono (Kd.R_far (p:=⟨gb1016,1,none⟩) (Kd.R_far (p:=⟨gb1016,0,none⟩) (Kd.R_types HO1008.out BK1016.out (by decide)) (fun _ hk=>hk.2) (.int .i64 t1011)) (fun _ hk=>hk.2) (.slice Ao54 t1012.length co54)) (fun _ h_=>h_.1))) hb);replace HO1014:=A_ (Kd.R_below (by (with_reducible repeat (first|apply Kd.R_alloc|apply Kd.R_drewN|apply Kd.R_drew));exact (Kd.R_mono (Kd.R_far (p:=⟨gb1016,1,none⟩) (Kd.R_far (p:=⟨gb1016,0,none⟩) (Kd.R_types HO1014.out BK1016.out (by decide)) (fun _ hk=>hk.2) (.int .i64 t1011)) (fun _ hk=>hk.2) (.slice Ao54 t1012.length co54)) (fun _ h_=>h_.1))) hb);replace BK991:=A_ (blk_below (g:=gb991) (o:=.cells #[.int .i64 t983,.slice Ao16 t984.length co16] 26 (0,0)) (by (with_reducible repeat (first|refine blk_drewN ?_ _|refine blk_drew ?_|refine blk_alloc ?_ _));refine blk_far ?_ NB991_1016.out _;(with_reducible repeat (first|refine blk_drewN ?_ _|refine blk_drew ?_|refine blk_alloc ?_ _));refine blk_far ?_ NB991_1016.out _;(with_reducible repeat (first|refine blk_drewN ?_ _|refine blk_drew ?_|refine blk_alloc ?_ _));exact BK991.out) hb);replace BK992:=A_ (blk_below (g:=gb992) (o:=.cells #[.int .i64 t987,.slice Ao18 t988.length co18] 26 (0,0)) (by (with_reducible repeat (first|refine blk_drewN ?_ _|refine blk_drew ?_|refine blk_alloc ?_ _));refine blk_far ?_ NB992_1016.out _;(with_reducible repeat (first|refine blk_drewN ?_ _|refine blk_drew ?_|refine blk_alloc ?_ _));refine blk_far ?_ NB992_1016.out _;(with_reducible repeat (first|refine blk_drewN ?_ _|refine blk_drew ?_|refine blk_alloc ?_ _));exact BK992.out) hb);replace BK998:=A_ (blk_below (g:=gb998) (o:=.cells #[.int .i64 t993,.slice Ao24 t994.length co24] 26 (0,0)) (by (with_reducible repeat (first|refine blk_drewN ?_ _|refine blk_drew ?_|refine blk_alloc ?_ _));refine blk_far ?_ NB998_1016.out _;(with_reducible repeat (first|refine blk_drewN ?_ _|refine blk_drew ?_|refine blk_alloc ?_ _));refine blk_far ?_ NB998_1016.out _;(with_reducible repeat (first|refine blk_drewN ?_ _|refine blk_drew ?_|refine blk_alloc ?_ _));exact BK998.out) hb);replace BK1004:=A_ (blk_below (g:=gb1004) (o:=.cells #[.int .i64 t999,.slice Ao33 t1000.length co33] 26 (0,0)) (by (with_reducible repeat (first|refine blk_drewN ?_ _|refine blk_drew ?_|refine blk_alloc ?_ _));refine blk_far ?_ NB1004_1016.out _;(with_reducible repeat (first|refine blk_drewN ?_ _|refine blk_drew ?_|refine blk_alloc ?_ _));refine blk_far ?_ NB1004_1016.out _;(with_reducible repeat (first|refine blk_drewN ?_ _|refine blk_drew ?_|refine blk_alloc ?_ _));exact BK1004.out) hb);replace BK1010:=A_ (blk_below (g:=gb1010) (o:=.cells #[.int .i64 t1005,.slice Ao43 t1006.length co43] 26 (0,0)) (by (with_reducible repeat (first|refine blk_drewN ?_ _|refine blk_drew ?_|refine blk_alloc ?_ _));refine blk_far ?_ NB1010_1016.out _;(with_reducible repeat (first|refine blk_drewN ?_ _|refine blk_drew ?_|refine blk_alloc ?_ _));refine blk_far ?_ NB1010_1016.out _;(with_reducible repeat (first|refine blk_drewN ?_ _|refine blk_drew ?_|refine blk_alloc ?_ _));exact BK1010.out) hb);replace BK1016:=A_ (blk_below (g:=gb1016) (o:=.cells #[.int .i64 t1011,.slice Ao54 t1012.length co54] 26 (0,0)) (by (with_reducible repeat (first|refine blk_drewN ?_ _|refine blk_drew ?_|refine blk_alloc ?_ _));refine blk_put (cs:=#[.int .i64 t1011,.slice none 0 0]) ?_ 1 _ rfl;(with_reducible repeat (first|refine blk_drewN ?_ _|refine blk_drew ?_|refine blk_alloc ?_ _));refine blk_put (cs:=#[.int .i64 0,.slice none 0 0]) ?_ 0 _ rfl;(with_reducible repeat (first|refine blk_drewN ?_ _|refine blk_drew ?_|refine blk_alloc ?_ _));exact BK1016.out) hb);replace HB:=A_ (below_step bb_ hb);(try clear hb);(try clear hb2);(try clear hk);(try clear hi)))
     go_meet
     case rel=>exact ⟨_,(true),(by first|rfl|(simp;done)|(simp [*];done)),H',⟨by first|omega|exact Nat.le_refl _⟩,⟨by (with_reducible repeat (first|apply Kd.R_alloc|apply Kd.R_drewN|apply Kd.R_drew));exact Kd.R_mono HO986.out (fun _ hk=>⟨hk.1.1.1.1,⟨hk.1.1.1.2,⟨hk.1.1.2,⟨hk.1.2,hk.2⟩⟩⟩⟩)⟩,⟨by (with_reducible repeat (first|apply Kd.R_alloc|apply Kd.R_drewN|apply Kd.R_drew));exact Kd.R_mono HO990.out (fun _ hk=>⟨hk.1.1.1.1,⟨hk.1.1.1.2,⟨hk.1.1.2,⟨hk.1.2,hk.2⟩⟩⟩⟩)⟩,⟨by (with_reducible repeat (first|apply Kd.R_alloc|apply Kd.R_drewN|apply Kd.R_drew));exact Kd.R_mono HO996.out (fun _ hk=>⟨hk.1.1.1.1.2,⟨hk.1.1.1.2,⟨hk.1.1.2,⟨hk.1.2,hk.2⟩⟩⟩⟩)⟩,⟨by (with_reducible repeat (first|apply Kd.R_alloc|apply Kd.R_drewN|apply Kd.R_drew));exact Kd.R_mono HO1002.out (fun _ hk=>⟨hk.1.1.1.1.2,⟨hk.1.1.1.2,⟨hk.1.1.2,⟨hk.1.2,hk.2⟩⟩⟩⟩)⟩,⟨by (with_reducible repeat (first|apply Kd.R_alloc|apply Kd.R_drewN|apply Kd.R_drew));exact Kd.R_mono HO1008.out (fun _ hk=>⟨hk.1.1.1.1.2,⟨hk.1.1.1.2,⟨hk.1.1.2,⟨hk.1.2,hk.2⟩⟩⟩⟩)⟩,⟨by (with_reducible repeat (first|apply Kd.R_alloc|apply Kd.R_drewN|apply Kd.R_drew));exact Kd.R_mono HO1014.out (fun _ hk=>⟨hk.1.1.1.1.2,⟨hk.1.1.1.2,⟨hk.1.1.2,⟨hk.1.2,hk.2⟩⟩⟩⟩)⟩,⟨bl_ BK991⟩,⟨bl_ BK992⟩,⟨bl_ BK998⟩,⟨bl_ BK1004⟩,⟨bl_ BK1010⟩,⟨bl_ BK1016⟩,⟨bb_⟩⟩
  case rest =>
   clear HC10;try clear c1
   try clear c2
   try clear p2
   try clear c3
   try clear c4
   try clear c5
   try clear c6
   try clear c7
   try clear c8
   try clear c9
   try clear c10
   try clear c11
   try clear c12
   try clear c14
   try clear c20
   try clear c21
   try clear c22
   try clear c29
   try clear c30
   try clear c31
   try clear c38
   try clear c39
   try clear c40
   try clear c41
   try clear c42
   try clear c43
   try clear c44
   try clear c45
   try clear c46
   try clear c48
   try clear c49
   try clear c50
   try clear c51
   try clear c52
   try clear c55
   try clear c55b0
   try clear c55b1
   try clear c55b2
   try clear c57
   try clear c58
   try clear c58b0
   try clear c58b1
   try clear c58b2
   try clear c59
   try clear c60
   try clear c61
   try clear c62
   try clear c63
   try clear c65
   try clear c66
   try clear c67
   try clear c68
   try clear c72
   try clear c73
   try clear c74
   try clear c75
   try clear c76
   try clear c77
   try clear c79
   try clear c80
   try clear c81
   try clear c82
   try clear c85
   try clear c86
   try clear c87
   try clear c89
   try clear c90
   try clear c93
   try clear c94
   try clear c95
   try clear c96
   try clear c97
   try clear c99
   try clear c100
   try clear c101
   try clear c102
   try clear c105
   try clear c106
   try clear c107
   try clear c109
   try clear c110
   try clear c113
   try clear c114
   try clear c115
   try clear c116
   try clear c117
   try clear c119
   try clear c120
   try clear c121
   try clear c122
   try clear hcz103_0
   try clear hcz103_1
   try clear hcz108_0
   try clear hcz108_1
   try clear hcz111_0
   try clear hcz111_1
   try clear hcz118_0
   try clear hcz118_1
   try clear hcz123_0
   try clear hcz123_1
   try clear hcz15_0
   try clear hcz15_1
   try clear hcz17_0
   try clear hcz17_1
   try clear hcz23_0
   try clear hcz23_1
   try clear hcz25_0
   try clear hcz25_1
   try clear hcz26_0
   try clear hcz26_1
   try clear hcz32_0
   try clear hcz32_1
   try clear hcz34_0
   try clear hcz34_1
   try clear hcz35_0
   try clear hcz35_1
   try clear hcz42_0
   try clear hcz42_1
   try clear hcz44_0
   try clear hcz44_1
   try clear hcz45_0
   try clear hcz45_1
   try clear hcz53_0
   try clear hcz53_1
   try clear hcz64_0
   try clear hcz64_1
   try clear hcz69_0
   try clear hcz69_1
   try clear hcz78_0
   try clear hcz78_1
   try clear hcz83_0
   try clear hcz83_1
   try clear hcz88_0
   try clear hcz88_1
   try clear hcz91_0
   try clear hcz91_1
   try clear hcz98_0
   try clear hcz98_1
   try clear hfz103_0
   try clear hfz103_1
   try clear hfz108_0
   try clear hfz108_1
   try clear hfz111_0
   try clear hfz111_1
   try clear hfz118_0
   try clear hfz118_1
   try clear hfz123_0
   try clear hfz123_1
   try clear hfz15_0
   try clear hfz15_1
   try clear hfz17_0
   try clear hfz17_1
   try clear hfz23_0
   try clear hfz23_1
   try clear hfz25_0
   try clear hfz25_1
   try clear hfz26_0
   try clear hfz26_1
   try clear hfz32_0
   try clear hfz32_1
   try clear hfz34_0
   try clear hfz34_1
   try clear hfz35_0
   try clear hfz35_1
   try clear hfz42_0
   try clear hfz42_1
   try clear hfz44_0
   try clear hfz44_1
   try clear hfz45_0
   try clear hfz45_1
   try clear hfz53_0
   try clear hfz53_1
   try clear hfz64_0
   try clear hfz64_1
   try clear hfz69_0
   try clear hfz69_1
   try clear hfz78_0
   try clear hfz78_1
   try clear hfz83_0
   try clear hfz83_1
   try clear hfz88_0
   try clear hfz88_1
   try clear hfz91_0
   try clear hfz91_1
   try clear hfz98_0
   try clear hfz98_1
   obtain ⟨kq,x87_9,rfl,HA,HJ9,HO_992001,HO_993001,HO_999001,HO_1005001,HO_1011001,HO_1017001,BK991,BK992,BK998,BK1004,BK1010,BK1016,HB⟩:=hcut;cases kq with
   | zero=>exact absurd HA.out (by simp [laws_FnExtensions.j0])
   | succ kj9 =>
    have H:=HA.out;clear HA;simp only [laws_FnExtensions.j0] at H
    by_cases c125 : x87_9 = true
    ·subst c125;have H1 : (some false) = some r:=by rw [if_pos rfl] at H;exact H
     clear H;have H:=H1;clear H1;obtain rfl:=Option.some.inj H;go_wp2
     go_ret
     exact ⟨by first|rfl|(simp [errW_none,errW_some] <;> rfl)|(simp [*,errW_none,errW_some] <;> rfl),bb_⟩
    ·replace c125:=Bool.eq_false_iff.mpr c125;subst c125;have H1 : ((impl_CountExtensions.f kj9 t983 t984).bind fun bt1019=>((impl_CountExtensions.f kj9 t987 t988).bind fun bt1021=>((spec_CountExtensions.f kj9 t983 t984).bind fun bt1023=>(if (bt1019.2 != bt1023.2) = true then (laws_FnExtensions.j1 kj9 t997 bt1019.1 bt1019.2 bt1021.1 bt1021.2 true t983 t984 t987 t988 t993 t994 t1005 t1006) else (laws_FnExtensions.j1 kj9 t997 bt1019.1 bt1019.2 bt1021.1 bt1021.2 (bt1019.1 != bt1023.1) t983 t984 t987 t988 t993 t994 t1005 t1006))))) = some r:=by rw [if_neg (show ¬ (false = true) by decide)] at H;exact H
     clear H;have H:=H1;clear H1;replace H:=Option.bind_eq_some_iff.mp H;obtain ⟨⟨t1019,t1020⟩,A1260,H⟩:=H;replace H : ((impl_CountExtensions.f kj9 t987 t988).bind fun bt1021=>((spec_CountExtensions.f kj9 t983 t984).bind fun bt1023=>(if (t1020 != bt1023.2) = true then (laws_FnExtensions.j1 kj9 t997 t1019 t1020 bt1021.1 bt1021.2 true t983 t984 t987 t988 t993 t994 t1005 t1006) else (laws_FnExtensions.j1 kj9 t997 t1019 t1020 bt1021.1 bt1021.2 (t1019 != bt1023.1) t983 t984 t987 t988 t993 t994 t1005 t1006)))) = some r:=H;have A126:=A_ A1260;clear A1260;replace H:=Option.bind_eq_some_iff.mp H;obtain ⟨⟨t1021,t1022⟩,A1270,H⟩:=H;replace H : ((spec_CountExtensions.f kj9 t983 t984).bind fun bt1023=>(if (t1020 != bt1023.2) = true then (laws_FnExtensions.j1 kj9 t997 t1019 t1020 t1021 t1022 true t983 t984 t987 t988 t993 t994 t1005 t1006) else (laws_FnExtensions.j1 kj9 t997 t1019 t1020 t1021 t1022 (t1019 != bt1023.1) t983 t984 t987 t988 t993 t994 t1005 t1006))) = some r:=H;have A127:=A_ A1270;clear A1270;replace H:=Option.bind_eq_some_iff.mp H;obtain ⟨⟨t1023,t1024⟩,A1280,H⟩:=H;replace H : (if (t1020 != t1024) = true then (laws_FnExtensions.j1 kj9 t997 t1019 t1020 t1021 t1022 true t983 t984 t987 t988 t993 t994 t1005 t1006) else (laws_FnExtensions.j1 kj9 t997 t1019 t1020 t1021 t1022 (t1019 != t1023) t983 t984 t987 t988 t993 t994 t1005 t1006)) = some r:=H;have A128:=A_ A1280;clear A1280;have HC129:=A_ H;clear H;have hnb130:=NB991_992.out;have hnc130:=NB992_991.out;have hnb131:=NB991_998.out;have hnc131:=NB998_991.out;have hnb132:=NB991_1004.out;have hnc132:=NB1004_991.out;have hnb133:=NB991_1010.out;have hnc133:=NB1010_991.out;have hnb134:=NB991_1016.out;have hnc134:=NB1016_991.out;have hcz135_0 : wc.cell? ⟨gb991,0,none⟩ = some (.int .i64 t983):=blk_cell BK991.out 0;have hcz135_1 : wc.cell? ⟨gb991,1,none⟩ = some (.slice Ao16 t984.length co16):=blk_cell BK991.out 1;have hfz135_0:=blk_frozen BK991.out 0;have hfz135_1:=blk_frozen BK991.out 1;go_upto_region 13 with (first|((with_reducible refine gate_callee (f:=47) rfl ?_);refine goesL_ (some 90) rfl rfl Tryd.func47 (by kernel_rfl) rfl #[.agg #[.int .i64 t983,.slice Ao16 t984.length co16]] rfl au_ ?_;(with_reducible refine (impl_CountExtensions.calls kj9 t983 _ _ t984 t1019 t1020 _ ?side1 ?side2 ?side3 A126.out).mono ?_);(case side1=>exact cl_ (Kd.R_reads' HO_992001.out).2.2);(case side2=>exact (Kd.R_reads' HO_992001.out).2.1);(case side3=>first|exact HT.out|exact HT.out.below bb_|(repeat (first|exact HT.out|apply TabOK.drewN|apply TabOK.drew|apply TabOK.alloc)));rintro e w136 ⟨rfl,hb⟩;refine ⟨_,rfl,?_⟩;replace HO_992001:=rb_ HO_992001 hb;replace HO_993001:=rb_ HO_993001 hb;replace HO_999001:=rb_ HO_999001 hb;replace HO_1005001:=rb_ HO_1005001 hb;replace HO_1011001:=rb_ HO_1011001 hb;replace HO_1017001:=rb_ HO_1017001 hb;replace BK991:=bz BK991 hb;replace BK992:=bz BK992 hb;replace BK998:=bz BK998 hb;replace BK1004:=bz BK1004 hb;replace BK1010:=bz BK1010 hb;replace BK1016:=bz BK1016 hb;replace HB:=A_ (below_step bb_ hb);(try clear hb);(try clear hb2);(try clear hk);(try clear hi);have hnb137:=NB992_998.out;have hnc137:=NB998_992.out;have hnb138:=NB992_1004.out;have hnc138:=NB1004_992.out;have hnb139:=NB992_1010.out;have hnc139:=NB1010_992.out;have hnb140:=NB992_1016.out;have hnc140:=NB1016_992.out;have hcz141_0 : w136.cell? ⟨gb992,0,none⟩ = some (.int .i64 t987):=blk_cell BK992.out 0;have hcz141_1 : w136.cell? ⟨gb992,1,none⟩ = some (.slice Ao18 t988.length co18):=blk_cell BK992.out 1;have hfz141_0:=blk_frozen BK992.out 0;have hfz141_1:=blk_frozen BK992.out 1)|((with_reducible refine gate_callee (f:=47) rfl ?_);refine goesL_ (some 95) rfl rfl Tryd.func47 (by kernel_rfl) rfl #[.agg #[.int .i64 t987,.slice Ao18 t988.length co18]] rfl au_ ?_;(with_reducible refine (impl_CountExtensions.calls kj9 t987 _ _ t988 t1021 t1022 _ ?side1 ?side2 ?side3 A127.out).mono ?_);(case side1=>exact cl_ (Kd.R_reads' HO_993001.out).2.2);(case side2=>exact (Kd.R_reads' HO_993001.out).2.1);(case side3=>first|exact HT.out|exact HT.out.below bb_|(repeat (first|exact HT.out|apply TabOK.drewN|apply TabOK.drew|apply TabOK.alloc)));rintro e w142 ⟨rfl,hb⟩;refine ⟨_,rfl,?_⟩;replace HO_992001:=rb_ HO_992001 hb;replace HO_993001:=rb_ HO_993001 hb;replace HO_999001:=rb_ HO_999001 hb;replace HO_1005001:=rb_ HO_1005001 hb;replace HO_1011001:=rb_ HO_1011001 hb;replace HO_1017001:=rb_ HO_1017001 hb;replace BK991:=bz BK991 hb;replace BK992:=bz BK992 hb;replace BK998:=bz BK998 hb;replace BK1004:=bz BK1004 hb;replace BK1010:=bz BK1010 hb;replace BK1016:=bz BK1016 hb;replace HB:=A_ (below_step bb_ hb);(try clear hb);(try clear hb2);(try clear hk);(try clear hi);have hcz143_0 : w142.cell? ⟨gb991,0,none⟩ = some (.int .i64 t983):=blk_cell BK991.out 0;have hcz143_1 : w142.cell? ⟨gb991,1,none⟩ = some (.slice Ao16 t984.length co16):=blk_cell BK991.out 1;have hfz143_0:=blk_frozen BK991.out 0;have hfz143_1:=blk_frozen BK991.out 1)|((with_reducible refine gate_callee (f:=48) rfl ?_);refine goesL_ (some 100) rfl rfl Tryd.func48 (by kernel_rfl) rfl #[.agg #[.int .i64 t983,.slice Ao16 t984.length co16]] rfl au_ ?_;(with_reducible refine (spec_CountExtensions.calls kj9 t983 _ _ t984 t1023 t1024 _ ?side1 ?side2 A128.out).mono ?_);(case side1=>exact cl_ (Kd.R_reads' HO_992001.out).2.2);(case side2=>exact (Kd.R_reads' HO_992001.out).2.1);rintro e w144 ⟨rfl,hb⟩;refine ⟨_,rfl,?_⟩;replace HO_992001:=rb_ HO_992001 hb;replace HO_993001:=rb_ HO_993001 hb;replace HO_999001:=rb_ HO_999001 hb;replace HO_1005001:=rb_ HO_1005001 hb;replace HO_1011001:=rb_ HO_1011001 hb;replace HO_1017001:=rb_ HO_1017001 hb;replace BK991:=bz BK991 hb;replace BK992:=bz BK992 hb;replace BK998:=bz BK998 hb;replace BK1004:=bz BK1004 hb;replace BK1010:=bz BK1010 hb;replace BK1016:=bz BK1016 hb;replace HB:=A_ (below_step bb_ hb);(try clear hb);(try clear hb2);(try clear hk);(try clear hi)))
     (try simp only [Act.put,L_,M_,N_]);go_cut [110] (fun v110 wc=>∃ (kq : Nat) (x110_128 : Bool),v110 = .bool x110_128 ∧ Aside0 (laws_FnExtensions.j1 kq t997 t1019 t1020 t1021 t1022 x110_128 t983 t984 t987 t988 t993 t994 t1005 t1006 = some r) ∧ Aside0 (kq ≤ kj9) ∧ Aside0 (Kd.R (Kd.int .i64) 3 wc w.heap.size (fun k_=>some k_ ≠ ((.slice Ao18 t988.length co18) : Value).ownBlock ∧ some k_ ≠ ((.slice Ao24 t994.length co24) : Value).ownBlock ∧ some k_ ≠ ((.slice Ao33 t1000.length co33) : Value).ownBlock ∧ some k_ ≠ ((.slice Ao43 t1006.length co43) : Value).ownBlock ∧ some k_ ≠ ((.slice Ao54 t1012.length co54) : Value).ownBlock) (.slice Ao16 t984.length co16) t984) ∧ Aside0 (Kd.R (Kd.int .i64) 3 wc w.heap.size (fun k_=>some k_ ≠ ((.slice Ao16 t984.length co16) : Value).ownBlock ∧ some k_ ≠ ((.slice Ao24 t994.length co24) : Value).ownBlock ∧ some k_ ≠ ((.slice Ao33 t1000.length co33) : Value).ownBlock ∧ some k_ ≠ ((.slice Ao43 t1006.length co43) : Value).ownBlock ∧ some k_ ≠ ((.slice Ao54 t1012.length co54) : Value).ownBlock) (.slice Ao18 t988.length co18) t988) ∧ Aside0 (Kd.R (Kd.int .i64) 3 wc w.heap.size (fun k_=>some k_ ≠ ((.slice Ao16 t984.length co16) : Value).ownBlock ∧ some k_ ≠ ((.slice Ao18 t988.length co18) : Value).ownBlock ∧ some k_ ≠ ((.slice Ao33 t1000.length co33) : Value).ownBlock ∧ some k_ ≠ ((.slice Ao43 t1006.length co43) : Value).ownBlock ∧ some k_ ≠ ((.slice Ao54 t1012.length co54) : Value).ownBlock) (.slice Ao24 t994.length co24) t994) ∧ Aside0 (Kd.R (Kd.int .i64) 3 wc w.heap.size (fun k_=>some k_ ≠ ((.slice Ao16 t984.length co16) : Value).ownBlock ∧ some k_ ≠ ((.slice Ao18 t988.length co18) : Value).ownBlock ∧ some k_ ≠ ((.slice Ao24 t994.length co24) : Value).ownBlock ∧ some k_ ≠ ((.slice Ao43 t1006.length co43) : Value).ownBlock ∧ some k_ ≠ ((.slice Ao54 t1012.length co54) : Value).ownBlock) (.slice Ao33 t1000.length co33) t1000) ∧ Aside0 (Kd.R (Kd.int .i64) 3 wc w.heap.size (fun k_=>some k_ ≠ ((.slice Ao16 t984.length co16) : Value).ownBlock ∧ some k_ ≠ ((.slice Ao18 t988.length co18) : Value).ownBlock ∧ some k_ ≠ ((.slice Ao24 t994.length co24) : Value).ownBlock ∧ some k_ ≠ ((.slice Ao33 t1000.length co33) : Value).ownBlock ∧ some k_ ≠ ((.slice Ao54 t1012.length co54) : Value).ownBlock) (.slice Ao43 t1006.length co43) t1006) ∧ Aside0 (Kd.R (Kd.int .i64) 3 wc w.heap.size (fun k_=>some k_ ≠ ((.slice Ao16 t984.length co16) : Value).ownBlock ∧ some k_ ≠ ((.slice Ao18 t988.length co18) : Value).ownBlock ∧ some k_ ≠ ((.slice Ao24 t994.length co24) : Value).ownBlock ∧ some k_ ≠ ((.slice Ao33 t1000.length co33) : Value).ownBlock ∧ some k_ ≠ ((.slice Ao43 t1006.length co43) : Value).ownBlock) (.slice Ao54 t1012.length co54) t1012) ∧ Aside0 (wc.heap[gb991]? = some (.cells #[.int .i64 t983,(.slice Ao16 t984.length co16)] 26 (0,0))) ∧ Aside0 (wc.heap[gb992]? = some (.cells #[.int .i64 t987,(.slice Ao18 t988.length co18)] 26 (0,0))) ∧ Aside0 (wc.heap[gb998]? = some (.cells #[.int .i64 t993,(.slice Ao24 t994.length co24)] 26 (0,0))) ∧ Aside0 (wc.heap[gb1004]? = some (.cells #[.int .i64 t999,(.slice Ao33 t1000.length co33)] 26 (0,0))) ∧ Aside0 (wc.heap[gb1010]? = some (.cells #[.int .i64 t1005,(.slice Ao43 t1006.length co43)] 26 (0,0))) ∧ Aside0 (wc.heap[gb1016]? = some (.cells #[.int .i64 t1011,(.slice Ao54 t1012.length co54)] 26 (0,0))) ∧ Aside0 (Below w.heap.size w wc))
     case first =>
      have H:=HC129.out;clear HC129;by_cases c145 : (t1020 != t1024) = true
      ·rw [if_pos c145] at H;have c145b0 : (t1020 != t1024) = true:=c145;(try (have c145b1 : decide (t1020 = t1024) = false:=by simpa using c145));(try (have c145b2 : (t1020 == t1024) = false:=by simpa using c145));(try (have c145b3 : ¬ (t1020 = t1024):=by simpa using c145));clear c145;(first|rw [c145b0]|(simp only [i64_w,i32_w];rw [c145b0])|skip)
       have H':=A_ H;clear H;go_wp2
       go_meet
       case rel=>exact ⟨_,(true),(by first|rfl|(simp;done)|(simp [*];done)),H',⟨by have:=HJ9.out;first|omega|exact Nat.le_refl _⟩,⟨by (with_reducible repeat (first|apply Kd.R_alloc|apply Kd.R_drewN|apply Kd.R_drew));exact HO_992001.out⟩,⟨by (with_reducible repeat (first|apply Kd.R_alloc|apply Kd.R_drewN|apply Kd.R_drew));exact HO_993001.out⟩,⟨by (with_reducible repeat (first|apply Kd.R_alloc|apply Kd.R_drewN|apply Kd.R_drew));exact HO_999001.out⟩,⟨by (with_reducible repeat (first|apply Kd.R_alloc|apply Kd.R_drewN|apply Kd.R_drew));exact HO_1005001.out⟩,⟨by (with_reducible repeat (first|apply Kd.R_alloc|apply Kd.R_drewN|apply Kd.R_drew));exact HO_1011001.out⟩,⟨by (with_reducible repeat (first|apply Kd.R_alloc|apply Kd.R_drewN|apply Kd.R_drew));exact HO_1017001.out⟩,⟨bl_ BK991⟩,⟨bl_ BK992⟩,⟨bl_ BK998⟩,⟨bl_ BK1004⟩,⟨bl_ BK1010⟩,⟨bl_ BK1016⟩,⟨bb_⟩⟩
      ·rw [if_neg c145] at H;have c145b0 : (t1020 != t1024) = false:=by simpa using c145
       (try (have c145b1 : decide (t1020 = t1024) = true:=by simpa using c145));(try (have c145b2 : (t1020 == t1024) = true:=by simpa using c145));clear c145;(first|rw [c145b0]|(simp only [i64_w,i32_w];rw [c145b0])|skip)
       have H':=A_ H;clear H;go_wp2
       go_meet
       case rel=>exact ⟨_,((t1019 != t1023)),(by first|rfl|(simp;done)|(simp [*];done)),H',⟨by have:=HJ9.out;first|omega|exact Nat.le_refl _⟩,⟨by (with_reducible repeat (first|apply Kd.R_alloc|apply Kd.R_drewN|apply Kd.R_drew));exact HO_992001.out⟩,⟨by (with_reducible repeat (first|apply Kd.R_alloc|apply Kd.R_drewN|apply Kd.R_drew));exact HO_993001.out⟩,⟨by (with_reducible repeat (first|apply Kd.R_alloc|apply Kd.R_drewN|apply Kd.R_drew));exact HO_999001.out⟩,⟨by (with_reducible repeat (first|apply Kd.R_alloc|apply Kd.R_drewN|apply Kd.R_drew));exact HO_1005001.out⟩,⟨by (with_reducible repeat (first|apply Kd.R_alloc|apply Kd.R_drewN|apply Kd.R_drew));exact HO_1011001.out⟩,⟨by (with_reducible repeat (first|apply Kd.R_alloc|apply Kd.R_drewN|apply Kd.R_drew));exact HO_1017001.out⟩,⟨bl_ BK991⟩,⟨bl_ BK992⟩,⟨bl_ BK998⟩,⟨bl_ BK1004⟩,⟨bl_ BK1010⟩,⟨bl_ BK1016⟩,⟨bb_⟩⟩
     case rest =>
      clear HC129;try clear c1
      try clear c2
      try clear p2
      try clear c3
      try clear c4
      try clear c5
      try clear c6
      try clear c7
      try clear c8
      try clear c9
      try clear c10
      try clear c11
      try clear c12
      try clear c13
      try clear c14
      try clear c20
      try clear c21
      try clear c22
      try clear c29
      try clear c30
      try clear c31
      try clear c38
      try clear c39
      try clear c40
      try clear c41
      try clear c42
      try clear c43
      try clear c44
      try clear c45
      try clear c46
      try clear c47
      try clear c48
      try clear c49
      try clear c50
      try clear c51
      try clear c52
      try clear c55
      try clear c55b0
      try clear c55b1
      try clear c55b2
      try clear c57
      try clear c58
      try clear c58b0
      try clear c58b1
      try clear c58b2
      try clear c59
      try clear c60
      try clear c61
      try clear c62
      try clear c63
      try clear c65
      try clear c66
      try clear c67
      try clear c68
      try clear c72
      try clear c73
      try clear c74
      try clear c75
      try clear c76
      try clear c77
      try clear c79
      try clear c80
      try clear c81
      try clear c82
      try clear c85
      try clear c86
      try clear c87
      try clear c89
      try clear c90
      try clear c93
      try clear c94
      try clear c95
      try clear c96
      try clear c97
      try clear c99
      try clear c100
      try clear c101
      try clear c102
      try clear c105
      try clear c106
      try clear c107
      try clear c109
      try clear c110
      try clear c113
      try clear c114
      try clear c115
      try clear c116
      try clear c117
      try clear c119
      try clear c120
      try clear c121
      try clear c122
      try clear c125
      try clear c130
      try clear c131
      try clear c132
      try clear c133
      try clear c134
      try clear c137
      try clear c138
      try clear c139
      try clear c140
      try clear c145
      try clear c145b0
      try clear c145b1
      try clear c145b2
      try clear hcz103_0
      try clear hcz103_1
      try clear hcz108_0
      try clear hcz108_1
      try clear hcz111_0
      try clear hcz111_1
      try clear hcz118_0
      try clear hcz118_1
      try clear hcz123_0
      try clear hcz123_1
      try clear hcz135_0
      try clear hcz135_1
      try clear hcz141_0
      try clear hcz141_1
      try clear hcz143_0
      try clear hcz143_1
      try clear hcz15_0
      try clear hcz15_1
      try clear hcz17_0
      try clear hcz17_1
      try clear hcz23_0
      try clear hcz23_1
      try clear hcz25_0
      try clear hcz25_1
      try clear hcz26_0
      try clear hcz26_1
      try clear hcz32_0
      try clear hcz32_1
      try clear hcz34_0
      try clear hcz34_1
      try clear hcz35_0
      try clear hcz35_1
      try clear hcz42_0
      try clear hcz42_1
      try clear hcz44_0
      try clear hcz44_1
      try clear hcz45_0
      try clear hcz45_1
      try clear hcz53_0
      try clear hcz53_1
      try clear hcz64_0
      try clear hcz64_1
      try clear hcz69_0
      try clear hcz69_1
      try clear hcz78_0
      try clear hcz78_1
      try clear hcz83_0
      try clear hcz83_1
      try clear hcz88_0
      try clear hcz88_1
      try clear hcz91_0
      try clear hcz91_1
      try clear hcz98_0
      try clear hcz98_1
      try clear hfz103_0
      try clear hfz103_1
      try clear hfz108_0
      try clear hfz108_1
      try clear hfz111_0
      try clear hfz111_1
      try clear hfz118_0
      try clear hfz118_1
      try clear hfz123_0
      try clear hfz123_1
      try clear hfz135_0
      try clear hfz135_1
      try clear hfz141_0
      try clear hfz141_1
      try clear hfz143_0
      try clear hfz143_1
      try clear hfz15_0
      try clear hfz15_1
      try clear hfz17_0
      try clear hfz17_1
      try clear hfz23_0
      try clear hfz23_1
      try clear hfz25_0
      try clear hfz25_1
      try clear hfz26_0
      try clear hfz26_1
      try clear hfz32_0
      try clear hfz32_1
      try clear hfz34_0
      try clear hfz34_1
      try clear hfz35_0
      try clear hfz35_1
      try clear hfz42_0
      try clear hfz42_1
      try clear hfz44_0
      try clear hfz44_1
      try clear hfz45_0
      try clear hfz45_1
      try clear hfz53_0
      try clear hfz53_1
      try clear hfz64_0
      try clear hfz64_1
      try clear hfz69_0
      try clear hfz69_1
      try clear hfz78_0
      try clear hfz78_1
      try clear hfz83_0
      try clear hfz83_1
      try clear hfz88_0
      try clear hfz88_1
      try clear hfz91_0
      try clear hfz91_1
      try clear hfz98_0
      try clear hfz98_1
      try clear p2
      obtain ⟨kq,x110_128,rfl,HA,HJ128,HO_992001,HO_993001,HO_999001,HO_1005001,HO_1011001,HO_1017001,BK991,BK992,BK998,BK1004,BK1010,BK1016,HB⟩:=hcut;cases kq with
      | zero=>exact absurd HA.out (by simp [laws_FnExtensions.j1])
      | succ kj128 =>
       have H:=HA.out;clear HA;simp only [laws_FnExtensions.j1] at H
       by_cases c146 : x110_128 = true
       ·subst c146;have H1 : (some false) = some r:=by rw [if_pos rfl] at H;exact H
        clear H;have H:=H1;clear H1;obtain rfl:=Option.some.inj H;go_wp2
        go_ret
        exact ⟨by first|rfl|(simp [errW_none,errW_some] <;> rfl)|(simp [*,errW_none,errW_some] <;> rfl),bb_⟩
       ·replace c146:=Bool.eq_false_iff.mpr c146;subst c146;have H1 : (if t1020 = true then ((impl_FirstExtension.f kj128 t983 t984).bind fun bt1025=>((impl_IsExtension.f kj128 t983 t984 bt1025.1).bind fun bt1029=>(if bt1025.2 = true then (if bt1029.2 = true then (if bt1029.1 = true then (if t1019 < 1 then (some false) else (laws_FnExtensions.j2 kj128 t997 t1019 t1020 t1021 t1022 t983 t984 t987 t988 t993 t994 t1005 t1006)) else (some false)) else (some false)) else (some false)))) else (laws_FnExtensions.j2 kj128 t997 t1019 t1020 t1021 t1022 t983 t984 t987 t988 t993 t994 t1005 t1006)) = some r:=by rw [if_neg (show ¬ (false = true) by decide)] at H;exact H
        clear H;have H:=H1;clear H1;have HC147:=A_ H;clear H;go_upto_if 111 with (fail)
        go_cut [] (fun wc=>∃ (kq : Nat),Aside0 (laws_FnExtensions.j2 kq t997 t1019 t1020 t1021 t1022 t983 t984 t987 t988 t993 t994 t1005 t1006 = some r) ∧ Aside0 (kq ≤ kj128) ∧ Aside0 (Kd.R (Kd.int .i64) 3 wc w.heap.size (fun k_=>some k_ ≠ ((.slice Ao18 t988.length co18) : Value).ownBlock ∧ some k_ ≠ ((.slice Ao24 t994.length co24) : Value).ownBlock ∧ some k_ ≠ ((.slice Ao33 t1000.length co33) : Value).ownBlock ∧ some k_ ≠ ((.slice Ao43 t1006.length co43) : Value).ownBlock ∧ some k_ ≠ ((.slice Ao54 t1012.length co54) : Value).ownBlock) (.slice Ao16 t984.length co16) t984) ∧ Aside0 (Kd.R (Kd.int .i64) 3 wc w.heap.size (fun k_=>some k_ ≠ ((.slice Ao16 t984.length co16) : Value).ownBlock ∧ some k_ ≠ ((.slice Ao24 t994.length co24) : Value).ownBlock ∧ some k_ ≠ ((.slice Ao33 t1000.length co33) : Value).ownBlock ∧ some k_ ≠ ((.slice Ao43 t1006.length co43) : Value).ownBlock ∧ some k_ ≠ ((.slice Ao54 t1012.length co54) : Value).ownBlock) (.slice Ao18 t988.length co18) t988) ∧ Aside0 (Kd.R (Kd.int .i64) 3 wc w.heap.size (fun k_=>some k_ ≠ ((.slice Ao16 t984.length co16) : Value).ownBlock ∧ some k_ ≠ ((.slice Ao18 t988.length co18) : Value).ownBlock ∧ some k_ ≠ ((.slice Ao33 t1000.length co33) : Value).ownBlock ∧ some k_ ≠ ((.slice Ao43 t1006.length co43) : Value).ownBlock ∧ some k_ ≠ ((.slice Ao54 t1012.length co54) : Value).ownBlock) (.slice Ao24 t994.length co24) t994) ∧ Aside0 (Kd.R (Kd.int .i64) 3 wc w.heap.size (fun k_=>some k_ ≠ ((.slice Ao16 t984.length co16) : Value).ownBlock ∧ some k_ ≠ ((.slice Ao18 t988.length co18) : Value).ownBlock ∧ some k_ ≠ ((.slice Ao24 t994.length co24) : Value).ownBlock ∧ some k_ ≠ ((.slice Ao43 t1006.length co43) : Value).ownBlock ∧ some k_ ≠ ((.slice Ao54 t1012.length co54) : Value).ownBlock) (.slice Ao33 t1000.length co33) t1000) ∧ Aside0 (Kd.R (Kd.int .i64) 3 wc w.heap.size (fun k_=>some k_ ≠ ((.slice Ao16 t984.length co16) : Value).ownBlock ∧ some k_ ≠ ((.slice Ao18 t988.length co18) : Value).ownBlock ∧ some k_ ≠ ((.slice Ao24 t994.length co24) : Value).ownBlock ∧ some k_ ≠ ((.slice Ao33 t1000.length co33) : Value).ownBlock ∧ some k_ ≠ ((.slice Ao54 t1012.length co54) : Value).ownBlock) (.slice Ao43 t1006.length co43) t1006) ∧ Aside0 (Kd.R (Kd.int .i64) 3 wc w.heap.size (fun k_=>some k_ ≠ ((.slice Ao16 t984.length co16) : Value).ownBlock ∧ some k_ ≠ ((.slice Ao18 t988.length co18) : Value).ownBlock ∧ some k_ ≠ ((.slice Ao24 t994.length co24) : Value).ownBlock ∧ some k_ ≠ ((.slice Ao33 t1000.length co33) : Value).ownBlock ∧ some k_ ≠ ((.slice Ao43 t1006.length co43) : Value).ownBlock) (.slice Ao54 t1012.length co54) t1012) ∧ Aside0 (wc.heap[gb991]? = some (.cells #[.int .i64 t983,(.slice Ao16 t984.length co16)] 26 (0,0))) ∧ Aside0 (wc.heap[gb992]? = some (.cells #[.int .i64 t987,(.slice Ao18 t988.length co18)] 26 (0,0))) ∧ Aside0 (wc.heap[gb998]? = some (.cells #[.int .i64 t993,(.slice Ao24 t994.length co24)] 26 (0,0))) ∧ Aside0 (wc.heap[gb1004]? = some (.cells #[.int .i64 t999,(.slice Ao33 t1000.length co33)] 26 (0,0))) ∧ Aside0 (wc.heap[gb1010]? = some (.cells #[.int .i64 t1005,(.slice Ao43 t1006.length co43)] 26 (0,0))) ∧ Aside0 (wc.heap[gb1016]? = some (.cells #[.int .i64 t1011,(.slice Ao54 t1012.length co54)] 26 (0,0))) ∧ Aside0 (Below w.heap.size w wc))
        case first =>
         have H:=HC147.out;clear HC147;by_cases c148 : t1020 = true
         ·subst c148;have H1 : ((impl_FirstExtension.f kj128 t983 t984).bind fun bt1025=>((impl_IsExtension.f kj128 t983 t984 bt1025.1).bind fun bt1029=>(if bt1025.2 = true then (if bt1029.2 = true then (if bt1029.1 = true then (if t1019 < 1 then (some false) else (laws_FnExtensions.j2 kj128 t997 t1019 true t1021 t1022 t983 t984 t987 t988 t993 t994 t1005 t1006)) else (some false)) else (some false)) else (some false)))) = some r:=by rw [if_pos rfl] at H;exact H
          clear H;have H:=H1;clear H1;replace H:=Option.bind_eq_some_iff.mp H;obtain ⟨⟨t1025,t1028⟩,A1490,H⟩:=H;replace H : ((impl_IsExtension.f kj128 t983 t984 t1025).bind fun bt1029=>(if t1028 = true then (if bt1029.2 = true then (if bt1029.1 = true then (if t1019 < 1 then (some false) else (laws_FnExtensions.j2 kj128 t997 t1019 true t1021 t1022 t983 t984 t987 t988 t993 t994 t1005 t1006)) else (some false)) else (some false)) else (some false))) = some r:=H;have A149:=A_ A1490;clear A1490;replace H:=Option.bind_eq_some_iff.mp H;obtain ⟨⟨t1029,t1030⟩,A1500,H⟩:=H;replace H : (if t1028 = true then (if t1030 = true then (if t1029 = true then (if t1019 < 1 then (some false) else (laws_FnExtensions.j2 kj128 t997 t1019 true t1021 t1022 t983 t984 t987 t988 t993 t994 t1005 t1006)) else (some false)) else (some false)) else (some false)) = some r:=H;have A150:=A_ A1500;clear A1500;by_cases c151 : t1028 = true
          ·subst c151;have H1 : (if t1030 = true then (if t1029 = true then (if t1019 < 1 then (some false) else (laws_FnExtensions.j2 kj128 t997 t1019 true t1021 t1022 t983 t984 t987 t988 t993 t994 t1005 t1006)) else (some false)) else (some false)) = some r:=by rw [if_pos rfl] at H;exact H
           clear H;have H:=H1;clear H1;by_cases c152 : t1030 = true
           ·subst c152;have H1 : (if t1029 = true then (if t1019 < 1 then (some false) else (laws_FnExtensions.j2 kj128 t997 t1019 true t1021 t1022 t983 t984 t987 t988 t993 t994 t1005 t1006)) else (some false)) = some r:=by rw [if_pos rfl] at H;exact H
            clear H;have H:=H1;clear H1;by_cases c153 : t1029 = true
            ·subst c153;have H1 : (if t1019 < 1 then (some false) else (laws_FnExtensions.j2 kj128 t997 t1019 true t1021 t1022 t983 t984 t987 t988 t993 t994 t1005 t1006)) = some r:=by rw [if_pos rfl] at H;exact H
             clear H;have H:=H1;clear H1;by_cases c154 : t1019 < 1
             ·rw [if_pos c154] at H;have c154b0 : decide (t1019 < 1) = true:=decide_eq_true c154;clear c154;(first|rw [c154b0]|(simp only [i64_w,i32_w];rw [c154b0])|skip)
              obtain rfl:=Option.some.inj H;have hnb155:=NB991_992.out;have hnc155:=NB992_991.out;have hnb156:=NB991_998.out;have hnc156:=NB998_991.out;have hnb157:=NB991_1004.out;have hnc157:=NB1004_991.out;have hnb158:=NB991_1010.out;have hnc158:=NB1010_991.out;have hnb159:=NB991_1016.out;have hnc159:=NB1016_991.out;have hcz160_0 : wc.cell? ⟨gb991,0,none⟩ = some (.int .i64 t983):=blk_cell BK991.out 0;have hcz160_1 : wc.cell? ⟨gb991,1,none⟩ = some (.slice Ao16 t984.length co16):=blk_cell BK991.out 1;have hfz160_0:=blk_frozen BK991.out 0;have hfz160_1:=blk_frozen BK991.out 1;go_wp2_with (first|((with_reducible refine gate_callee (f:=49) rfl ?_);refine goesL_ (some 114) rfl rfl Tryd.func49 (by kernel_rfl) rfl #[.agg #[.int .i64 t983,.slice Ao16 t984.length co16]] rfl au_ ?_;(with_reducible refine (impl_FirstExtension.calls kj128 t983 _ _ t984 t1025 true _ ?side1 ?side2 ?side3 A149.out).mono ?_);(case side1=>exact cl_ (Kd.R_reads' HO_992001.out).2.2);(case side2=>exact (Kd.R_reads' HO_992001.out).2.1);(case side3=>first|exact HT.out|exact HT.out.below bb_|(repeat (first|exact HT.out|apply TabOK.drewN|apply TabOK.drew|apply TabOK.alloc)));rintro e w161 ⟨v1026,rfl,ho0,hb⟩;refine ⟨_,rfl,?_⟩;have HO1027:=A_ (Kd.R_lower (Kd.R_new' (Kd.R_new' (Kd.R_new' (Kd.R_new' (Kd.R_new' (Kd.R_new' ho0 (Kd.R_lt (rl_ HO_992001))) (Kd.R_lt (rl_ HO_993001))) (Kd.R_lt (rl_ HO_999001))) (Kd.R_lt (rl_ HO_1005001))) (Kd.R_lt (rl_ HO_1011001))) (Kd.R_lt (rl_ HO_1017001))) (below_size bb_));replace HO_992001:=A_ (Kd.R_elder' (rl_ HO_992001) (Kd.R_base ho0) hb);replace HO_993001:=A_ (Kd.R_elder' (rl_ HO_993001) (Kd.R_base ho0) hb);replace HO_999001:=A_ (Kd.R_elder' (rl_ HO_999001) (Kd.R_base ho0) hb);replace HO_1005001:=A_ (Kd.R_elder' (rl_ HO_1005001) (Kd.R_base ho0) hb);replace HO_1011001:=A_ (Kd.R_elder' (rl_ HO_1011001) (Kd.R_base ho0) hb);replace HO_1017001:=A_ (Kd.R_elder' (rl_ HO_1017001) (Kd.R_base ho0) hb);replace BK991:=bz BK991 hb;replace BK992:=bz BK992 hb;replace BK998:=bz BK998 hb;replace BK1004:=bz BK1004 hb;replace BK1010:=bz BK1010 hb;replace BK1016:=bz BK1016 hb;replace HB:=A_ (below_step bb_ hb);(try clear hb);(try clear hb2);(try clear hk);(try clear hi);(try clear ho0);have hcz162_0 : w161.cell? ⟨gb991,0,none⟩ = some (.int .i64 t983):=blk_cell BK991.out 0;have hcz162_1 : w161.cell? ⟨gb991,1,none⟩ = some (.slice Ao16 t984.length co16):=blk_cell BK991.out 1;have hfz162_0:=blk_frozen BK991.out 0;have hfz162_1:=blk_frozen BK991.out 1;obtain ⟨Ao163,co163,eo163⟩:=Kd.R_slice HO1027.out;subst eo163)|((with_reducible refine gate_callee (f:=50) rfl ?_);refine goesL_ (some 120) rfl rfl Tryd.func50 (by kernel_rfl) rfl #[.agg #[.int .i64 t983,.slice Ao16 t984.length co16],.slice Ao163 t1025.length co163] rfl au_ ?_;(with_reducible refine (impl_IsExtension.calls kj128 t983 _ _ t984 _ _ t1025 true true _ ?side1 ?side2 ?side3 ?side4 ?side5 A150.out).mono ?_);(case side1=>exact cl_ (Kd.R_reads' HO_992001.out).2.2);(case side2=>exact (Kd.R_reads' HO_992001.out).2.1);(case side3=>exact cl_ (Kd.R_reads' HO1027.out).2.2);(case side4=>exact (Kd.R_reads' HO1027.out).2.1);(case side5=>first|exact HT.out|exact HT.out.below bb_|(repeat (first|exact HT.out|apply TabOK.drewN|apply TabOK.drew|apply TabOK.alloc)));rintro e w164 ⟨rfl,hb⟩;refine ⟨_,rfl,?_⟩;replace HO_992001:=rb_ HO_992001 hb;replace HO_993001:=rb_ HO_993001 hb;replace HO_999001:=rb_ HO_999001 hb;replace HO_1005001:=rb_ HO_1005001 hb;replace HO_1011001:=rb_ HO_1011001 hb;replace HO_1017001:=rb_ HO_1017001 hb;replace HO1027:=rb_ HO1027 hb;replace BK991:=bz BK991 hb;replace BK992:=bz BK992 hb;replace BK998:=bz BK998 hb;replace BK1004:=bz BK1004 hb;replace BK1010:=bz BK1010 hb;replace BK1016:=bz BK1016 hb;replace HB:=A_ (below_step bb_ hb);(try clear hb);(try clear hb2);(try clear hk);(try clear hi)))
              go_ret
              exact ⟨by first|rfl|(simp [errW_none,errW_some] <;> rfl)|(simp [*,errW_none,errW_some] <;> rfl),bb_⟩
             ·rw [if_neg c154] at H;have c154b0 : decide (t1019 < 1) = false:=decide_eq_false c154;clear c154;(first|rw [c154b0]|(simp only [i64_w,i32_w];rw [c154b0])|skip)
              have H':=A_ H;clear H;have hnb165:=NB991_992.out;have hnc165:=NB992_991.out;have hnb166:=NB991_998.out;have hnc166:=NB998_991.out;have hnb167:=NB991_1004.out;have hnc167:=NB1004_991.out;have hnb168:=NB991_1010.out;have hnc168:=NB1010_991.out;have hnb169:=NB991_1016.out;have hnc169:=NB1016_991.out;have hcz170_0 : wc.cell? ⟨gb991,0,none⟩ = some (.int .i64 t983):=blk_cell BK991.out 0;have hcz170_1 : wc.cell? ⟨gb991,1,none⟩ = some (.slice Ao16 t984.length co16):=blk_cell BK991.out 1;have hfz170_0:=blk_frozen BK991.out 0;have hfz170_1:=blk_frozen BK991.out 1;go_wp2_with (first|((with_reducible refine gate_callee (f:=49) rfl ?_);refine goesL_ (some 114) rfl rfl Tryd.func49 (by kernel_rfl) rfl #[.agg #[.int .i64 t983,.slice Ao16 t984.length co16]] rfl au_ ?_;(with_reducible refine (impl_FirstExtension.calls kj128 t983 _ _ t984 t1025 true _ ?side1 ?side2 ?side3 A149.out).mono ?_);(case side1=>exact cl_ (Kd.R_reads' HO_992001.out).2.2);(case side2=>exact (Kd.R_reads' HO_992001.out).2.1);(case side3=>first|exact HT.out|exact HT.out.below bb_|(repeat (first|exact HT.out|apply TabOK.drewN|apply TabOK.drew|apply TabOK.alloc)));rintro e w171 ⟨v1026,rfl,ho0,hb⟩;refine ⟨_,rfl,?_⟩;have HO1027:=A_ (Kd.R_lower (Kd.R_new' (Kd.R_new' (Kd.R_new' (Kd.R_new' (Kd.R_new' (Kd.R_new' ho0 (Kd.R_lt (rl_ HO_992001))) (Kd.R_lt (rl_ HO_993001))) (Kd.R_lt (rl_ HO_999001))) (Kd.R_lt (rl_ HO_1005001))) (Kd.R_lt (rl_ HO_1011001))) (Kd.R_lt (rl_ HO_1017001))) (below_size bb_));replace HO_992001:=A_ (Kd.R_elder' (rl_ HO_992001) (Kd.R_base ho0) hb);replace HO_993001:=A_ (Kd.R_elder' (rl_ HO_993001) (Kd.R_base ho0) hb);replace HO_999001:=A_ (Kd.R_elder' (rl_ HO_999001) (Kd.R_base ho0) hb);replace HO_1005001:=A_ (Kd.R_elder' (rl_ HO_1005001) (Kd.R_base ho0) hb);replace HO_1011001:=A_ (Kd.R_elder' (rl_ HO_1011001) (Kd.R_base ho0) hb);replace HO_1017001:=A_ (Kd.R_elder' (rl_ HO_1017001) (Kd.R_base ho0) hb);replace BK991:=bz BK991 hb;replace BK992:=bz BK992 hb;replace BK998:=bz BK998 hb;replace BK1004:=bz BK1004 hb;replace BK1010:=bz BK1010 hb;replace BK1016:=bz BK1016 hb;replace HB:=A_ (below_step bb_ hb);(try clear hb);(try clear hb2);(try clear hk);(try clear hi);(try clear ho0);have hcz172_0 : w171.cell? ⟨gb991,0,none⟩ = some (.int .i64 t983):=blk_cell BK991.out 0;have hcz172_1 : w171.cell? ⟨gb991,1,none⟩ = some (.slice Ao16 t984.length co16):=blk_cell BK991.out 1;have hfz172_0:=blk_frozen BK991.out 0;have hfz172_1:=blk_frozen BK991.out 1;obtain ⟨Ao173,co173,eo173⟩:=Kd.R_slice HO1027.out;subst eo173)|((with_reducible refine gate_callee (f:=50) rfl ?_);refine goesL_ (some 120) rfl rfl Tryd.func50 (by kernel_rfl) rfl #[.agg #[.int .i64 t983,.slice Ao16 t984.length co16],.slice Ao173 t1025.length co173] rfl au_ ?_;(with_reducible refine (impl_IsExtension.calls kj128 t983 _ _ t984 _ _ t1025 true true _ ?side1 ?side2 ?side3 ?side4 ?side5 A150.out).mono ?_);(case side1=>exact cl_ (Kd.R_reads' HO_992001.out).2.2);(case side2=>exact (Kd.R_reads' HO_992001.out).2.1);(case side3=>exact cl_ (Kd.R_reads' HO1027.out).2.2);(case side4=>exact (Kd.R_reads' HO1027.out).2.1);(case side5=>first|exact HT.out|exact HT.out.below bb_|(repeat (first|exact HT.out|apply TabOK.drewN|apply TabOK.drew|apply TabOK.alloc)));rintro e w174 ⟨rfl,hb⟩;refine ⟨_,rfl,?_⟩;replace HO_992001:=rb_ HO_992001 hb;replace HO_993001:=rb_ HO_993001 hb;replace HO_999001:=rb_ HO_999001 hb;replace HO_1005001:=rb_ HO_1005001 hb;replace HO_1011001:=rb_ HO_1011001 hb;replace HO_1017001:=rb_ HO_1017001 hb;replace HO1027:=rb_ HO1027 hb;replace BK991:=bz BK991 hb;replace BK992:=bz BK992 hb;replace BK998:=bz BK998 hb;replace BK1004:=bz BK1004 hb;replace BK1010:=bz BK1010 hb;replace BK1016:=bz BK1016 hb;replace HB:=A_ (below_step bb_ hb);(try clear hb);(try clear hb2);(try clear hk);(try clear hi)))
              go_meet
              case rel=>exact ⟨_,H',⟨by have:=HJ9.out;have:=HJ128.out;first|omega|exact Nat.le_refl _⟩,⟨by (with_reducible repeat (first|apply Kd.R_alloc|apply Kd.R_drewN|apply Kd.R_drew));exact Kd.R_mono HO_992001.out (fun _ hk=>⟨hk.1.1,⟨hk.1.2.1,⟨hk.1.2.2.1,⟨hk.1.2.2.2.1,hk.1.2.2.2.2⟩⟩⟩⟩)⟩,⟨by (with_reducible repeat (first|apply Kd.R_alloc|apply Kd.R_drewN|apply Kd.R_drew));exact Kd.R_mono HO_993001.out (fun _ hk=>⟨hk.1.1,⟨hk.1.2.1,⟨hk.1.2.2.1,⟨hk.1.2.2.2.1,hk.1.2.2.2.2⟩⟩⟩⟩)⟩,⟨by (with_reducible repeat (first|apply Kd.R_alloc|apply Kd.R_drewN|apply Kd.R_drew));exact Kd.R_mono HO_999001.out (fun _ hk=>⟨hk.1.1,⟨hk.1.2.1,⟨hk.1.2.2.1,⟨hk.1.2.2.2.1,hk.1.2.2.2.2⟩⟩⟩⟩)⟩,⟨by (with_reducible repeat (first|apply Kd.R_alloc|apply Kd.R_drewN|apply Kd.R_drew));exact Kd.R_mono HO_1005001.out (fun _ hk=>⟨hk.1.1,⟨hk.1.2.1,⟨hk.1.2.2.1,⟨hk.1.2.2.2.1,hk.1.2.2.2.2⟩⟩⟩⟩)⟩,⟨by (with_reducible repeat (first|apply Kd.R_alloc|apply Kd.R_drewN|apply Kd.R_drew));exact Kd.R_mono HO_1011001.out (fun _ hk=>⟨hk.1.1,⟨hk.1.2.1,⟨hk.1.2.2.1,⟨hk.1.2.2.2.1,hk.1.2.2.2.2⟩⟩⟩⟩)⟩,⟨by (with_reducible repeat (first|apply Kd.R_alloc|apply Kd.R_drewN|apply Kd.R_drew));exact Kd.R_mono HO_1017001.out (fun _ hk=>⟨hk.1.1,⟨hk.1.2.1,⟨hk.1.2.2.1,⟨hk.1.2.2.2.1,hk.1.2.2.2.2⟩⟩⟩⟩)⟩,⟨bl_ BK991⟩,⟨bl_ BK992⟩,⟨bl_ BK998⟩,⟨bl_ BK1004⟩,⟨bl_ BK1010⟩,⟨bl_ BK1016⟩,⟨bb_⟩⟩
            ·replace c153:=Bool.eq_false_iff.mpr c153;subst c153;have H1 : (some false) = some r:=by rw [if_neg (show ¬ (false = true) by decide)] at H;exact H
             clear H;have H:=H1;clear H1;obtain rfl:=Option.some.inj H;have hnb175:=NB991_992.out;have hnc175:=NB992_991.out;have hnb176:=NB991_998.out;have hnc176:=NB998_991.out;have hnb177:=NB991_1004.out;have hnc177:=NB1004_991.out;have hnb178:=NB991_1010.out;have hnc178:=NB1010_991.out;have hnb179:=NB991_1016.out;have hnc179:=NB1016_991.out;have hcz180_0 : wc.cell? ⟨gb991,0,none⟩ = some (.int .i64 t983):=blk_cell BK991.out 0;have hcz180_1 : wc.cell? ⟨gb991,1,none⟩ = some (.slice Ao16 t984.length co16):=blk_cell BK991.out 1;have hfz180_0:=blk_frozen BK991.out 0;have hfz180_1:=blk_frozen BK991.out 1;go_wp2_with (first|((with_reducible refine gate_callee (f:=49) rfl ?_);refine goesL_ (some 114) rfl rfl Tryd.func49 (by kernel_rfl) rfl #[.agg #[.int .i64 t983,.slice Ao16 t984.length co16]] rfl au_ ?_;(with_reducible refine (impl_FirstExtension.calls kj128 t983 _ _ t984 t1025 true _ ?side1 ?side2 ?side3 A149.out).mono ?_);(case side1=>exact cl_ (Kd.R_reads' HO_992001.out).2.2);(case side2=>exact (Kd.R_reads' HO_992001.out).2.1);(case side3=>first|exact HT.out|exact HT.out.below bb_|(repeat (first|exact HT.out|apply TabOK.drewN|apply TabOK.drew|apply TabOK.alloc)));rintro e w181 ⟨v1026,rfl,ho0,hb⟩;refine ⟨_,rfl,?_⟩;have HO1027:=A_ (Kd.R_lower (Kd.R_new' (Kd.R_new' (Kd.R_new' (Kd.R_new' (Kd.R_new' (Kd.R_new' ho0 (Kd.R_lt (rl_ HO_992001))) (Kd.R_lt (rl_ HO_993001))) (Kd.R_lt (rl_ HO_999001))) (Kd.R_lt (rl_ HO_1005001))) (Kd.R_lt (rl_ HO_1011001))) (Kd.R_lt (rl_ HO_1017001))) (below_size bb_));replace HO_992001:=A_ (Kd.R_elder' (rl_ HO_992001) (Kd.R_base ho0) hb);replace HO_993001:=A_ (Kd.R_elder' (rl_ HO_993001) (Kd.R_base ho0) hb);replace HO_999001:=A_ (Kd.R_elder' (rl_ HO_999001) (Kd.R_base ho0) hb);replace HO_1005001:=A_ (Kd.R_elder' (rl_ HO_1005001) (Kd.R_base ho0) hb);replace HO_1011001:=A_ (Kd.R_elder' (rl_ HO_1011001) (Kd.R_base ho0) hb);replace HO_1017001:=A_ (Kd.R_elder' (rl_ HO_1017001) (Kd.R_base ho0) hb);replace BK991:=bz BK991 hb;replace BK992:=bz BK992 hb;replace BK998:=bz BK998 hb;replace BK1004:=bz BK1004 hb;replace BK1010:=bz BK1010 hb;replace BK1016:=bz BK1016 hb;replace HB:=A_ (below_step bb_ hb);(try clear hb);(try clear hb2);(try clear hk);(try clear hi);(try clear ho0);have hcz182_0 : w181.cell? ⟨gb991,0,none⟩ = some (.int .i64 t983):=blk_cell BK991.out 0;have hcz182_1 : w181.cell? ⟨gb991,1,none⟩ = some (.slice Ao16 t984.length co16):=blk_cell BK991.out 1;have hfz182_0:=blk_frozen BK991.out 0;have hfz182_1:=blk_frozen BK991.out 1;obtain ⟨Ao183,co183,eo183⟩:=Kd.R_slice HO1027.out;subst eo183)|((with_reducible refine gate_callee (f:=50) rfl ?_);refine goesL_ (some 120) rfl rfl Tryd.func50 (by kernel_rfl) rfl #[.agg #[.int .i64 t983,.slice Ao16 t984.length co16],.slice Ao183 t1025.length co183] rfl au_ ?_;(with_reducible refine (impl_IsExtension.calls kj128 t983 _ _ t984 _ _ t1025 false true _ ?side1 ?side2 ?side3 ?side4 ?side5 A150.out).mono ?_);(case side1=>exact cl_ (Kd.R_reads' HO_992001.out).2.2);(case side2=>exact (Kd.R_reads' HO_992001.out).2.1);(case side3=>exact cl_ (Kd.R_reads' HO1027.out).2.2);(case side4=>exact (Kd.R_reads' HO1027.out).2.1);(case side5=>first|exact HT.out|exact HT.out.below bb_|(repeat (first|exact HT.out|apply TabOK.drewN|apply TabOK.drew|apply TabOK.alloc)));rintro e w184 ⟨rfl,hb⟩;refine ⟨_,rfl,?_⟩;replace HO_992001:=rb_ HO_992001 hb;replace HO_993001:=rb_ HO_993001 hb;replace HO_999001:=rb_ HO_999001 hb;replace HO_1005001:=rb_ HO_1005001 hb;replace HO_1011001:=rb_ HO_1011001 hb;replace HO_1017001:=rb_ HO_1017001 hb;replace HO1027:=rb_ HO1027 hb;replace BK991:=bz BK991 hb;replace BK992:=bz BK992 hb;replace BK998:=bz BK998 hb;replace BK1004:=bz BK1004 hb;replace BK1010:=bz BK1010 hb;replace BK1016:=bz BK1016 hb;replace HB:=A_ (below_step bb_ hb);(try clear hb);(try clear hb2);(try clear hk);(try clear hi)))
             go_ret
             exact ⟨by first|rfl|(simp [errW_none,errW_some] <;> rfl)|(simp [*,errW_none,errW_some] <;> rfl),bb_⟩
           ·replace c152:=Bool.eq_false_iff.mpr c152;subst c152;have H1 : (some false) = some r:=by rw [if_neg (show ¬ (false = true) by decide)] at H;exact H
            clear H;have H:=H1;clear H1;obtain rfl:=Option.some.inj H;have hnb185:=NB991_992.out;have hnc185:=NB992_991.out;have hnb186:=NB991_998.out;have hnc186:=NB998_991.out;have hnb187:=NB991_1004.out;have hnc187:=NB1004_991.out;have hnb188:=NB991_1010.out;have hnc188:=NB1010_991.out;have hnb189:=NB991_1016.out;have hnc189:=NB1016_991.out;have hcz190_0 : wc.cell? ⟨gb991,0,none⟩ = some (.int .i64 t983):=blk_cell BK991.out 0;have hcz190_1 : wc.cell? ⟨gb991,1,none⟩ = some (.slice Ao16 t984.length co16):=blk_cell BK991.out 1;have hfz190_0:=blk_frozen BK991.out 0;have hfz190_1:=blk_frozen BK991.out 1;go_wp2_with (first|((with_reducible refine gate_callee (f:=49) rfl ?_);refine goesL_ (some 114) rfl rfl Tryd.func49 (by kernel_rfl) rfl #[.agg #[.int .i64 t983,.slice Ao16 t984.length co16]] rfl au_ ?_;(with_reducible refine (impl_FirstExtension.calls kj128 t983 _ _ t984 t1025 true _ ?side1 ?side2 ?side3 A149.out).mono ?_);(case side1=>exact cl_ (Kd.R_reads' HO_992001.out).2.2);(case side2=>exact (Kd.R_reads' HO_992001.out).2.1);(case side3=>first|exact HT.out|exact HT.out.below bb_|(repeat (first|exact HT.out|apply TabOK.drewN|apply TabOK.drew|apply TabOK.alloc)));rintro e w191 ⟨v1026,rfl,ho0,hb⟩;refine ⟨_,rfl,?_⟩;have HO1027:=A_ (Kd.R_lower (Kd.R_new' (Kd.R_new' (Kd.R_new' (Kd.R_new' (Kd.R_new' (Kd.R_new' ho0 (Kd.R_lt (rl_ HO_992001))) (Kd.R_lt (rl_ HO_993001))) (Kd.R_lt (rl_ HO_999001))) (Kd.R_lt (rl_ HO_1005001))) (Kd.R_lt (rl_ HO_1011001))) (Kd.R_lt (rl_ HO_1017001))) (below_size bb_));replace HO_992001:=A_ (Kd.R_elder' (rl_ HO_992001) (Kd.R_base ho0) hb);replace HO_993001:=A_ (Kd.R_elder' (rl_ HO_993001) (Kd.R_base ho0) hb);replace HO_999001:=A_ (Kd.R_elder' (rl_ HO_999001) (Kd.R_base ho0) hb);replace HO_1005001:=A_ (Kd.R_elder' (rl_ HO_1005001) (Kd.R_base ho0) hb);replace HO_1011001:=A_ (Kd.R_elder' (rl_ HO_1011001) (Kd.R_base ho0) hb);replace HO_1017001:=A_ (Kd.R_elder' (rl_ HO_1017001) (Kd.R_base ho0) hb);replace BK991:=bz BK991 hb;replace BK992:=bz BK992 hb;replace BK998:=bz BK998 hb;replace BK1004:=bz BK1004 hb;replace BK1010:=bz BK1010 hb;replace BK1016:=bz BK1016 hb;replace HB:=A_ (below_step bb_ hb);(try clear hb);(try clear hb2);(try clear hk);(try clear hi);(try clear ho0);have hcz192_0 : w191.cell? ⟨gb991,0,none⟩ = some (.int .i64 t983):=blk_cell BK991.out 0;have hcz192_1 : w191.cell? ⟨gb991,1,none⟩ = some (.slice Ao16 t984.length co16):=blk_cell BK991.out 1;have hfz192_0:=blk_frozen BK991.out 0;have hfz192_1:=blk_frozen BK991.out 1;obtain ⟨Ao193,co193,eo193⟩:=Kd.R_slice HO1027.out;subst eo193)|((with_reducible refine gate_callee (f:=50) rfl ?_);refine goesL_ (some 120) rfl rfl Tryd.func50 (by kernel_rfl) rfl #[.agg #[.int .i64 t983,.slice Ao16 t984.length co16],.slice Ao193 t1025.length co193] rfl au_ ?_;(with_reducible refine (impl_IsExtension.calls kj128 t983 _ _ t984 _ _ t1025 t1029 false _ ?side1 ?side2 ?side3 ?side4 ?side5 A150.out).mono ?_);(case side1=>exact cl_ (Kd.R_reads' HO_992001.out).2.2);(case side2=>exact (Kd.R_reads' HO_992001.out).2.1);(case side3=>exact cl_ (Kd.R_reads' HO1027.out).2.2);(case side4=>exact (Kd.R_reads' HO1027.out).2.1);(case side5=>first|exact HT.out|exact HT.out.below bb_|(repeat (first|exact HT.out|apply TabOK.drewN|apply TabOK.drew|apply TabOK.alloc)));rintro e w194 ⟨rfl,hb⟩;refine ⟨_,rfl,?_⟩;replace HO_992001:=rb_ HO_992001 hb;replace HO_993001:=rb_ HO_993001 hb;replace HO_999001:=rb_ HO_999001 hb;replace HO_1005001:=rb_ HO_1005001 hb;replace HO_1011001:=rb_ HO_1011001 hb;replace HO_1017001:=rb_ HO_1017001 hb;replace HO1027:=rb_ HO1027 hb;replace BK991:=bz BK991 hb;replace BK992:=bz BK992 hb;replace BK998:=bz BK998 hb;replace BK1004:=bz BK1004 hb;replace BK1010:=bz BK1010 hb;replace BK1016:=bz BK1016 hb;replace HB:=A_ (below_step bb_ hb);(try clear hb);(try clear hb2);(try clear hk);(try clear hi)))
            go_ret
            exact ⟨by first|rfl|(simp [errW_none,errW_some] <;> rfl)|(simp [*,errW_none,errW_some] <;> rfl),bb_⟩
          ·replace c151:=Bool.eq_false_iff.mpr c151;subst c151;have H1 : (some false) = some r:=by rw [if_neg (show ¬ (false = true) by decide)] at H;exact H
           clear H;have H:=H1;clear H1;obtain rfl:=Option.some.inj H;have hnb195:=NB991_992.out;have hnc195:=NB992_991.out;have hnb196:=NB991_998.out;have hnc196:=NB998_991.out;have hnb197:=NB991_1004.out;have hnc197:=NB1004_991.out;have hnb198:=NB991_1010.out;have hnc198:=NB1010_991.out;have hnb199:=NB991_1016.out;have hnc199:=NB1016_991.out;have hcz200_0 : wc.cell? ⟨gb991,0,none⟩ = some (.int .i64 t983):=blk_cell BK991.out 0;have hcz200_1 : wc.cell? ⟨gb991,1,none⟩ = some (.slice Ao16 t984.length co16):=blk_cell BK991.out 1;have hfz200_0:=blk_frozen BK991.out 0;have hfz200_1:=blk_frozen BK991.out 1;go_wp2_with (first|((with_reducible refine gate_callee (f:=49) rfl ?_);refine goesL_ (some 114) rfl rfl Tryd.func49 (by kernel_rfl) rfl #[.agg #[.int .i64 t983,.slice Ao16 t984.length co16]] rfl au_ ?_;(with_reducible refine (impl_FirstExtension.calls kj128 t983 _ _ t984 t1025 false _ ?side1 ?side2 ?side3 A149.out).mono ?_);(case side1=>exact cl_ (Kd.R_reads' HO_992001.out).2.2);(case side2=>exact (Kd.R_reads' HO_992001.out).2.1);(case side3=>first|exact HT.out|exact HT.out.below bb_|(repeat (first|exact HT.out|apply TabOK.drewN|apply TabOK.drew|apply TabOK.alloc)));rintro e w201 ⟨v1026,rfl,ho0,hb⟩;refine ⟨_,rfl,?_⟩;have HO1027:=A_ (Kd.R_lower (Kd.R_new' (Kd.R_new' (Kd.R_new' (Kd.R_new' (Kd.R_new' (Kd.R_new' ho0 (Kd.R_lt (rl_ HO_992001))) (Kd.R_lt (rl_ HO_993001))) (Kd.R_lt (rl_ HO_999001))) (Kd.R_lt (rl_ HO_1005001))) (Kd.R_lt (rl_ HO_1011001))) (Kd.R_lt (rl_ HO_1017001))) (below_size bb_));replace HO_992001:=A_ (Kd.R_elder' (rl_ HO_992001) (Kd.R_base ho0) hb);replace HO_993001:=A_ (Kd.R_elder' (rl_ HO_993001) (Kd.R_base ho0) hb);replace HO_999001:=A_ (Kd.R_elder' (rl_ HO_999001) (Kd.R_base ho0) hb);replace HO_1005001:=A_ (Kd.R_elder' (rl_ HO_1005001) (Kd.R_base ho0) hb);replace HO_1011001:=A_ (Kd.R_elder' (rl_ HO_1011001) (Kd.R_base ho0) hb);replace HO_1017001:=A_ (Kd.R_elder' (rl_ HO_1017001) (Kd.R_base ho0) hb);replace BK991:=bz BK991 hb;replace BK992:=bz BK992 hb;replace BK998:=bz BK998 hb;replace BK1004:=bz BK1004 hb;replace BK1010:=bz BK1010 hb;replace BK1016:=bz BK1016 hb;replace HB:=A_ (below_step bb_ hb);(try clear hb);(try clear hb2);(try clear hk);(try clear hi);(try clear ho0);have hcz202_0 : w201.cell? ⟨gb991,0,none⟩ = some (.int .i64 t983):=blk_cell BK991.out 0;have hcz202_1 : w201.cell? ⟨gb991,1,none⟩ = some (.slice Ao16 t984.length co16):=blk_cell BK991.out 1;have hfz202_0:=blk_frozen BK991.out 0;have hfz202_1:=blk_frozen BK991.out 1;obtain ⟨Ao203,co203,eo203⟩:=Kd.R_slice HO1027.out;subst eo203)|((with_reducible refine gate_callee (f:=50) rfl ?_);refine goesL_ (some 120) rfl rfl Tryd.func50 (by kernel_rfl) rfl #[.agg #[.int .i64 t983,.slice Ao16 t984.length co16],.slice Ao203 t1025.length co203] rfl au_ ?_;(with_reducible refine (impl_IsExtension.calls kj128 t983 _ _ t984 _ _ t1025 t1029 t1030 _ ?side1 ?side2 ?side3 ?side4 ?side5 A150.out).mono ?_);(case side1=>exact cl_ (Kd.R_reads' HO_992001.out).2.2);(case side2=>exact (Kd.R_reads' HO_992001.out).2.1);(case side3=>exact cl_ (Kd.R_reads' HO1027.out).2.2);(case side4=>exact (Kd.R_reads' HO1027.out).2.1);(case side5=>first|exact HT.out|exact HT.out.below bb_|(repeat (first|exact HT.out|apply TabOK.drewN|apply TabOK.drew|apply TabOK.alloc)));rintro e w204 ⟨rfl,hb⟩;refine ⟨_,rfl,?_⟩;replace HO_992001:=rb_ HO_992001 hb;replace HO_993001:=rb_ HO_993001 hb;replace HO_999001:=rb_ HO_999001 hb;replace HO_1005001:=rb_ HO_1005001 hb;replace HO_1011001:=rb_ HO_1011001 hb;replace HO_1017001:=rb_ HO_1017001 hb;replace HO1027:=rb_ HO1027 hb;replace BK991:=bz BK991 hb;replace BK992:=bz BK992 hb;replace BK998:=bz BK998 hb;replace BK1004:=bz BK1004 hb;replace BK1010:=bz BK1010 hb;replace BK1016:=bz BK1016 hb;replace HB:=A_ (below_step bb_ hb);(try clear hb);(try clear hb2);(try clear hk);(try clear hi)))
           go_ret
           exact ⟨by first|rfl|(simp [errW_none,errW_some] <;> rfl)|(simp [*,errW_none,errW_some] <;> rfl),bb_⟩
         ·replace c148:=Bool.eq_false_iff.mpr c148;subst c148;have H1 : (laws_FnExtensions.j2 kj128 t997 t1019 false t1021 t1022 t983 t984 t987 t988 t993 t994 t1005 t1006) = some r:=by rw [if_neg (show ¬ (false = true) by decide)] at H;exact H
          clear H;have H:=H1;clear H1;have H':=A_ H;clear H;go_wp2
          go_meet
          case rel=>exact ⟨_,H',⟨by have:=HJ9.out;have:=HJ128.out;first|omega|exact Nat.le_refl _⟩,⟨by (with_reducible repeat (first|apply Kd.R_alloc|apply Kd.R_drewN|apply Kd.R_drew));exact HO_992001.out⟩,⟨by (with_reducible repeat (first|apply Kd.R_alloc|apply Kd.R_drewN|apply Kd.R_drew));exact HO_993001.out⟩,⟨by (with_reducible repeat (first|apply Kd.R_alloc|apply Kd.R_drewN|apply Kd.R_drew));exact HO_999001.out⟩,⟨by (with_reducible repeat (first|apply Kd.R_alloc|apply Kd.R_drewN|apply Kd.R_drew));exact HO_1005001.out⟩,⟨by (with_reducible repeat (first|apply Kd.R_alloc|apply Kd.R_drewN|apply Kd.R_drew));exact HO_1011001.out⟩,⟨by (with_reducible repeat (first|apply Kd.R_alloc|apply Kd.R_drewN|apply Kd.R_drew));exact HO_1017001.out⟩,⟨bl_ BK991⟩,⟨bl_ BK992⟩,⟨bl_ BK998⟩,⟨bl_ BK1004⟩,⟨bl_ BK1010⟩,⟨bl_ BK1016⟩,⟨bb_⟩⟩
        case rest =>
         clear HC147;try clear c1
         try clear c2
         try clear p2
         try clear c3
         try clear c4
         try clear c5
         try clear c6
         try clear c7
         try clear c8
         try clear c9
         try clear c10
         try clear c11
         try clear c12
         try clear c13
         try clear c14
         try clear c15
         try clear c16
         try clear c17
         try clear c18
         try clear c19
         try clear c20
         try clear c21
         try clear c22
         try clear c29
         try clear c30
         try clear c31
         try clear c38
         try clear c39
         try clear c40
         try clear c41
         try clear c42
         try clear c43
         try clear c44
         try clear c45
         try clear c46
         try clear c47
         try clear c48
         try clear c49
         try clear c50
         try clear c51
         try clear c52
         try clear c55
         try clear c55b0
         try clear c55b1
         try clear c55b2
         try clear c57
         try clear c58
         try clear c58b0
         try clear c58b1
         try clear c58b2
         try clear c59
         try clear c60
         try clear c61
         try clear c62
         try clear c63
         try clear c65
         try clear c66
         try clear c67
         try clear c68
         try clear c72
         try clear c73
         try clear c74
         try clear c75
         try clear c76
         try clear c77
         try clear c79
         try clear c80
         try clear c81
         try clear c82
         try clear c85
         try clear c86
         try clear c87
         try clear c89
         try clear c90
         try clear c93
         try clear c94
         try clear c95
         try clear c96
         try clear c97
         try clear c99
         try clear c100
         try clear c101
         try clear c102
         try clear c105
         try clear c106
         try clear c107
         try clear c109
         try clear c110
         try clear c113
         try clear c114
         try clear c115
         try clear c116
         try clear c117
         try clear c119
         try clear c120
         try clear c121
         try clear c122
         try clear c125
         try clear c130
         try clear c131
         try clear c132
         try clear c133
         try clear c134
         try clear c137
         try clear c138
         try clear c139
         try clear c140
         try clear c145
         try clear c145b0
         try clear c145b1
         try clear c145b2
         try clear c146
         try clear c148
         try clear c151
         try clear c152
         try clear c153
         try clear c154
         try clear c154b0
         try clear c155
         try clear c156
         try clear c157
         try clear c158
         try clear c159
         try clear c165
         try clear c166
         try clear c167
         try clear c168
         try clear c169
         try clear c175
         try clear c176
         try clear c177
         try clear c178
         try clear c179
         try clear c185
         try clear c186
         try clear c187
         try clear c188
         try clear c189
         try clear c195
         try clear c196
         try clear c197
         try clear c198
         try clear c199
         try clear hcz103_0
         try clear hcz103_1
         try clear hcz108_0
         try clear hcz108_1
         try clear hcz111_0
         try clear hcz111_1
         try clear hcz118_0
         try clear hcz118_1
         try clear hcz123_0
         try clear hcz123_1
         try clear hcz135_0
         try clear hcz135_1
         try clear hcz141_0
         try clear hcz141_1
         try clear hcz143_0
         try clear hcz143_1
         try clear hcz15_0
         try clear hcz15_1
         try clear hcz160_0
         try clear hcz160_1
         try clear hcz162_0
         try clear hcz162_1
         try clear hcz170_0
         try clear hcz170_1
         try clear hcz172_0
         try clear hcz172_1
         try clear hcz17_0
         try clear hcz17_1
         try clear hcz180_0
         try clear hcz180_1
         try clear hcz182_0
         try clear hcz182_1
         try clear hcz190_0
         try clear hcz190_1
         try clear hcz192_0
         try clear hcz192_1
         try clear hcz200_0
         try clear hcz200_1
         try clear hcz202_0
         try clear hcz202_1
         try clear hcz23_0
         try clear hcz23_1
         try clear hcz25_0
         try clear hcz25_1
         try clear hcz26_0
         try clear hcz26_1
         try clear hcz32_0
         try clear hcz32_1
         try clear hcz34_0
         try clear hcz34_1
         try clear hcz35_0
         try clear hcz35_1
         try clear hcz42_0
         try clear hcz42_1
         try clear hcz44_0
         try clear hcz44_1
         try clear hcz45_0
         try clear hcz45_1
         try clear hcz53_0
         try clear hcz53_1
         try clear hcz64_0
         try clear hcz64_1
         try clear hcz69_0
         try clear hcz69_1
         try clear hcz78_0
         try clear hcz78_1
         try clear hcz83_0
         try clear hcz83_1
         try clear hcz88_0
         try clear hcz88_1
         try clear hcz91_0
         try clear hcz91_1
         try clear hcz98_0
         try clear hcz98_1
         try clear hfz103_0
         try clear hfz103_1
         try clear hfz108_0
         try clear hfz108_1
         try clear hfz111_0
         try clear hfz111_1
         try clear hfz118_0
         try clear hfz118_1
         try clear hfz123_0
         try clear hfz123_1
         try clear hfz135_0
         try clear hfz135_1
         try clear hfz141_0
         try clear hfz141_1
         try clear hfz143_0
         try clear hfz143_1
         try clear hfz15_0
         try clear hfz15_1
         try clear hfz160_0
         try clear hfz160_1
         try clear hfz162_0
         try clear hfz162_1
         try clear hfz170_0
         try clear hfz170_1
         try clear hfz172_0
         try clear hfz172_1
         try clear hfz17_0
         try clear hfz17_1
         try clear hfz180_0
         try clear hfz180_1
         try clear hfz182_0
         try clear hfz182_1
         try clear hfz190_0
         try clear hfz190_1
         try clear hfz192_0
         try clear hfz192_1
         try clear hfz200_0
         try clear hfz200_1
         try clear hfz202_0
         try clear hfz202_1
         try clear hfz23_0
         try clear hfz23_1
         try clear hfz25_0
         try clear hfz25_1
         try clear hfz26_0
         try clear hfz26_1
         try clear hfz32_0
         try clear hfz32_1
         try clear hfz34_0
         try clear hfz34_1
         try clear hfz35_0
         try clear hfz35_1
         try clear hfz42_0
         try clear hfz42_1
         try clear hfz44_0
         try clear hfz44_1
         try clear hfz45_0
         try clear hfz45_1
         try clear hfz53_0
         try clear hfz53_1
         try clear hfz64_0
         try clear hfz64_1
         try clear hfz69_0
         try clear hfz69_1
         try clear hfz78_0
         try clear hfz78_1
         try clear hfz83_0
         try clear hfz83_1
         try clear hfz88_0
         try clear hfz88_1
         try clear hfz91_0
         try clear hfz91_1
         try clear hfz98_0
         try clear hfz98_1
         try clear p2
         obtain ⟨kq,HA,HJ146,HO_992001,HO_993001,HO_999001,HO_1005001,HO_1011001,HO_1017001,BK991,BK992,BK998,BK1004,BK1010,BK1016,HB⟩:=hcut;cases kq with
         | zero=>exact absurd HA.out (by simp [laws_FnExtensions.j2])
         | succ kj146 =>
          have H:=HA.out;clear HA;simp only [laws_FnExtensions.j2] at H
          by_cases c205 : t997 = true
          ·subst c205;have H1 : (laws_FnExtensions.l0 kj146 t1019 t1020 t1021 t1022 1 1 t983 t984 t987 t988 t993 t994 t1005 t1006) = some r:=by rw [if_pos rfl] at H;exact H
           clear H;have H:=H1;clear H1;have H':=A_ H;clear H;go_wp2
           go_loopg [25,26] kj146 (fun kq v25 v26 w'=>∃ (x25_4 : Int) (x26_4 : Int),v25 = .int .i64 x25_4 ∧ v26 = .int .i64 x26_4 ∧ Aside0 (laws_FnExtensions.l0 kq t1019 t1020 t1021 t1022 x25_4 x26_4 t983 t984 t987 t988 t993 t994 t1005 t1006 = some r) ∧ Aside0 (kq ≤ kj146) ∧ Aside0 (Kd.R (Kd.int .i64) 3 w' w.heap.size (fun k_=>some k_ ≠ ((.slice Ao18 t988.length co18) : Value).ownBlock ∧ some k_ ≠ ((.slice Ao24 t994.length co24) : Value).ownBlock ∧ some k_ ≠ ((.slice Ao33 t1000.length co33) : Value).ownBlock ∧ some k_ ≠ ((.slice Ao43 t1006.length co43) : Value).ownBlock ∧ some k_ ≠ ((.slice Ao54 t1012.length co54) : Value).ownBlock) (.slice Ao16 t984.length co16) t984) ∧ Aside0 (Kd.R (Kd.int .i64) 3 w' w.heap.size (fun k_=>some k_ ≠ ((.slice Ao16 t984.length co16) : Value).ownBlock ∧ some k_ ≠ ((.slice Ao24 t994.length co24) : Value).ownBlock ∧ some k_ ≠ ((.slice Ao33 t1000.length co33) : Value).ownBlock ∧ some k_ ≠ ((.slice Ao43 t1006.length co43) : Value).ownBlock ∧ some k_ ≠ ((.slice Ao54 t1012.length co54) : Value).ownBlock) (.slice Ao18 t988.length co18) t988) ∧ Aside0 (Kd.R (Kd.int .i64) 3 w' w.heap.size (fun k_=>some k_ ≠ ((.slice Ao16 t984.length co16) : Value).ownBlock ∧ some k_ ≠ ((.slice Ao18 t988.length co18) : Value).ownBlock ∧ some k_ ≠ ((.slice Ao33 t1000.length co33) : Value).ownBlock ∧ some k_ ≠ ((.slice Ao43 t1006.length co43) : Value).ownBlock ∧ some k_ ≠ ((.slice Ao54 t1012.length co54) : Value).ownBlock) (.slice Ao24 t994.length co24) t994) ∧ Aside0 (Kd.R (Kd.int .i64) 3 w' w.heap.size (fun k_=>some k_ ≠ ((.slice Ao16 t984.length co16) : Value).ownBlock ∧ some k_ ≠ ((.slice Ao18 t988.length co18) : Value).ownBlock ∧ some k_ ≠ ((.slice Ao24 t994.length co24) : Value).ownBlock ∧ some k_ ≠ ((.slice Ao43 t1006.length co43) : Value).ownBlock ∧ some k_ ≠ ((.slice Ao54 t1012.length co54) : Value).ownBlock) (.slice Ao33 t1000.length co33) t1000) ∧ Aside0 (Kd.R (Kd.int .i64) 3 w' w.heap.size (fun k_=>some k_ ≠ ((.slice Ao16 t984.length co16) : Value).ownBlock ∧ some k_ ≠ ((.slice Ao18 t988.length co18) : Value).ownBlock ∧ some k_ ≠ ((.slice Ao24 t994.length co24) : Value).ownBlock ∧ some k_ ≠ ((.slice Ao33 t1000.length co33) : Value).ownBlock ∧ some k_ ≠ ((.slice Ao54 t1012.length co54) : Value).ownBlock) (.slice Ao43 t1006.length co43) t1006) ∧ Aside0 (Kd.R (Kd.int .i64) 3 w' w.heap.size (fun k_=>some k_ ≠ ((.slice Ao16 t984.length co16) : Value).ownBlock ∧ some k_ ≠ ((.slice Ao18 t988.length co18) : Value).ownBlock ∧ some k_ ≠ ((.slice Ao24 t994.length co24) : Value).ownBlock ∧ some k_ ≠ ((.slice Ao33 t1000.length co33) : Value).ownBlock ∧ some k_ ≠ ((.slice Ao43 t1006.length co43) : Value).ownBlock) (.slice Ao54 t1012.length co54) t1012) ∧ Aside0 (w'.heap[gb991]? = some (.cells #[.int .i64 t983,(.slice Ao16 t984.length co16)] 26 (0,0))) ∧ Aside0 (w'.heap[gb992]? = some (.cells #[.int .i64 t987,(.slice Ao18 t988.length co18)] 26 (0,0))) ∧ Aside0 (w'.heap[gb998]? = some (.cells #[.int .i64 t993,(.slice Ao24 t994.length co24)] 26 (0,0))) ∧ Aside0 (w'.heap[gb1004]? = some (.cells #[.int .i64 t999,(.slice Ao33 t1000.length co33)] 26 (0,0))) ∧ Aside0 (w'.heap[gb1010]? = some (.cells #[.int .i64 t1005,(.slice Ao43 t1006.length co43)] 26 (0,0))) ∧ Aside0 (w'.heap[gb1016]? = some (.cells #[.int .i64 t1011,(.slice Ao54 t1012.length co54)] 26 (0,0))) ∧ Aside0 (Below w.heap.size w w'))
           case atStart=>exact ⟨(1),(1),(by first|rfl|(simp;done)|(simp [*];done)),(by first|rfl|(simp;done)|(simp [*];done)),H',⟨Nat.le_refl _⟩,⟨by (with_reducible repeat (first|apply Kd.R_alloc|apply Kd.R_drewN|apply Kd.R_drew));exact HO_992001.out⟩,⟨by (with_reducible repeat (first|apply Kd.R_alloc|apply Kd.R_drewN|apply Kd.R_drew));exact HO_993001.out⟩,⟨by (with_reducible repeat (first|apply Kd.R_alloc|apply Kd.R_drewN|apply Kd.R_drew));exact HO_999001.out⟩,⟨by (with_reducible repeat (first|apply Kd.R_alloc|apply Kd.R_drewN|apply Kd.R_drew));exact HO_1005001.out⟩,⟨by (with_reducible repeat (first|apply Kd.R_alloc|apply Kd.R_drewN|apply Kd.R_drew));exact HO_1011001.out⟩,⟨by (with_reducible repeat (first|apply Kd.R_alloc|apply Kd.R_drewN|apply Kd.R_drew));exact HO_1017001.out⟩,⟨bl_ BK991⟩,⟨bl_ BK992⟩,⟨bl_ BK998⟩,⟨bl_ BK1004⟩,⟨bl_ BK1010⟩,⟨bl_ BK1016⟩,⟨bb_⟩⟩
           case round =>
            clear H';try clear c1
            try clear c2
            try clear p2
            try clear c3
            try clear c4
            try clear c5
            try clear c6
            try clear c7
            try clear c8
            try clear c9
            try clear c10
            try clear c11
            try clear c12
            try clear c13
            try clear c14
            try clear c15
            try clear c16
            try clear c17
            try clear c18
            try clear c19
            try clear c20
            try clear c21
            try clear c22
            try clear c29
            try clear c30
            try clear c31
            try clear c38
            try clear c39
            try clear c40
            try clear c41
            try clear c42
            try clear c43
            try clear c44
            try clear c45
            try clear c46
            try clear c47
            try clear c48
            try clear c49
            try clear c50
            try clear c51
            try clear c52
            try clear c55
            try clear c55b0
            try clear c55b1
            try clear c55b2
            try clear c57
            try clear c58
            try clear c58b0
            try clear c58b1
            try clear c58b2
            try clear c59
            try clear c60
            try clear c61
            try clear c62
            try clear c63
            try clear c65
            try clear c66
            try clear c67
            try clear c68
            try clear c72
            try clear c73
            try clear c74
            try clear c75
            try clear c76
            try clear c77
            try clear c79
            try clear c80
            try clear c81
            try clear c82
            try clear c85
            try clear c86
            try clear c87
            try clear c89
            try clear c90
            try clear c93
            try clear c94
            try clear c95
            try clear c96
            try clear c97
            try clear c99
            try clear c100
            try clear c101
            try clear c102
            try clear c105
            try clear c106
            try clear c107
            try clear c109
            try clear c110
            try clear c113
            try clear c114
            try clear c115
            try clear c116
            try clear c117
            try clear c119
            try clear c120
            try clear c121
            try clear c122
            try clear c125
            try clear c130
            try clear c131
            try clear c132
            try clear c133
            try clear c134
            try clear c137
            try clear c138
            try clear c139
            try clear c140
            try clear c145
            try clear c145b0
            try clear c145b1
            try clear c145b2
            try clear c146
            try clear c148
            try clear c151
            try clear c152
            try clear c153
            try clear c154
            try clear c154b0
            try clear c155
            try clear c156
            try clear c157
            try clear c158
            try clear c159
            try clear c165
            try clear c166
            try clear c167
            try clear c168
            try clear c169
            try clear c175
            try clear c176
            try clear c177
            try clear c178
            try clear c179
            try clear c185
            try clear c186
            try clear c187
            try clear c188
            try clear c189
            try clear c195
            try clear c196
            try clear c197
            try clear c198
            try clear c199
            try clear c205
            try clear hcz103_0
            try clear hcz103_1
            try clear hcz108_0
            try clear hcz108_1
            try clear hcz111_0
            try clear hcz111_1
            try clear hcz118_0
            try clear hcz118_1
            try clear hcz123_0
            try clear hcz123_1
            try clear hcz135_0
            try clear hcz135_1
            try clear hcz141_0
            try clear hcz141_1
            try clear hcz143_0
            try clear hcz143_1
            try clear hcz15_0
            try clear hcz15_1
            try clear hcz160_0
            try clear hcz160_1
            try clear hcz162_0
            try clear hcz162_1
            try clear hcz170_0
            try clear hcz170_1
            try clear hcz172_0
            try clear hcz172_1
            try clear hcz17_0
            try clear hcz17_1
            try clear hcz180_0
            try clear hcz180_1
            try clear hcz182_0
            try clear hcz182_1
            try clear hcz190_0
            try clear hcz190_1
            try clear hcz192_0
            try clear hcz192_1
            try clear hcz200_0
            try clear hcz200_1
            try clear hcz202_0
            try clear hcz202_1
            try clear hcz23_0
            try clear hcz23_1
            try clear hcz25_0
            try clear hcz25_1
            try clear hcz26_0
            try clear hcz26_1
            try clear hcz32_0
            try clear hcz32_1
            try clear hcz34_0
            try clear hcz34_1
            try clear hcz35_0
            try clear hcz35_1
            try clear hcz42_0
            try clear hcz42_1
            try clear hcz44_0
            try clear hcz44_1
            try clear hcz45_0
            try clear hcz45_1
            try clear hcz53_0
            try clear hcz53_1
            try clear hcz64_0
            try clear hcz64_1
            try clear hcz69_0
            try clear hcz69_1
            try clear hcz78_0
            try clear hcz78_1
            try clear hcz83_0
            try clear hcz83_1
            try clear hcz88_0
            try clear hcz88_1
            try clear hcz91_0
            try clear hcz91_1
            try clear hcz98_0
            try clear hcz98_1
            try clear hfz103_0
            try clear hfz103_1
            try clear hfz108_0
            try clear hfz108_1
            try clear hfz111_0
            try clear hfz111_1
            try clear hfz118_0
            try clear hfz118_1
            try clear hfz123_0
            try clear hfz123_1
            try clear hfz135_0
            try clear hfz135_1
            try clear hfz141_0
            try clear hfz141_1
            try clear hfz143_0
            try clear hfz143_1
            try clear hfz15_0
            try clear hfz15_1
            try clear hfz160_0
            try clear hfz160_1
            try clear hfz162_0
            try clear hfz162_1
            try clear hfz170_0
            try clear hfz170_1
            try clear hfz172_0
            try clear hfz172_1
            try clear hfz17_0
            try clear hfz17_1
            try clear hfz180_0
            try clear hfz180_1
            try clear hfz182_0
            try clear hfz182_1
            try clear hfz190_0
            try clear hfz190_1
            try clear hfz192_0
            try clear hfz192_1
            try clear hfz200_0
            try clear hfz200_1
            try clear hfz202_0
            try clear hfz202_1
            try clear hfz23_0
            try clear hfz23_1
            try clear hfz25_0
            try clear hfz25_1
            try clear hfz26_0
            try clear hfz26_1
            try clear hfz32_0
            try clear hfz32_1
            try clear hfz34_0
            try clear hfz34_1
            try clear hfz35_0
            try clear hfz35_1
            try clear hfz42_0
            try clear hfz42_1
            try clear hfz44_0
            try clear hfz44_1
            try clear hfz45_0
            try clear hfz45_1
            try clear hfz53_0
            try clear hfz53_1
            try clear hfz64_0
            try clear hfz64_1
            try clear hfz69_0
            try clear hfz69_1
            try clear hfz78_0
            try clear hfz78_1
            try clear hfz83_0
            try clear hfz83_1
            try clear hfz88_0
            try clear hfz88_1
            try clear hfz91_0
            try clear hfz91_1
            try clear hfz98_0
            try clear hfz98_1
            try clear p2
            obtain ⟨x25_4,x26_4,rfl,rfl,HA,HK4,HO_992001,HO_993001,HO_999001,HO_1005001,HO_1011001,HO_1017001,BK991,BK992,BK998,BK1004,BK1010,BK1016,HB⟩:=hrel;cases gk with
            | zero=>exact absurd HA.out (by simp [laws_FnExtensions.l0])
            | succ k4 =>
             have H:=HA.out;clear HA;simp only [laws_FnExtensions.l0] at H
             by_cases c206 : x26_4 ≤ t987
             ·rw [if_pos c206] at H;have c206b0 : decide (x26_4 ≤ t987) = true:=decide_eq_true c206;clear c206;by_cases c207 : x26_4 = 0
              ·rw [if_pos c207] at H;exact absurd H (by simp)
              ·rw [if_neg c207] at H;have c207b0 : (x26_4 == 0) = false:=beq_eq_false_iff_ne.mpr c207;have c207b1 : (x26_4 != 0) = true:=bne_iff_ne.mpr c207;have H':=A_ H;clear H;have hnb208:=NB992_991.out;have hnc208:=NB991_992.out;have hnb209:=NB992_998.out;have hnc209:=NB998_992.out;have hnb210:=NB992_1004.out;have hnc210:=NB1004_992.out;have hnb211:=NB992_1010.out;have hnc211:=NB1010_992.out;have hnb212:=NB992_1016.out;have hnc212:=NB1016_992.out;have hcz213_0 : wr.cell? ⟨gb992,0,none⟩ = some (.int .i64 t987):=blk_cell BK992.out 0;have hcz213_1 : wr.cell? ⟨gb992,1,none⟩ = some (.slice Ao18 t988.length co18):=blk_cell BK992.out 1;have hfz213_0:=blk_frozen BK992.out 0;have hfz213_1:=blk_frozen BK992.out 1;have hnb214:=NB991_998.out;have hnc214:=NB998_991.out;have hnb215:=NB991_1004.out;have hnc215:=NB1004_991.out;have hnb216:=NB991_1010.out;have hnc216:=NB1010_991.out;have hnb217:=NB991_1016.out;have hnc217:=NB1016_991.out;have hcz218_0 : wr.cell? ⟨gb991,0,none⟩ = some (.int .i64 t983):=blk_cell BK991.out 0;have hcz218_1 : wr.cell? ⟨gb991,1,none⟩ = some (.slice Ao16 t984.length co16):=blk_cell BK991.out 1;have hfz218_0:=blk_frozen BK991.out 0;have hfz218_1:=blk_frozen BK991.out 1;go_wp2
               go_roundg k4
               case measure=>have:=HJ9.out;have:=HJ128.out;have:=HJ146.out;have:=HK4.out;omega
               case rel=>exact ⟨(wrap64 (Int.tdiv (wrap64 (x25_4 * (wrap64 (t983 + x26_4)))) x26_4)),(wrap64 (x26_4 + 1)),(by first|rfl|(simp;done)|(simp [*];done)),(by first|rfl|(simp;done)|(simp [*];done)),H',⟨by have:=HJ9.out;have:=HJ128.out;have:=HJ146.out;have:=HK4.out;omega⟩,⟨by (with_reducible repeat (first|apply Kd.R_alloc|apply Kd.R_drewN|apply Kd.R_drew));exact HO_992001.out⟩,⟨by (with_reducible repeat (first|apply Kd.R_alloc|apply Kd.R_drewN|apply Kd.R_drew));exact HO_993001.out⟩,⟨by (with_reducible repeat (first|apply Kd.R_alloc|apply Kd.R_drewN|apply Kd.R_drew));exact HO_999001.out⟩,⟨by (with_reducible repeat (first|apply Kd.R_alloc|apply Kd.R_drewN|apply Kd.R_drew));exact HO_1005001.out⟩,⟨by (with_reducible repeat (first|apply Kd.R_alloc|apply Kd.R_drewN|apply Kd.R_drew));exact HO_1011001.out⟩,⟨by (with_reducible repeat (first|apply Kd.R_alloc|apply Kd.R_drewN|apply Kd.R_drew));exact HO_1017001.out⟩,⟨bl_ BK991⟩,⟨bl_ BK992⟩,⟨bl_ BK998⟩,⟨bl_ BK1004⟩,⟨bl_ BK1010⟩,⟨bl_ BK1016⟩,⟨bb_⟩⟩
             ·rw [if_neg c206] at H;have c206b0 : decide (x26_4 ≤ t987) = false:=decide_eq_false c206;clear c206;replace H:=Option.bind_eq_some_iff.mp H;obtain ⟨⟨t1031,t1032⟩,A2190,H⟩:=H;replace H : ((impl_CountExtensions.f k4 t1005 t1006).bind fun bt1033=>(if t1020 = true then (if t1022 = true then (if t1032 = true then (if bt1033.2 = true then (if t1031 = (wrap64 ((wrap64 (x25_4 * t1019)) * t1021)) then (some (bt1033.1 == (wrap64 (t1019 * t1021)))) else (some false)) else (some false)) else (some false)) else (some false)) else (some false))) = some r:=H;have A219:=A_ A2190;clear A2190;replace H:=Option.bind_eq_some_iff.mp H;obtain ⟨⟨t1033,t1034⟩,A2200,H⟩:=H;replace H : (if t1020 = true then (if t1022 = true then (if t1032 = true then (if t1034 = true then (if t1031 = (wrap64 ((wrap64 (x25_4 * t1019)) * t1021)) then (some (t1033 == (wrap64 (t1019 * t1021)))) else (some false)) else (some false)) else (some false)) else (some false)) else (some false)) = some r:=H;have A220:=A_ A2200;clear A2200;by_cases c221 : t1020 = true
              ·subst c221;have H1 : (if t1022 = true then (if t1032 = true then (if t1034 = true then (if t1031 = (wrap64 ((wrap64 (x25_4 * t1019)) * t1021)) then (some (t1033 == (wrap64 (t1019 * t1021)))) else (some false)) else (some false)) else (some false)) else (some false)) = some r:=by rw [if_pos rfl] at H;exact H
               clear H;have H:=H1;clear H1;by_cases c222 : t1022 = true
               ·subst c222;have H1 : (if t1032 = true then (if t1034 = true then (if t1031 = (wrap64 ((wrap64 (x25_4 * t1019)) * t1021)) then (some (t1033 == (wrap64 (t1019 * t1021)))) else (some false)) else (some false)) else (some false)) = some r:=by rw [if_pos rfl] at H;exact H
                clear H;have H:=H1;clear H1;by_cases c223 : t1032 = true
                ·subst c223;have H1 : (if t1034 = true then (if t1031 = (wrap64 ((wrap64 (x25_4 * t1019)) * t1021)) then (some (t1033 == (wrap64 (t1019 * t1021)))) else (some false)) else (some false)) = some r:=by rw [if_pos rfl] at H;exact H
                 clear H;have H:=H1;clear H1;by_cases c224 : t1034 = true
                 ·subst c224;have H1 : (if t1031 = (wrap64 ((wrap64 (x25_4 * t1019)) * t1021)) then (some (t1033 == (wrap64 (t1019 * t1021)))) else (some false)) = some r:=by rw [if_pos rfl] at H;exact H
                  clear H;have H:=H1;clear H1;by_cases c225 : t1031 = (wrap64 ((wrap64 (x25_4 * t1019)) * t1021))
                  ·rw [if_pos c225] at H;have c225b0 : (t1031 == (wrap64 ((wrap64 (x25_4 * t1019)) * t1021))) = true:=beq_iff_eq.mpr c225;have c225b1 : (t1031 != (wrap64 ((wrap64 (x25_4 * t1019)) * t1021))) = false:=bne_eq_false_iff_eq.mpr c225;clear c225;obtain rfl:=Option.some.inj H;have hnb226:=NB992_991.out;have hnc226:=NB991_992.out;have hnb227:=NB992_998.out;have hnc227:=NB998_992.out;have hnb228:=NB992_1004.out;have hnc228:=NB1004_992.out;have hnb229:=NB992_1010.out;have hnc229:=NB1010_992.out;have hnb230:=NB992_1016.out;have hnc230:=NB1016_992.out;have hcz231_0 : wr.cell? ⟨gb992,0,none⟩ = some (.int .i64 t987):=blk_cell BK992.out 0;have hcz231_1 : wr.cell? ⟨gb992,1,none⟩ = some (.slice Ao18 t988.length co18):=blk_cell BK992.out 1;have hfz231_0:=blk_frozen BK992.out 0;have hfz231_1:=blk_frozen BK992.out 1;have hnb232:=NB998_991.out;have hnc232:=NB991_998.out;have hnb233:=NB998_1004.out;have hnc233:=NB1004_998.out;have hnb234:=NB998_1010.out;have hnc234:=NB1010_998.out;have hnb235:=NB998_1016.out;have hnc235:=NB1016_998.out;have hcz236_0 : wr.cell? ⟨gb998,0,none⟩ = some (.int .i64 t993):=blk_cell BK998.out 0;have hcz236_1 : wr.cell? ⟨gb998,1,none⟩ = some (.slice Ao24 t994.length co24):=blk_cell BK998.out 1;have hfz236_0:=blk_frozen BK998.out 0;have hfz236_1:=blk_frozen BK998.out 1;go_wp2_with (first|((with_reducible refine gate_callee (f:=47) rfl ?_);refine goesL_ (some 155) rfl rfl Tryd.func47 (by kernel_rfl) rfl #[.agg #[.int .i64 t993,.slice Ao24 t994.length co24]] rfl au_ ?_;(with_reducible refine (impl_CountExtensions.calls k4 t993 _ _ t994 t1031 true _ ?side1 ?side2 ?side3 A219.out).mono ?_);(case side1=>exact cl_ (Kd.R_reads' HO_999001.out).2.2);(case side2=>exact (Kd.R_reads' HO_999001.out).2.1);(case side3=>first|exact HT.out|exact HT.out.below bb_|(repeat (first|exact HT.out|apply TabOK.drewN|apply TabOK.drew|apply TabOK.alloc)));rintro e w237 ⟨rfl,hb⟩;refine ⟨_,rfl,?_⟩;replace HO_992001:=rb_ HO_992001 hb;replace HO_993001:=rb_ HO_993001 hb;replace HO_999001:=rb_ HO_999001 hb;replace HO_1005001:=rb_ HO_1005001 hb;replace HO_1011001:=rb_ HO_1011001 hb;replace HO_1017001:=rb_ HO_1017001 hb;replace BK991:=bz BK991 hb;replace BK992:=bz BK992 hb;replace BK998:=bz BK998 hb;replace BK1004:=bz BK1004 hb;replace BK1010:=bz BK1010 hb;replace BK1016:=bz BK1016 hb;replace HB:=A_ (below_step bb_ hb);(try clear hb);(try clear hb2);(try clear hk);(try clear hi);have hnb238:=NB1010_991.out;have hnc238:=NB991_1010.out;have hnb239:=NB1010_1004.out;have hnc239:=NB1004_1010.out;have hnb240:=NB1010_1016.out;have hnc240:=NB1016_1010.out;have hcz241_0 : w237.cell? ⟨gb1010,0,none⟩ = some (.int .i64 t1005):=blk_cell BK1010.out 0;have hcz241_1 : w237.cell? ⟨gb1010,1,none⟩ = some (.slice Ao43 t1006.length co43):=blk_cell BK1010.out 1;have hfz241_0:=blk_frozen BK1010.out 0;have hfz241_1:=blk_frozen BK1010.out 1)|((with_reducible refine gate_callee (f:=47) rfl ?_);refine goesL_ (some 160) rfl rfl Tryd.func47 (by kernel_rfl) rfl #[.agg #[.int .i64 t1005,.slice Ao43 t1006.length co43]] rfl au_ ?_;(with_reducible refine (impl_CountExtensions.calls k4 t1005 _ _ t1006 t1033 true _ ?side1 ?side2 ?side3 A220.out).mono ?_);(case side1=>exact cl_ (Kd.R_reads' HO_1011001.out).2.2);(case side2=>exact (Kd.R_reads' HO_1011001.out).2.1);(case side3=>first|exact HT.out|exact HT.out.below bb_|(repeat (first|exact HT.out|apply TabOK.drewN|apply TabOK.drew|apply TabOK.alloc)));rintro e w242 ⟨rfl,hb⟩;refine ⟨_,rfl,?_⟩;replace HO_992001:=rb_ HO_992001 hb;replace HO_993001:=rb_ HO_993001 hb;replace HO_999001:=rb_ HO_999001 hb;replace HO_1005001:=rb_ HO_1005001 hb;replace HO_1011001:=rb_ HO_1011001 hb;replace HO_1017001:=rb_ HO_1017001 hb;replace BK991:=bz BK991 hb;replace BK992:=bz BK992 hb;replace BK998:=bz BK998 hb;replace BK1004:=bz BK1004 hb;replace BK1010:=bz BK1010 hb;replace BK1016:=bz BK1016 hb;replace HB:=A_ (below_step bb_ hb);(try clear hb);(try clear hb2);(try clear hk);(try clear hi)))
                   go_ret
                   exact ⟨by first|rfl|(simp [errW_none,errW_some] <;> rfl)|(simp [*,errW_none,errW_some] <;> rfl),bb_⟩
                  ·rw [if_neg c225] at H;have c225b0 : (t1031 == (wrap64 ((wrap64 (x25_4 * t1019)) * t1021))) = false:=beq_eq_false_iff_ne.mpr c225;have c225b1 : (t1031 != (wrap64 ((wrap64 (x25_4 * t1019)) * t1021))) = true:=bne_iff_ne.mpr c225;obtain rfl:=Option.some.inj H;have hnb243:=NB992_991.out;have hnc243:=NB991_992.out;have hnb244:=NB992_998.out;have hnc244:=NB998_992.out;have hnb245:=NB992_1004.out;have hnc245:=NB1004_992.out;have hnb246:=NB992_1010.out;have hnc246:=NB1010_992.out;have hnb247:=NB992_1016.out;have hnc247:=NB1016_992.out;have hcz248_0 : wr.cell? ⟨gb992,0,none⟩ = some (.int .i64 t987):=blk_cell BK992.out 0;have hcz248_1 : wr.cell? ⟨gb992,1,none⟩ = some (.slice Ao18 t988.length co18):=blk_cell BK992.out 1;have hfz248_0:=blk_frozen BK992.out 0;have hfz248_1:=blk_frozen BK992.out 1;have hnb249:=NB998_991.out;have hnc249:=NB991_998.out;have hnb250:=NB998_1004.out;have hnc250:=NB1004_998.out;have hnb251:=NB998_1010.out;have hnc251:=NB1010_998.out;have hnb252:=NB998_1016.out;have hnc252:=NB1016_998.out;have hcz253_0 : wr.cell? ⟨gb998,0,none⟩ = some (.int .i64 t993):=blk_cell BK998.out 0;have hcz253_1 : wr.cell? ⟨gb998,1,none⟩ = some (.slice Ao24 t994.length co24):=blk_cell BK998.out 1;have hfz253_0:=blk_frozen BK998.out 0;have hfz253_1:=blk_frozen BK998.out 1;go_wp2_with (first|((with_reducible refine gate_callee (f:=47) rfl ?_);refine goesL_ (some 155) rfl rfl Tryd.func47 (by kernel_rfl) rfl #[.agg #[.int .i64 t993,.slice Ao24 t994.length co24]] rfl au_ ?_;(with_reducible refine (impl_CountExtensions.calls k4 t993 _ _ t994 t1031 true _ ?side1 ?side2 ?side3 A219.out).mono ?_);(case side1=>exact cl_ (Kd.R_reads' HO_999001.out).2.2);(case side2=>exact (Kd.R_reads' HO_999001.out).2.1);(case side3=>first|exact HT.out|exact HT.out.below bb_|(repeat (first|exact HT.out|apply TabOK.drewN|apply TabOK.drew|apply TabOK.alloc)));rintro e w254 ⟨rfl,hb⟩;refine ⟨_,rfl,?_⟩;replace HO_992001:=rb_ HO_992001 hb;replace HO_993001:=rb_ HO_993001 hb;replace HO_999001:=rb_ HO_999001 hb;replace HO_1005001:=rb_ HO_1005001 hb;replace HO_1011001:=rb_ HO_1011001 hb;replace HO_1017001:=rb_ HO_1017001 hb;replace BK991:=bz BK991 hb;replace BK992:=bz BK992 hb;replace BK998:=bz BK998 hb;replace BK1004:=bz BK1004 hb;replace BK1010:=bz BK1010 hb;replace BK1016:=bz BK1016 hb;replace HB:=A_ (below_step bb_ hb);(try clear hb);(try clear hb2);(try clear hk);(try clear hi);have hnb255:=NB1010_991.out;have hnc255:=NB991_1010.out;have hnb256:=NB1010_1004.out;have hnc256:=NB1004_1010.out;have hnb257:=NB1010_1016.out;have hnc257:=NB1016_1010.out;have hcz258_0 : w254.cell? ⟨gb1010,0,none⟩ = some (.int .i64 t1005):=blk_cell BK1010.out 0;have hcz258_1 : w254.cell? ⟨gb1010,1,none⟩ = some (.slice Ao43 t1006.length co43):=blk_cell BK1010.out 1;have hfz258_0:=blk_frozen BK1010.out 0;have hfz258_1:=blk_frozen BK1010.out 1)|((with_reducible refine gate_callee (f:=47) rfl ?_);refine goesL_ (some 160) rfl rfl Tryd.func47 (by kernel_rfl) rfl #[.agg #[.int .i64 t1005,.slice Ao43 t1006.length co43]] rfl au_ ?_;(with_reducible refine (impl_CountExtensions.calls k4 t1005 _ _ t1006 t1033 true _ ?side1 ?side2 ?side3 A220.out).mono ?_);(case side1=>exact cl_ (Kd.R_reads' HO_1011001.out).2.2);(case side2=>exact (Kd.R_reads' HO_1011001.out).2.1);(case side3=>first|exact HT.out|exact HT.out.below bb_|(repeat (first|exact HT.out|apply TabOK.drewN|apply TabOK.drew|apply TabOK.alloc)));rintro e w259 ⟨rfl,hb⟩;refine ⟨_,rfl,?_⟩;replace HO_992001:=rb_ HO_992001 hb;replace HO_993001:=rb_ HO_993001 hb;replace HO_999001:=rb_ HO_999001 hb;replace HO_1005001:=rb_ HO_1005001 hb;replace HO_1011001:=rb_ HO_1011001 hb;replace HO_1017001:=rb_ HO_1017001 hb;replace BK991:=bz BK991 hb;replace BK992:=bz BK992 hb;replace BK998:=bz BK998 hb;replace BK1004:=bz BK1004 hb;replace BK1010:=bz BK1010 hb;replace BK1016:=bz BK1016 hb;replace HB:=A_ (below_step bb_ hb);(try clear hb);(try clear hb2);(try clear hk);(try clear hi)))
                   go_ret
                   exact ⟨by first|rfl|(simp [errW_none,errW_some] <;> rfl)|(simp [*,errW_none,errW_some] <;> rfl),bb_⟩
                 ·replace c224:=Bool.eq_false_iff.mpr c224;subst c224;have H1 : (some false) = some r:=by rw [if_neg (show ¬ (false = true) by decide)] at H;exact H
                  clear H;have H:=H1;clear H1;obtain rfl:=Option.some.inj H;have hnb260:=NB992_991.out;have hnc260:=NB991_992.out;have hnb261:=NB992_998.out;have hnc261:=NB998_992.out;have hnb262:=NB992_1004.out;have hnc262:=NB1004_992.out;have hnb263:=NB992_1010.out;have hnc263:=NB1010_992.out;have hnb264:=NB992_1016.out;have hnc264:=NB1016_992.out;have hcz265_0 : wr.cell? ⟨gb992,0,none⟩ = some (.int .i64 t987):=blk_cell BK992.out 0;have hcz265_1 : wr.cell? ⟨gb992,1,none⟩ = some (.slice Ao18 t988.length co18):=blk_cell BK992.out 1;have hfz265_0:=blk_frozen BK992.out 0;have hfz265_1:=blk_frozen BK992.out 1;have hnb266:=NB998_991.out;have hnc266:=NB991_998.out;have hnb267:=NB998_1004.out;have hnc267:=NB1004_998.out;have hnb268:=NB998_1010.out;have hnc268:=NB1010_998.out;have hnb269:=NB998_1016.out;have hnc269:=NB1016_998.out;have hcz270_0 : wr.cell? ⟨gb998,0,none⟩ = some (.int .i64 t993):=blk_cell BK998.out 0;have hcz270_1 : wr.cell? ⟨gb998,1,none⟩ = some (.slice Ao24 t994.length co24):=blk_cell BK998.out 1;have hfz270_0:=blk_frozen BK998.out 0;have hfz270_1:=blk_frozen BK998.out 1;go_wp2_with (first|((with_reducible refine gate_callee (f:=47) rfl ?_);refine goesL_ (some 155) rfl rfl Tryd.func47 (by kernel_rfl) rfl #[.agg #[.int .i64 t993,.slice Ao24 t994.length co24]] rfl au_ ?_;(with_reducible refine (impl_CountExtensions.calls k4 t993 _ _ t994 t1031 true _ ?side1 ?side2 ?side3 A219.out).mono ?_);(case side1=>exact cl_ (Kd.R_reads' HO_999001.out).2.2);(case side2=>exact (Kd.R_reads' HO_999001.out).2.1);(case side3=>first|exact HT.out|exact HT.out.below bb_|(repeat (first|exact HT.out|apply TabOK.drewN|apply TabOK.drew|apply TabOK.alloc)));rintro e w271 ⟨rfl,hb⟩;refine ⟨_,rfl,?_⟩;replace HO_992001:=rb_ HO_992001 hb;replace HO_993001:=rb_ HO_993001 hb;replace HO_999001:=rb_ HO_999001 hb;replace HO_1005001:=rb_ HO_1005001 hb;replace HO_1011001:=rb_ HO_1011001 hb;replace HO_1017001:=rb_ HO_1017001 hb;replace BK991:=bz BK991 hb;replace BK992:=bz BK992 hb;replace BK998:=bz BK998 hb;replace BK1004:=bz BK1004 hb;replace BK1010:=bz BK1010 hb;replace BK1016:=bz BK1016 hb;replace HB:=A_ (below_step bb_ hb);(try clear hb);(try clear hb2);(try clear hk);(try clear hi);have hnb272:=NB1010_991.out;have hnc272:=NB991_1010.out;have hnb273:=NB1010_1004.out;have hnc273:=NB1004_1010.out;have hnb274:=NB1010_1016.out;have hnc274:=NB1016_1010.out;have hcz275_0 : w271.cell? ⟨gb1010,0,none⟩ = some (.int .i64 t1005):=blk_cell BK1010.out 0;have hcz275_1 : w271.cell? ⟨gb1010,1,none⟩ = some (.slice Ao43 t1006.length co43):=blk_cell BK1010.out 1;have hfz275_0:=blk_frozen BK1010.out 0;have hfz275_1:=blk_frozen BK1010.out 1)|((with_reducible refine gate_callee (f:=47) rfl ?_);refine goesL_ (some 160) rfl rfl Tryd.func47 (by kernel_rfl) rfl #[.agg #[.int .i64 t1005,.slice Ao43 t1006.length co43]] rfl au_ ?_;(with_reducible refine (impl_CountExtensions.calls k4 t1005 _ _ t1006 t1033 false _ ?side1 ?side2 ?side3 A220.out).mono ?_);(case side1=>exact cl_ (Kd.R_reads' HO_1011001.out).2.2);(case side2=>exact (Kd.R_reads' HO_1011001.out).2.1);(case side3=>first|exact HT.out|exact HT.out.below bb_|(repeat (first|exact HT.out|apply TabOK.drewN|apply TabOK.drew|apply TabOK.alloc)));rintro e w276 ⟨rfl,hb⟩;refine ⟨_,rfl,?_⟩;replace HO_992001:=rb_ HO_992001 hb;replace HO_993001:=rb_ HO_993001 hb;replace HO_999001:=rb_ HO_999001 hb;replace HO_1005001:=rb_ HO_1005001 hb;replace HO_1011001:=rb_ HO_1011001 hb;replace HO_1017001:=rb_ HO_1017001 hb;replace BK991:=bz BK991 hb;replace BK992:=bz BK992 hb;replace BK998:=bz BK998 hb;replace BK1004:=bz BK1004 hb;replace BK1010:=bz BK1010 hb;replace BK1016:=bz BK1016 hb;replace HB:=A_ (below_step bb_ hb);(try clear hb);(try clear hb2);(try clear hk);(try clear hi)))
                  go_ret
                  exact ⟨by first|rfl|(simp [errW_none,errW_some] <;> rfl)|(simp [*,errW_none,errW_some] <;> rfl),bb_⟩
                ·replace c223:=Bool.eq_false_iff.mpr c223;subst c223;have H1 : (some false) = some r:=by rw [if_neg (show ¬ (false = true) by decide)] at H;exact H
                 clear H;have H:=H1;clear H1;obtain rfl:=Option.some.inj H;have hnb277:=NB992_991.out;have hnc277:=NB991_992.out;have hnb278:=NB992_998.out;have hnc278:=NB998_992.out;have hnb279:=NB992_1004.out;have hnc279:=NB1004_992.out;have hnb280:=NB992_1010.out;have hnc280:=NB1010_992.out;have hnb281:=NB992_1016.out;have hnc281:=NB1016_992.out;have hcz282_0 : wr.cell? ⟨gb992,0,none⟩ = some (.int .i64 t987):=blk_cell BK992.out 0;have hcz282_1 : wr.cell? ⟨gb992,1,none⟩ = some (.slice Ao18 t988.length co18):=blk_cell BK992.out 1;have hfz282_0:=blk_frozen BK992.out 0;have hfz282_1:=blk_frozen BK992.out 1;have hnb283:=NB998_991.out;have hnc283:=NB991_998.out;have hnb284:=NB998_1004.out;have hnc284:=NB1004_998.out;have hnb285:=NB998_1010.out;have hnc285:=NB1010_998.out;have hnb286:=NB998_1016.out;have hnc286:=NB1016_998.out;have hcz287_0 : wr.cell? ⟨gb998,0,none⟩ = some (.int .i64 t993):=blk_cell BK998.out 0;have hcz287_1 : wr.cell? ⟨gb998,1,none⟩ = some (.slice Ao24 t994.length co24):=blk_cell BK998.out 1;have hfz287_0:=blk_frozen BK998.out 0;have hfz287_1:=blk_frozen BK998.out 1;go_wp2_with (first|((with_reducible refine gate_callee (f:=47) rfl ?_);refine goesL_ (some 155) rfl rfl Tryd.func47 (by kernel_rfl) rfl #[.agg #[.int .i64 t993,.slice Ao24 t994.length co24]] rfl au_ ?_;(with_reducible refine (impl_CountExtensions.calls k4 t993 _ _ t994 t1031 false _ ?side1 ?side2 ?side3 A219.out).mono ?_);(case side1=>exact cl_ (Kd.R_reads' HO_999001.out).2.2);(case side2=>exact (Kd.R_reads' HO_999001.out).2.1);(case side3=>first|exact HT.out|exact HT.out.below bb_|(repeat (first|exact HT.out|apply TabOK.drewN|apply TabOK.drew|apply TabOK.alloc)));rintro e w288 ⟨rfl,hb⟩;refine ⟨_,rfl,?_⟩;replace HO_992001:=rb_ HO_992001 hb;replace HO_993001:=rb_ HO_993001 hb;replace HO_999001:=rb_ HO_999001 hb;replace HO_1005001:=rb_ HO_1005001 hb;replace HO_1011001:=rb_ HO_1011001 hb;replace HO_1017001:=rb_ HO_1017001 hb;replace BK991:=bz BK991 hb;replace BK992:=bz BK992 hb;replace BK998:=bz BK998 hb;replace BK1004:=bz BK1004 hb;replace BK1010:=bz BK1010 hb;replace BK1016:=bz BK1016 hb;replace HB:=A_ (below_step bb_ hb);(try clear hb);(try clear hb2);(try clear hk);(try clear hi);have hnb289:=NB1010_991.out;have hnc289:=NB991_1010.out;have hnb290:=NB1010_1004.out;have hnc290:=NB1004_1010.out;have hnb291:=NB1010_1016.out;have hnc291:=NB1016_1010.out;have hcz292_0 : w288.cell? ⟨gb1010,0,none⟩ = some (.int .i64 t1005):=blk_cell BK1010.out 0;have hcz292_1 : w288.cell? ⟨gb1010,1,none⟩ = some (.slice Ao43 t1006.length co43):=blk_cell BK1010.out 1;have hfz292_0:=blk_frozen BK1010.out 0;have hfz292_1:=blk_frozen BK1010.out 1)|((with_reducible refine gate_callee (f:=47) rfl ?_);refine goesL_ (some 160) rfl rfl Tryd.func47 (by kernel_rfl) rfl #[.agg #[.int .i64 t1005,.slice Ao43 t1006.length co43]] rfl au_ ?_;(with_reducible refine (impl_CountExtensions.calls k4 t1005 _ _ t1006 t1033 t1034 _ ?side1 ?side2 ?side3 A220.out).mono ?_);(case side1=>exact cl_ (Kd.R_reads' HO_1011001.out).2.2);(case side2=>exact (Kd.R_reads' HO_1011001.out).2.1);(case side3=>first|exact HT.out|exact HT.out.below bb_|(repeat (first|exact HT.out|apply TabOK.drewN|apply TabOK.drew|apply TabOK.alloc)));rintro e w293 ⟨rfl,hb⟩;refine ⟨_,rfl,?_⟩;replace HO_992001:=rb_ HO_992001 hb;replace HO_993001:=rb_ HO_993001 hb;replace HO_999001:=rb_ HO_999001 hb;replace HO_1005001:=rb_ HO_1005001 hb;replace HO_1011001:=rb_ HO_1011001 hb;replace HO_1017001:=rb_ HO_1017001 hb;replace BK991:=bz BK991 hb;replace BK992:=bz BK992 hb;replace BK998:=bz BK998 hb;replace BK1004:=bz BK1004 hb;replace BK1010:=bz BK1010 hb;replace BK1016:=bz BK1016 hb;replace HB:=A_ (below_step bb_ hb);(try clear hb);(try clear hb2);(try clear hk);(try clear hi)))
                 go_ret
                 exact ⟨by first|rfl|(simp [errW_none,errW_some] <;> rfl)|(simp [*,errW_none,errW_some] <;> rfl),bb_⟩
               ·replace c222:=Bool.eq_false_iff.mpr c222;subst c222;have H1 : (some false) = some r:=by rw [if_neg (show ¬ (false = true) by decide)] at H;exact H
                clear H;have H:=H1;clear H1;obtain rfl:=Option.some.inj H;have hnb294:=NB992_991.out;have hnc294:=NB991_992.out;have hnb295:=NB992_998.out;have hnc295:=NB998_992.out;have hnb296:=NB992_1004.out;have hnc296:=NB1004_992.out;have hnb297:=NB992_1010.out;have hnc297:=NB1010_992.out;have hnb298:=NB992_1016.out;have hnc298:=NB1016_992.out;have hcz299_0 : wr.cell? ⟨gb992,0,none⟩ = some (.int .i64 t987):=blk_cell BK992.out 0;have hcz299_1 : wr.cell? ⟨gb992,1,none⟩ = some (.slice Ao18 t988.length co18):=blk_cell BK992.out 1;have hfz299_0:=blk_frozen BK992.out 0;have hfz299_1:=blk_frozen BK992.out 1;have hnb300:=NB998_991.out;have hnc300:=NB991_998.out;have hnb301:=NB998_1004.out;have hnc301:=NB1004_998.out;have hnb302:=NB998_1010.out;have hnc302:=NB1010_998.out;have hnb303:=NB998_1016.out;have hnc303:=NB1016_998.out;have hcz304_0 : wr.cell? ⟨gb998,0,none⟩ = some (.int .i64 t993):=blk_cell BK998.out 0;have hcz304_1 : wr.cell? ⟨gb998,1,none⟩ = some (.slice Ao24 t994.length co24):=blk_cell BK998.out 1;have hfz304_0:=blk_frozen BK998.out 0;have hfz304_1:=blk_frozen BK998.out 1;go_wp2_with (first|((with_reducible refine gate_callee (f:=47) rfl ?_);refine goesL_ (some 155) rfl rfl Tryd.func47 (by kernel_rfl) rfl #[.agg #[.int .i64 t993,.slice Ao24 t994.length co24]] rfl au_ ?_;(with_reducible refine (impl_CountExtensions.calls k4 t993 _ _ t994 t1031 t1032 _ ?side1 ?side2 ?side3 A219.out).mono ?_);(case side1=>exact cl_ (Kd.R_reads' HO_999001.out).2.2);(case side2=>exact (Kd.R_reads' HO_999001.out).2.1);(case side3=>first|exact HT.out|exact HT.out.below bb_|(repeat (first|exact HT.out|apply TabOK.drewN|apply TabOK.drew|apply TabOK.alloc)));rintro e w305 ⟨rfl,hb⟩;refine ⟨_,rfl,?_⟩;replace HO_992001:=rb_ HO_992001 hb;replace HO_993001:=rb_ HO_993001 hb;replace HO_999001:=rb_ HO_999001 hb;replace HO_1005001:=rb_ HO_1005001 hb;replace HO_1011001:=rb_ HO_1011001 hb;replace HO_1017001:=rb_ HO_1017001 hb;replace BK991:=bz BK991 hb;replace BK992:=bz BK992 hb;replace BK998:=bz BK998 hb;replace BK1004:=bz BK1004 hb;replace BK1010:=bz BK1010 hb;replace BK1016:=bz BK1016 hb;replace HB:=A_ (below_step bb_ hb);(try clear hb);(try clear hb2);(try clear hk);(try clear hi);have hnb306:=NB1010_991.out;have hnc306:=NB991_1010.out;have hnb307:=NB1010_1004.out;have hnc307:=NB1004_1010.out;have hnb308:=NB1010_1016.out;have hnc308:=NB1016_1010.out;have hcz309_0 : w305.cell? ⟨gb1010,0,none⟩ = some (.int .i64 t1005):=blk_cell BK1010.out 0;have hcz309_1 : w305.cell? ⟨gb1010,1,none⟩ = some (.slice Ao43 t1006.length co43):=blk_cell BK1010.out 1;have hfz309_0:=blk_frozen BK1010.out 0;have hfz309_1:=blk_frozen BK1010.out 1)|((with_reducible refine gate_callee (f:=47) rfl ?_);refine goesL_ (some 160) rfl rfl Tryd.func47 (by kernel_rfl) rfl #[.agg #[.int .i64 t1005,.slice Ao43 t1006.length co43]] rfl au_ ?_;(with_reducible refine (impl_CountExtensions.calls k4 t1005 _ _ t1006 t1033 t1034 _ ?side1 ?side2 ?side3 A220.out).mono ?_);(case side1=>exact cl_ (Kd.R_reads' HO_1011001.out).2.2);(case side2=>exact (Kd.R_reads' HO_1011001.out).2.1);(case side3=>first|exact HT.out|exact HT.out.below bb_|(repeat (first|exact HT.out|apply TabOK.drewN|apply TabOK.drew|apply TabOK.alloc)));rintro e w310 ⟨rfl,hb⟩;refine ⟨_,rfl,?_⟩;replace HO_992001:=rb_ HO_992001 hb;replace HO_993001:=rb_ HO_993001 hb;replace HO_999001:=rb_ HO_999001 hb;replace HO_1005001:=rb_ HO_1005001 hb;replace HO_1011001:=rb_ HO_1011001 hb;replace HO_1017001:=rb_ HO_1017001 hb;replace BK991:=bz BK991 hb;replace BK992:=bz BK992 hb;replace BK998:=bz BK998 hb;replace BK1004:=bz BK1004 hb;replace BK1010:=bz BK1010 hb;replace BK1016:=bz BK1016 hb;replace HB:=A_ (below_step bb_ hb);(try clear hb);(try clear hb2);(try clear hk);(try clear hi)))
                go_ret
                exact ⟨by first|rfl|(simp [errW_none,errW_some] <;> rfl)|(simp [*,errW_none,errW_some] <;> rfl),bb_⟩
              ·replace c221:=Bool.eq_false_iff.mpr c221;subst c221;have H1 : (some false) = some r:=by rw [if_neg (show ¬ (false = true) by decide)] at H;exact H
               clear H;have H:=H1;clear H1;obtain rfl:=Option.some.inj H;have hnb311:=NB992_991.out;have hnc311:=NB991_992.out;have hnb312:=NB992_998.out;have hnc312:=NB998_992.out;have hnb313:=NB992_1004.out;have hnc313:=NB1004_992.out;have hnb314:=NB992_1010.out;have hnc314:=NB1010_992.out;have hnb315:=NB992_1016.out;have hnc315:=NB1016_992.out;have hcz316_0 : wr.cell? ⟨gb992,0,none⟩ = some (.int .i64 t987):=blk_cell BK992.out 0;have hcz316_1 : wr.cell? ⟨gb992,1,none⟩ = some (.slice Ao18 t988.length co18):=blk_cell BK992.out 1;have hfz316_0:=blk_frozen BK992.out 0;have hfz316_1:=blk_frozen BK992.out 1;have hnb317:=NB998_991.out;have hnc317:=NB991_998.out;have hnb318:=NB998_1004.out;have hnc318:=NB1004_998.out;have hnb319:=NB998_1010.out;have hnc319:=NB1010_998.out;have hnb320:=NB998_1016.out;have hnc320:=NB1016_998.out;have hcz321_0 : wr.cell? ⟨gb998,0,none⟩ = some (.int .i64 t993):=blk_cell BK998.out 0;have hcz321_1 : wr.cell? ⟨gb998,1,none⟩ = some (.slice Ao24 t994.length co24):=blk_cell BK998.out 1;have hfz321_0:=blk_frozen BK998.out 0;have hfz321_1:=blk_frozen BK998.out 1;go_wp2_with (first|((with_reducible refine gate_callee (f:=47) rfl ?_);refine goesL_ (some 155) rfl rfl Tryd.func47 (by kernel_rfl) rfl #[.agg #[.int .i64 t993,.slice Ao24 t994.length co24]] rfl au_ ?_;(with_reducible refine (impl_CountExtensions.calls k4 t993 _ _ t994 t1031 t1032 _ ?side1 ?side2 ?side3 A219.out).mono ?_);(case side1=>exact cl_ (Kd.R_reads' HO_999001.out).2.2);(case side2=>exact (Kd.R_reads' HO_999001.out).2.1);(case side3=>first|exact HT.out|exact HT.out.below bb_|(repeat (first|exact HT.out|apply TabOK.drewN|apply TabOK.drew|apply TabOK.alloc)));rintro e w322 ⟨rfl,hb⟩;refine ⟨_,rfl,?_⟩;replace HO_992001:=rb_ HO_992001 hb;replace HO_993001:=rb_ HO_993001 hb;replace HO_999001:=rb_ HO_999001 hb;replace HO_1005001:=rb_ HO_1005001 hb;replace HO_1011001:=rb_ HO_1011001 hb;replace HO_1017001:=rb_ HO_1017001 hb;replace BK991:=bz BK991 hb;replace BK992:=bz BK992 hb;replace BK998:=bz BK998 hb;replace BK1004:=bz BK1004 hb;replace BK1010:=bz BK1010 hb;replace BK1016:=bz BK1016 hb;replace HB:=A_ (below_step bb_ hb);(try clear hb);(try clear hb2);(try clear hk);(try clear hi);have hnb323:=NB1010_991.out;have hnc323:=NB991_1010.out;have hnb324:=NB1010_1004.out;have hnc324:=NB1004_1010.out;have hnb325:=NB1010_1016.out;have hnc325:=NB1016_1010.out;have hcz326_0 : w322.cell? ⟨gb1010,0,none⟩ = some (.int .i64 t1005):=blk_cell BK1010.out 0;have hcz326_1 : w322.cell? ⟨gb1010,1,none⟩ = some (.slice Ao43 t1006.length co43):=blk_cell BK1010.out 1;have hfz326_0:=blk_frozen BK1010.out 0;have hfz326_1:=blk_frozen BK1010.out 1)|((with_reducible refine gate_callee (f:=47) rfl ?_);refine goesL_ (some 160) rfl rfl Tryd.func47 (by kernel_rfl) rfl #[.agg #[.int .i64 t1005,.slice Ao43 t1006.length co43]] rfl au_ ?_;(with_reducible refine (impl_CountExtensions.calls k4 t1005 _ _ t1006 t1033 t1034 _ ?side1 ?side2 ?side3 A220.out).mono ?_);(case side1=>exact cl_ (Kd.R_reads' HO_1011001.out).2.2);(case side2=>exact (Kd.R_reads' HO_1011001.out).2.1);(case side3=>first|exact HT.out|exact HT.out.below bb_|(repeat (first|exact HT.out|apply TabOK.drewN|apply TabOK.drew|apply TabOK.alloc)));rintro e w327 ⟨rfl,hb⟩;refine ⟨_,rfl,?_⟩;replace HO_992001:=rb_ HO_992001 hb;replace HO_993001:=rb_ HO_993001 hb;replace HO_999001:=rb_ HO_999001 hb;replace HO_1005001:=rb_ HO_1005001 hb;replace HO_1011001:=rb_ HO_1011001 hb;replace HO_1017001:=rb_ HO_1017001 hb;replace BK991:=bz BK991 hb;replace BK992:=bz BK992 hb;replace BK998:=bz BK998 hb;replace BK1004:=bz BK1004 hb;replace BK1010:=bz BK1010 hb;replace BK1016:=bz BK1016 hb;replace HB:=A_ (below_step bb_ hb);(try clear hb);(try clear hb2);(try clear hk);(try clear hi)))
               go_ret
               exact ⟨by first|rfl|(simp [errW_none,errW_some] <;> rfl)|(simp [*,errW_none,errW_some] <;> rfl),bb_⟩
          ·replace c205:=Bool.eq_false_iff.mpr c205;subst c205;have H1 : (some true) = some r:=by rw [if_neg (show ¬ (false = true) by decide)] at H;exact H
           clear H;have H:=H1;clear H1;obtain rfl:=Option.some.inj H;go_wp2
           go_ret
           exact ⟨by first|rfl|(simp [errW_none,errW_some] <;> rfl)|(simp [*,errW_none,errW_some] <;> rfl),bb_⟩
def laws_FnExtensions.Pure : Prop := ∀ (l0 : List Int) (l1 : List Int), l0.length ≤ maxLen → l0.length * 1 ≤ 140737488351232 → (∀ x ∈ l0, (Lit.int .u8 x).wf = true) → l1.length ≤ maxLen → l1.length * 1 ≤ 140737488351232 → (∀ x ∈ l1, (Lit.int .u8 x).wf = true) → ∃ k, laws_FnExtensions.f k l0 l1 = some true
theorem laws_FnExtensions.walk (P : laws_FnExtensions.Pure) (a0 : Option Addr) (len0 cap0 : Nat) (z0 : List Int) (a1 : Option Addr) (len1 cap1 : Nat) (z1 : List Int) (w : World) (w0 : (a0 = none ∧ len0 = 0 ∧ cap0 = 0 ∧ z0 = []) ∨ ∃ x,a0 = some x ∧ len0 ≤ cap0 ∧ cap0 ≤ maxLen ∧ z0.length = cap0 ∧ (∀ i,i < z0.length → w.cell? (x.add i) = some (.int .u8 (z0.getD i 0))) ∧ ∀ n ∈ z0,(Lit.int .u8 n).wf = true) (y0 : len0 * 1 ≤ 140737488351232) (w1 : (a1 = none ∧ len1 = 0 ∧ cap1 = 0 ∧ z1 = []) ∨ ∃ x,a1 = some x ∧ len1 ≤ cap1 ∧ cap1 ≤ maxLen ∧ z1.length = cap1 ∧ (∀ i,i < z1.length → w.cell? (x.add i) = some (.int .u8 (z1.getD i 0))) ∧ ∀ n ∈ z1,(Lit.int .u8 n).wf = true) (y1 : len1 * 1 ≤ 140737488351232) (hT : TabOK w) :
 Calls Tryd.prog 7 #[.slice a0 len0 cap0,.slice a1 len1 cap1] w fun e w'=>e = .returned (.bool true) ∧ Below w.heap.size w w':=by
 obtain ⟨l0,rfl,hr0,hm0,hw0,hc0⟩:=ReadsInt.ofRowC w0;obtain ⟨l1,rfl,hr1,hm1,hw1,hc1⟩:=ReadsInt.ofRowC w1;obtain ⟨k,h⟩:=P l0 l1 hm0 y0 hw0 hm1 y1 hw1;refine (laws_FnExtensions.calls k _ _ l0 _ _ l1 true w (Kd.C_of_reads (d:=(0 : Int)) (h1:=fun _=>rfl) hr0) hc0 (Kd.C_of_reads (d:=(0 : Int)) (h1:=fun _=>rfl) hr1) hc1 hT h).mono ?_
 rintro e w' ⟨rfl,hd⟩
 exact ⟨rfl,hd⟩
end Go.Proofs.YtjdkcafpgebjfaaDoor.P
namespace Go.Proofs.YtjdkcafpgebjfaaDoor.M
open Go.RowKit Go.Proofs.YtjdkcafpgebjfaaDoorW.PrintMore Go.Proofs.YtjdkcafpgebjfaaDoorW.PrintLast Go.Proofs.YtjdkcafpgebjfaaDoorW.PrintWords
theorem i64_small (n : Nat) (h : n < 9223372036854775808) : IntKind.i64.wrap (n : Int) = (n : Int) := by
  simp [IntKind.wrap, IntKind.signed, IntKind.bits]
  omega
theorem wrap64_id (x : Int) (h0 : -9223372036854775808 ≤ x) (h1 : x ≤ 9223372036854775807) : wrap64 x = x := by
  unfold wrap64
  omega
theorem ofInt64 (a : Nat) (ha : a < 18446744073709551616) : (BitVec.ofInt 64 (a : Int)).toNat = a := by
  rw [BitVec.ofInt_natCast, BitVec.toNat_ofNat]; exact Nat.mod_eq_of_lt (by omega)
theorem and_i64 (a b : Nat) (ha : a < 9223372036854775808) (hb : b < 9223372036854775808) : Go.bits .and .i64 (a : Int) (b : Int) = ((a &&& b : Nat) : Int) := by
  have hx : a &&& b < 2 ^ 63 := Nat.and_lt_two_pow _ (by omega)
  show IntKind.i64.wrap ((BitVec.ofInt 64 (a : Int) &&& BitVec.ofInt 64 (b : Int)).toNat : Int) = _
  rw [BitVec.toNat_and, ofInt64 a (by omega), ofInt64 b (by omega), i64_small _ (by omega)]
theorem or_i64 (a b : Nat) (ha : a < 9223372036854775808) (hb : b < 9223372036854775808) : Go.bits .or .i64 (a : Int) (b : Int) = ((a ||| b : Nat) : Int) := by
  have hx : a ||| b < 2 ^ 63 := Nat.or_lt_two_pow (by omega) (by omega)
  show IntKind.i64.wrap ((BitVec.ofInt 64 (a : Int) ||| BitVec.ofInt 64 (b : Int)).toNat : Int) = _
  rw [BitVec.toNat_or, ofInt64 a (by omega), ofInt64 b (by omega), i64_small _ (by omega)]
def diff (a b : Nat) : Nat := a &&& (a ^^^ b)
theorem testBit_diff (a b i : Nat) : (diff a b).testBit i = (a.testBit i && !b.testBit i) := by
  unfold diff
  rw [Nat.testBit_and, Nat.testBit_xor]
  cases a.testBit i <;> cases b.testBit i <;> rfl
theorem andNot_i64 (a b : Nat) (ha : a < 9223372036854775808) (hb : b < 9223372036854775808) : Go.bits .andNot .i64 (a : Int) (b : Int) = ((diff a b : Nat) : Int) := by
  have hx : diff a b < 2 ^ 63 := Nat.lt_of_le_of_lt Nat.and_le_left (by omega)
  show IntKind.i64.wrap ((BitVec.ofInt 64 (a : Int) &&& ~~~ BitVec.ofInt 64 (b : Int)).toNat : Int) = _
  have e : (BitVec.ofInt 64 (a : Int) &&& ~~~ BitVec.ofInt 64 (b : Int)).toNat = diff a b := by
    apply Nat.eq_of_testBit_eq
    intro i
    rw [BitVec.toNat_and, Nat.testBit_and, testBit_diff, ofInt64 a (by omega)]
    by_cases hi : i < 64
    · rw [show (~~~ BitVec.ofInt 64 (b : Int)).toNat.testBit i = !(BitVec.ofInt 64 (b : Int)).toNat.testBit i from by
        rw [BitVec.testBit_toNat, BitVec.testBit_toNat, BitVec.getLsbD_not]; simp [hi], ofInt64 b (by omega)]
    · rw [Nat.testBit_lt_two_pow (x := a) (i := i) (Nat.lt_of_lt_of_le (by omega : a < 2 ^ 64) (Nat.pow_le_pow_right (by decide) (by omega)))]
      rfl
  rw [e, i64_small _ (by omega)]
theorem shl1 (j : Nat) (h : j ≤ 62) : shl .i64 1 (j : Int) = ((2 ^ j : Nat) : Int) := by
  unfold shl
  have h2 : (2 : Nat) ^ j < 9223372036854775808 := Nat.lt_of_le_of_lt (Nat.pow_le_pow_right (by decide) h) (by decide)
  rw [Int.toNat_natCast, Nat.min_eq_left (by show j ≤ 64; omega), Int.one_mul]
  have := i64_small (2 ^ j) h2
  rwa [Int.natCast_pow] at this ⊢
theorem shr_nat (a j : Nat) (h : j ≤ 64) : shr .i64 (a : Int) (j : Int) = ((a / 2 ^ j : Nat) : Int) := by
  unfold shr
  rw [Int.toNat_natCast, Nat.min_eq_left (by exact h)]
  simp
def bit (s : Int) (j : Nat) : Bool := s.toNat.testBit j
theorem bit_cast (a j : Nat) : bit (a : Int) j = a.testBit j := by simp [bit]
theorem and_one (a : Nat) (j : Nat) : ((a / 2 ^ j) &&& 1 : Nat) = if a.testBit j then 1 else 0 := by
  rw [Nat.and_one_is_mod, Nat.testBit_eq_decide_div_mod_eq]
  rcases Nat.mod_two_eq_zero_or_one (a / 2 ^ j) with h | h <;> simp [h]
theorem has_and (s : Int) (j : Nat) (h0 : 0 ≤ s) (h1 : s < 9223372036854775808) (hj : j ≤ 64) : (Go.bits .and .i64 (shr .i64 s (j : Int)) 1 == 1) = bit s j := by
  obtain ⟨a, rfl⟩ := Int.eq_ofNat_of_zero_le h0
  have hl : a / 2 ^ j < 9223372036854775808 := Nat.lt_of_le_of_lt (Nat.div_le_self _ _) (by omega)
  rw [shr_nat a j hj, show (1 : Int) = ((1 : Nat) : Int) from rfl, and_i64 _ 1 hl (by decide), and_one, bit_cast]
  cases a.testBit j <;> rfl
theorem has_mod (s : Int) (j : Nat) (h0 : 0 ≤ s) (hj : j ≤ 64) : (Int.tmod (shr .i64 s (j : Int)) 2 == 1) = bit s j := by
  obtain ⟨a, rfl⟩ := Int.eq_ofNat_of_zero_le h0
  rw [shr_nat a j hj, bit_cast, Nat.testBit_eq_decide_div_mod_eq, Int.tmod_eq_emod_of_nonneg (Int.natCast_nonneg _)]
  rcases Nat.mod_two_eq_zero_or_one (a / 2 ^ j) with h | h
  · rw [show ((a / 2 ^ j : Nat) : Int) % 2 = 0 from by omega]; simp [h]
  · rw [show ((a / 2 ^ j : Nat) : Int) % 2 = 1 from by omega]; simp [h]
def setOf : Nat → (Nat → Bool) → Nat
  | 0, _ => 0
  | n + 1, q => setOf n q ||| (if q n then 2 ^ n else 0)
theorem testBit_setOf (n : Nat) (q : Nat → Bool) (j : Nat) : (setOf n q).testBit j = (decide (j < n) && q j) := by
  induction n with
  | zero => simp [setOf]
  | succ n ih =>
    unfold setOf
    rw [Nat.testBit_or, ih]
    by_cases hq : q n
    · rw [if_pos hq, Nat.testBit_two_pow]
      by_cases h : n = j
      · subst h; simp [hq]
      · have : (j < n + 1) ↔ j < n := by omega
        simp [h, this]
    · rw [if_neg hq]
      by_cases h : n = j
      · subst h; simp [hq]
      · have : (j < n + 1) ↔ j < n := by omega
        simp [this]
theorem setOf_lt (n : Nat) (q : Nat → Bool) : setOf n q < 2 ^ n := by
  induction n with
  | zero => simp [setOf]
  | succ n ih =>
    unfold setOf
    have h1 : setOf n q < 2 ^ (n + 1) := Nat.lt_of_lt_of_le ih (Nat.pow_le_pow_right (by decide) (by omega))
    refine Nat.or_lt_two_pow h1 ?_
    split
    · exact Nat.pow_lt_pow_right (by decide) (by omega)
    · exact Nat.two_pow_pos _
theorem lt62 {n s : Nat} (h : s < 2 ^ n) (hn : n ≤ 62) : s < 9223372036854775808 := Nat.lt_of_lt_of_le h (Nat.le_trans (Nat.pow_le_pow_right (by decide) hn) (by decide))
theorem setOf_62 (n : Nat) (q : Nat → Bool) (hn : n ≤ 62) : setOf n q < 9223372036854775808 := lt62 (setOf_lt n q) hn
end Go.Proofs.YtjdkcafpgebjfaaDoor.M
namespace Go.Proofs.YtjdkcafpgebjfaaDoor.M
open Go.RowKit Go.Proofs.YtjdkcafpgebjfaaDoorW.PrintMore Go.Proofs.YtjdkcafpgebjfaaDoorW.PrintLast Go.Proofs.YtjdkcafpgebjfaaDoorW.PrintWords
theorem Ev.up {α : Type} {r : α} (G : Nat → Nat → Option α) (n : Nat) (step : ∀ i, i < n → Ev (G (i + 1)) r → Ev (G i) r) (stop : Ev (G n) r) : Ev (G 0) r := by
  have key : ∀ m, m ≤ n → Ev (G (n - m)) r := by
    intro m
    induction m with
    | zero => intro _; exact stop
    | succ m ih =>
      intro hm
      have h := step (n - (m + 1)) (by omega)
      rw [show n - (m + 1) + 1 = n - m from by omega] at h
      exact h (ih (by omega))
  have := key n (Nat.le_refl _)
  rwa [Nat.sub_self] at this
theorem Ev.from {α : Type} {r : α} (G : Nat → Nat → Option α) (n i : Nat) (hi : i ≤ n) (step : ∀ i, i < n → Ev (G (i + 1)) r → Ev (G i) r) (stop : Ev (G n) r) : Ev (G i) r := by
  have h := Ev.up (fun j => G (i + j)) (n - i) (fun j hj h => step (i + j) (by omega) h) (by rw [show i + (n - i) = n from by omega]; exact stop)
  exact h
def allB (n : Nat) (p : Nat → Bool) : Bool := (List.range n).all p
theorem allB_iff {n : Nat} {p : Nat → Bool} : allB n p = true ↔ ∀ j, j < n → p j = true := by simp [allB]
theorem allB_false {n : Nat} {p : Nat → Bool} : allB n p = false ↔ ∃ j, j < n ∧ p j = false := by simp [allB]
theorem least_false {n : Nat} {p : Nat → Bool} (h : ∃ j, j < n ∧ p j = false) : ∃ j, j < n ∧ p j = false ∧ ∀ i, i < j → p i = true := by
  obtain ⟨j, hj, hp⟩ := h
  induction j using Nat.strongRecOn with
  | _ j ih =>
    by_cases hl : ∃ i, i < j ∧ p i = false
    · obtain ⟨i, hi, hpi⟩ := hl
      exact ih i hi (by omega) hpi
    · refine ⟨j, hj, hp, fun i hi => ?_⟩
      cases hc : p i with
      | true => rfl
      | false => exact absurd ⟨i, hi, hc⟩ hl
theorem Ev.all (G : Nat → Nat → Option Bool) (n : Nat) (p : Nat → Bool) (yes : ∀ i r, i < n → p i = true → Ev (G (i + 1)) r → Ev (G i) r) (no : ∀ i, i < n → p i = false → Ev (G i) false) (stop : Ev (G n) true) :
    Ev (G 0) (allB n p) := by
  cases h : allB n p with
  | true =>
    have h := allB_iff.1 h
    exact Ev.up G n (fun i hi => yes i true hi (h i hi)) stop
  | false =>
    obtain ⟨j, hj, hp, hl⟩ := least_false (allB_false.1 h)
    exact Ev.up G j (fun i hi => yes i false (by omega) (hl i hi)) (no j hj hp)
theorem Ev.const {α : Type} {x : Option α} {r : α} (h : x = some r) : Ev (fun _ => x) r := ⟨0, fun _ _ => h⟩
theorem Ev.to {α : Type} {g : Nat → Option α} {r r' : α} (h : Ev g r) (e : r = r') : Ev g r' := e ▸ h
theorem rd_nat (l : List Int) (i : Nat) : rd l (i : Int) = l.getD i 0 := by simp [rd]
theorem rd_get (l : List Int) (i : Nat) (h : i < l.length) : rd l (i : Int) = l[i] := by simp [rd, h]
theorem next64 (i n : Nat) (h : i < n) (hn : n ≤ 140737488355328) : wrap64 ((i : Int) + 1) = ((i + 1 : Nat) : Int) := by unfold wrap64; omega
theorem list_ext_getD {l l' : List Int} (hl : l.length = l'.length) (h : ∀ i, i < l.length → l.getD i 0 = l'.getD i 0) : l = l' := by
  apply List.ext_getElem hl
  intro i h1 h2
  have := h i h1
  simpa [h1, h2] using this
end Go.Proofs.YtjdkcafpgebjfaaDoor.M
namespace Go.Proofs.YtjdkcafpgebjfaaDoor.M
open Go.RowKit Go.Proofs.YtjdkcafpgebjfaaDoorW.PrintMore Go.Proofs.YtjdkcafpgebjfaaDoorW.PrintLast Go.Proofs.YtjdkcafpgebjfaaDoorW.PrintWords Go.Proofs.YtjdkcafpgebjfaaDoor.P
def elems (n s : Nat) : List Nat := (List.range n).filter fun j => s.testBit j
theorem mem_elems {n s j : Nat} : j ∈ elems n s ↔ j < n ∧ s.testBit j = true := by simp [elems]
theorem elems_zero (n : Nat) : elems n 0 = [] := by simp [elems]
def ints (l : List Nat) : List Int := l.map fun (j : Nat) => (j : Int)
theorem ints_length (l : List Nat) : (ints l).length = l.length := by simp [ints]
theorem elems_length_le (n s : Nat) : (elems n s).length ≤ n := by
  unfold elems
  exact Nat.le_trans (List.length_filter_le _ _) (by simp)
theorem filter_range_split (n c : Nat) (h : c < n) (p : Nat → Bool) : (List.range n).filter p = (List.range c).filter p ++ ((if p c then [c] else []) ++ (List.range' (c + 1) (n - (c + 1))).filter p) := by
  have e : List.range n = List.range c ++ ([c] ++ List.range' (c + 1) (n - (c + 1))) := by
    rw [List.range_eq_range', List.range_eq_range']
    have h1 : n = c + (1 + (n - (c + 1))) := by omega
    have e1 : List.range' 0 n = List.range' 0 c ++ List.range' c (1 + (n - (c + 1))) := by
      have := List.range'_append_1 (s := 0) (m := c) (n := 1 + (n - (c + 1)))
      rw [Nat.zero_add] at this
      rw [this, ← h1]
    rw [e1, Nat.add_comm 1, List.range'_succ]
    rfl
  rw [e, List.filter_append, List.filter_append]
  congr 1
  cases hp : p c <;> simp [hp]
theorem elems_least (n s c m : Nat) (hs : s = 2 ^ c * (2 * m + 1)) (hn : s < 2 ^ n) : elems n s = c :: elems n (s &&& (s - 1)) := by
  have hp : 0 < 2 ^ c := Nat.two_pow_pos c
  have e1 : s - 1 = 2 ^ (c + 1) * m + (2 ^ c - 1) := by
    have a1 : 2 ^ c * (2 * m + 1) = 2 ^ (c + 1) * m + 2 ^ c := by rw [Nat.pow_succ, Nat.mul_add, Nat.mul_assoc]; simp
    omega
  have hb : ∀ j, s.testBit j = if j < c then false else if j = c then true else m.testBit (j - (c + 1)) := by
    intro j
    rw [hs, Nat.mul_comm, Nat.testBit_mul_two_pow]
    by_cases h1 : j < c
    · rw [if_pos h1]; simp; omega
    · rw [if_neg h1]
      by_cases h2 : j = c
      · subst h2; simp
      · rw [if_neg h2]
        obtain ⟨d, rfl⟩ : ∃ d, j = c + (d + 1) := ⟨j - c - 1, by omega⟩
        rw [show c + (d + 1) - c = d + 1 from by omega, show c + (d + 1) - (c + 1) = d from by omega, Nat.testBit_succ, show (2 * m + 1) / 2 = m from by omega]
        simp
  have hb1 : ∀ j, (s - 1).testBit j = if j < c then true else if j = c then false else m.testBit (j - (c + 1)) := by
    intro j
    rw [e1, Nat.testBit_two_pow_mul_add m (by have : 2 ^ c < 2 ^ (c + 1) := Nat.pow_lt_pow_right (by decide) (by omega); omega)]
    by_cases h1 : j < c
    · rw [if_pos (by omega), if_pos h1, Nat.testBit_two_pow_sub_one]; simp [h1]
    · rw [if_neg h1]
      by_cases h2 : j = c
      · subst h2; rw [if_pos (by omega), if_pos rfl, Nat.testBit_two_pow_sub_one]; simp
      · rw [if_neg (by omega), if_neg h2]
  have hb2 : ∀ j, (s &&& (s - 1)).testBit j = if j ≤ c then false else s.testBit j := by
    intro j
    rw [Nat.testBit_and, hb, hb1]
    by_cases h1 : j < c
    · simp [h1, Nat.le_of_lt h1]
    · by_cases h2 : j = c
      · simp [h2]
      · rw [if_neg h1, if_neg h1, if_neg h2, if_neg h2, if_neg (by omega)]; simp
  have hc : c < n := by
    apply Nat.lt_of_not_le
    intro hle
    have h1 : 2 ^ n ≤ 2 ^ c := Nat.pow_le_pow_right (by decide) hle
    have h2 : 2 ^ c ≤ s := by rw [hs]; exact Nat.le_mul_of_pos_right _ (by omega)
    omega
  unfold elems
  rw [filter_range_split n c hc, filter_range_split n c hc (fun j => (s &&& (s - 1)).testBit j)]
  have z1 : (List.range c).filter (fun j => s.testBit j) = [] := by
    rw [List.filter_eq_nil_iff]; intro j hj; simp at hj; rw [hb, if_pos hj]; simp
  have z2 : (List.range c).filter (fun j => (s &&& (s - 1)).testBit j) = [] := by
    rw [List.filter_eq_nil_iff]; intro j hj; simp at hj; rw [hb2, if_pos (by omega)]; simp
  have z3 : (List.range' (c + 1) (n - (c + 1))).filter (fun j => s.testBit j) = (List.range' (c + 1) (n - (c + 1))).filter (fun j => (s &&& (s - 1)).testBit j) := by
    apply List.filter_congr
    intro j hj
    rw [List.mem_range'] at hj
    obtain ⟨i, hi, rfl⟩ := hj
    rw [hb2, if_neg (by omega)]
  have y1 : s.testBit c = true := by rw [hb, if_neg (by omega), if_pos rfl]
  have y2 : (s &&& (s - 1)).testBit c = false := by rw [hb2, if_pos (Nat.le_refl _)]
  rw [z1, z2, z3, if_pos y1, y2]
  rfl
theorem and_pred_lt (s : Nat) (h : s ≠ 0) : s &&& (s - 1) < s := Nat.lt_of_le_of_lt Nat.and_le_right (by omega)
theorem u64_small (n : Nat) (h : n < 18446744073709551616) : IntKind.u64.wrap (n : Int) = (n : Int) := by
  simp [IntKind.wrap, IntKind.signed, IntKind.bits]
  omega
theorem members_ev (n : Nat) (hn : n ≤ 62) (s : Nat) (hs : s < 2 ^ n) : Ev (fun k => impl_members.f k (s : Int)) (ints (elems n s)) := by
  have key : ∀ d s, s ≤ d → s < 2 ^ n → ∀ acc : List Int, acc.length + (elems n s).length ≤ 64 → Ev (fun k => impl_members.l0 k (s : Int) acc) (acc ++ ints (elems n s)) := by
    intro d
    induction d with
    | zero =>
      intro s h0 _ acc _
      obtain rfl : s = 0 := by omega
      refine Ev.step (fun _ => rfl) ?_
      simp only [impl_members.l0, Int.natCast_zero, if_true]
      rw [elems_zero]
      simpa [ints] using Ev.now acc
    | succ d ih =>
      intro s h0 hs acc ha
      by_cases hz : s = 0
      · exact ih s (by omega) hs acc ha
      · have hs2 := lt62 hs hn
        obtain ⟨m, hm, hk⟩ := Lib.ctzFrom_spec 64 s (by omega) (by omega)
        have he := elems_least n s _ m hm hs
        have hl : (elems n s).length = (elems n (s &&& (s - 1))).length + 1 := by rw [he]; rfl
        refine Ev.step (fun _ => rfl) ?_
        have hc : Lib.ctz 64 s = Lib.ctzFrom 64 s := by unfold Lib.ctz; rw [if_neg hz]
        have e1 : bits_TrailingZeros.f (IntKind.u64.wrap (s : Int)) = some ((Lib.ctzFrom 64 s : Nat) : Int) := by
          rw [u64_small s (by omega)]
          unfold bits_TrailingZeros.f bits_TrailingZeros64.f
          rw [if_pos ⟨by omega, by omega⟩, Int.toNat_natCast, hc]
          rfl
        have e2 : Go.bits .and .i64 (s : Int) (wrap64 ((s : Int) - 1)) = ((s &&& (s - 1) : Nat) : Int) := by
          rw [show wrap64 ((s : Int) - 1) = ((s - 1 : Nat) : Int) from by unfold wrap64; omega]
          exact and_i64 _ _ (by omega) (by omega)
        simp only [impl_members.l0, if_neg (show ¬ (s : Int) = 0 by omega), e1, Option.bind_some, if_pos (show acc.length < 17592186044416 by omega), e2]
        have := ih (s &&& (s - 1)) (by have := and_pred_lt s hz; omega) (Nat.lt_of_le_of_lt Nat.and_le_left hs) (acc ++ [((Lib.ctzFrom 64 s : Nat) : Int)]) (by simp; omega)
        refine Ev.to this ?_
        rw [he]
        simp [ints]
  have h := key s s (Nat.le_refl _) hs [] (by have := elems_length_le n s; simp; omega)
  exact h
theorem orHas_eq (s : Nat) (j : Nat) (hj : j ≤ 64) : spec_orHas.f (s : Int) (j : Int) = some (s.testBit j) := by
  unfold spec_orHas.f
  rw [if_pos (by omega), has_mod _ _ (by omega) hj, bit_cast]
theorem orList_ev (n : Nat) (hn : n ≤ 62) (s : Nat) (hs : s < 2 ^ n) : Ev (fun k => spec_orList.f k (s : Int)) (ints (elems n s)) := by
  -- up to the place behind the last element
  obtain ⟨t, ht, hlt, hgt⟩ : ∃ t, t ≤ n ∧ s / 2 ^ t = 0 ∧ ∀ i, i < t → 0 < s / 2 ^ i := by
    refine ⟨(if s = 0 then 0 else Nat.log2 s + 1), ?_, ?_, ?_⟩
    · split
      · omega
      · rename_i h
        have := (Nat.log2_lt h (k := n)).2 hs
        omega
    · split
      · rename_i h; simp [h]
      · exact Nat.div_eq_of_lt (Nat.lt_log2_self)
    · intro i hi
      split at hi
      · omega
      · rename_i h
        apply Nat.div_pos _ (Nat.two_pow_pos _)
        exact Nat.le_trans (Nat.pow_le_pow_right (by decide) (by omega : i ≤ Nat.log2 s)) (Nat.log2_self_le h)
  have hs2 := lt62 hs hn
  have hsplit : elems n s = elems t s := by
    unfold elems
    have e : List.range n = List.range t ++ List.range' t (n - t) := by
      rw [List.range_eq_range', List.range_eq_range']
      have := List.range'_append_1 (s := 0) (m := t) (n := n - t)
      rw [Nat.zero_add] at this
      rw [this]
      congr 1
      omega
    rw [e, List.filter_append]
    have z : (List.range' t (n - t)).filter (fun j => s.testBit j) = [] := by
      rw [List.filter_eq_nil_iff]
      intro j hj
      rw [List.mem_range'] at hj
      obtain ⟨i, hi, rfl⟩ := hj
      have h1 : s < 2 ^ t := by
        rcases Nat.div_eq_zero_iff.1 hlt with h | h
        · exact absurd h (Nat.ne_of_gt (Nat.two_pow_pos _))
        · exact h
      rw [Nat.testBit_lt_two_pow (Nat.lt_of_lt_of_le h1 (Nat.pow_le_pow_right (by decide) (by omega)))]
      simp
    rw [z, List.append_nil]
  rw [hsplit]
  unfold spec_orList.f
  refine Ev.up (fun i k => spec_orList.l0 k (s : Int) (ints (elems i s)) (i : Int)) t ?_ ?_
  · intro i hi h
    refine Ev.step (fun _ => rfl) ?_
    have e1 : shr .i64 (s : Int) (i : Int) > 0 := by rw [shr_nat s i (by omega)]; have := hgt i hi; omega
    have hlen := elems_length_le i s
    have e2 : elems (i + 1) s = elems i s ++ (if s.testBit i then [i] else []) := by
      unfold elems
      rw [List.range_succ, List.filter_append]
      congr 1
      cases hb2 : s.testBit i <;> simp [hb2]
    simp only [spec_orList.l0, if_pos (show (0 : Int) ≤ (i : Int) by omega), if_pos e1, orHas_eq s i (by omega), Option.bind_some, next64 i t hi (by omega)]
    rw [e2] at h
    cases hb : s.testBit i with
    | true =>
      simp only [if_true, ints_length, if_pos (show (elems i s).length < 17592186044416 by omega)]
      rw [hb] at h
      simpa [ints] using h
    | false =>
      rw [hb] at h
      simpa [ints] using h
  · refine Ev.step (fun _ => rfl) ?_
    have e1 : ¬ shr .i64 (s : Int) (t : Int) > 0 := by rw [shr_nat s t (by omega)]; omega
    simp only [spec_orList.l0, if_pos (show (0 : Int) ≤ (t : Int) by omega), if_neg e1]
    exact Ev.now _
end Go.Proofs.YtjdkcafpgebjfaaDoor.M
namespace Go.Proofs.YtjdkcafpgebjfaaDoor.M
open Go.RowKit Go.Proofs.YtjdkcafpgebjfaaDoorW.PrintMore Go.Proofs.YtjdkcafpgebjfaaDoorW.PrintLast Go.Proofs.YtjdkcafpgebjfaaDoorW.PrintWords Go.Proofs.YtjdkcafpgebjfaaDoor.P
def isRel (n : Int) (l : List Int) : Bool := decide (0 ≤ n ∧ n ≤ 10 ∧ (l.length : Int) = n ∧ ∀ x ∈ l, 0 ≤ x ∧ x ≤ ((2 ^ n.toNat : Nat) : Int) - 1)
def row (l : List Int) (i : Nat) : Nat := (l.getD i 0).toNat
def B (l : List Int) (i j : Nat) : Bool := (row l i).testBit j
structure Rel (n : Nat) (l : List Int) : Prop where
  le : n ≤ 10
  len : l.length = n
  mem : ∀ x ∈ l, 0 ≤ x ∧ x ≤ ((2 ^ n : Nat) : Int) - 1
theorem isRel_iff {n : Int} {l : List Int} : isRel n l = true ↔ ∃ m : Nat, n = m ∧ Rel m l := by
  unfold isRel
  rw [decide_eq_true_iff]
  constructor
  · rintro ⟨h0, h1, h2, h3⟩
    obtain ⟨m, rfl⟩ := Int.eq_ofNat_of_zero_le h0
    exact ⟨m, rfl, by omega, by omega, by simpa using h3⟩
  · rintro ⟨m, rfl, h⟩
    refine ⟨by omega, by have := h.le; omega, by have := h.len; omega, by simpa using h.mem⟩
section
variable {n : Nat} {l : List Int}
theorem Rel.getD (h : Rel n l) (i : Nat) : l.getD i 0 = ((row l i : Nat) : Int) := by
  unfold row
  by_cases hi : i < l.length
  · have := (h.mem l[i] (List.getElem_mem hi)).1
    rw [show l.getD i 0 = l[i] by simp [hi]]
    omega
  · rw [show l.getD i 0 = 0 by simp [Nat.not_lt.1 hi]]
    rfl
theorem Rel.row_lt (h : Rel n l) (i : Nat) : row l i < 2 ^ n := by
  have hp : 0 < 2 ^ n := Nat.two_pow_pos n
  by_cases hi : i < l.length
  · have h1 := h.mem l[i] (List.getElem_mem hi)
    have h2 := h.getD i
    rw [show l.getD i 0 = l[i] by simp [hi]] at h2
    omega
  · unfold row
    rw [show l.getD i 0 = 0 by simp [Nat.not_lt.1 hi]]
    simpa using hp
theorem Rel.row_62 (h : Rel n l) (i : Nat) : row l i < 9223372036854775808 := lt62 (h.row_lt i) (by have := h.le; omega)
theorem Rel.B_lt (h : Rel n l) {i j : Nat} (hb : B l i j = true) : j < n := by
  apply Nat.lt_of_not_le
  intro hle
  unfold B at hb
  rw [Nat.testBit_lt_two_pow (Nat.lt_of_lt_of_le (h.row_lt i) (Nat.pow_le_pow_right (by decide) hle))] at hb
  cases hb
theorem Rel.B_lt' (h : Rel n l) {i j : Nat} (hb : B l i j = true) : i < n := by
  apply Nat.lt_of_not_le
  intro hle
  unfold B row at hb
  rw [show l.getD i 0 = 0 by simp [h.len, hle]] at hb
  simp at hb
theorem Rel.rd (h : Rel n l) (i : Nat) : rd l (i : Int) = ((row l i : Nat) : Int) := by rw [rd_nat, h.getD]
theorem Rel.bit (h : Rel n l) (i j : Nat) : M.bit (Go.Proofs.YtjdkcafpgebjfaaDoorW.PrintWords.rd l (i : Int)) j = B l i j := by rw [h.rd, bit_cast]; rfl
theorem Rel.ext {l' : List Int} (h : Rel n l) (h' : Rel n l') (hb : ∀ i j, i < n → j < n → B l i j = B l' i j) : l = l' := by
  apply list_ext_getD (by rw [h.len, h'.len])
  intro i hi
  rw [h.getD, h'.getD]
  congr 1
  apply Nat.eq_of_testBit_eq
  intro j
  by_cases hj : j < n
  · exact hb i j (by rw [← h.len]; exact hi) hj
  · have e1 : B l i j = false := by
      cases hc : B l i j with
      | false => rfl
      | true => exact absurd (h.B_lt hc) hj
    have e2 : B l' i j = false := by
      cases hc : B l' i j with
      | false => rfl
      | true => exact absurd (h'.B_lt hc) hj
    exact e1.trans e2.symm
end
def relL (n : Nat) (p : Nat → Nat → Bool) : List Int := (List.range n).map fun i => ((setOf n (p i) : Nat) : Int)
theorem relL_length (n : Nat) (p : Nat → Nat → Bool) : (relL n p).length = n := by simp [relL]
theorem relL_row (n : Nat) (p : Nat → Nat → Bool) (i : Nat) (h : i < n) : row (relL n p) i = setOf n (p i) := by
  simp [row, relL, h]
theorem relL_B (n : Nat) (p : Nat → Nat → Bool) (i j : Nat) : B (relL n p) i j = (decide (i < n) && (decide (j < n) && p i j)) := by
  unfold B
  by_cases h : i < n
  · rw [relL_row n p i h, testBit_setOf]; simp [h]
  · have : row (relL n p) i = 0 := by simp [row, relL, h]
    rw [this]; simp [h]
theorem relL_rel (n : Nat) (hn : n ≤ 10) (p : Nat → Nat → Bool) : Rel n (relL n p) where
  le := hn
  len := relL_length n p
  mem := by
    intro x hx
    simp only [relL, List.mem_map, List.mem_range] at hx
    obtain ⟨i, _, rfl⟩ := hx
    have := setOf_lt n (p i)
    omega
theorem within_eq (a b c : Int) : impl_within.f a b c = some (decide (b ≤ a ∧ a ≤ c)) := by
  unfold impl_within.f
  by_cases h : a ≥ b
  · rw [if_pos h]; simp [h]
  · rw [if_neg h]; simp; omega
theorem l1In_eq (a b c : Int) : spec_l1In.f a b c = some (decide (b ≤ a ∧ a ≤ c)) := by
  unfold spec_l1In.f
  by_cases h : a ≥ b
  · rw [if_pos h]; simp [h]
  · rw [if_neg h]; simp; omega
def allIn (l : List Int) (a b : Int) : Bool := decide (∀ x ∈ l, a ≤ x ∧ x ≤ b)
theorem allIn_eq (l : List Int) (a b : Int) : allIn l a b = allB l.length fun i => decide (a ≤ l.getD i 0 ∧ l.getD i 0 ≤ b) := by
  rw [Bool.eq_iff_iff, allB_iff]
  simp only [allIn, decide_eq_true_iff]
  constructor
  · intro h i hi
    have := h l[i] (List.getElem_mem hi)
    simpa [hi] using this
  · intro h x hx
    obtain ⟨i, hi, rfl⟩ := List.getElem_of_mem hx
    have := h i hi
    simpa [hi] using this
theorem allWithin_ev (l : List Int) (a b : Int) (hl : l.length ≤ 140737488355328) : Ev (fun k => impl_allWithin.f k l a b) (allIn l a b) := by
  rw [allIn_eq]
  unfold impl_allWithin.f
  refine Ev.all (fun i k => impl_allWithin.l0 k a b l (l.length : Int) (i : Int)) l.length _ ?_ ?_ ?_
  · intro i r hi hp h
    refine Ev.step (fun _ => rfl) ?_
    rw [decide_eq_true_iff] at hp
    simp only [impl_allWithin.l0, if_pos (show (i : Int) < (l.length : Int) by omega), if_pos (show (0 : Int) ≤ (i : Int) by omega), within_eq, rd_nat, Option.bind_some, decide_eq_true hp, if_true, next64 i l.length hi hl]
    exact h
  · intro i hi hp
    refine Ev.step (fun _ => rfl) ?_
    rw [decide_eq_false_iff_not] at hp
    simp only [impl_allWithin.l0, if_pos (show (i : Int) < (l.length : Int) by omega), if_pos (show (0 : Int) ≤ (i : Int) by omega), within_eq, rd_nat, Option.bind_some, decide_eq_false hp, Bool.false_eq_true, if_false]
    exact Ev.now _
  · refine Ev.step (fun _ => rfl) ?_
    simp only [impl_allWithin.l0, if_neg (show ¬ (l.length : Int) < (l.length : Int) by omega)]
    exact Ev.now _
theorem l1All_ev (l : List Int) (a b : Int) (hl : l.length ≤ 140737488355328) : Ev (fun k => spec_l1All.f k l a b) (allIn l a b) := by
  rw [allIn_eq]
  unfold spec_l1All.f
  refine Ev.all (fun i k => spec_l1All.l0 k a b l (l.length : Int) (i : Int)) l.length _ ?_ ?_ ?_
  · intro i r hi hp h
    refine Ev.step (fun _ => rfl) ?_
    rw [decide_eq_true_iff] at hp
    simp only [spec_l1All.l0, if_pos (show (i : Int) < (l.length : Int) by omega), if_pos (show (0 : Int) ≤ (i : Int) by omega), l1In_eq, rd_nat, Option.bind_some, decide_eq_true hp, if_true, next64 i l.length hi hl]
    exact h
  · intro i hi hp
    refine Ev.step (fun _ => rfl) ?_
    rw [decide_eq_false_iff_not] at hp
    simp only [spec_l1All.l0, if_pos (show (i : Int) < (l.length : Int) by omega), if_pos (show (0 : Int) ≤ (i : Int) by omega), l1In_eq, rd_nat, Option.bind_some, decide_eq_false hp, Bool.false_eq_true, if_false]
    exact Ev.now _
  · refine Ev.step (fun _ => rfl) ?_
    simp only [spec_l1All.l0, if_neg (show ¬ (l.length : Int) < (l.length : Int) by omega)]
    exact Ev.now _
theorem pow_of (n : Int) (h0 : 0 ≤ n) (h1 : n ≤ 10) : wrap64 (shl .i64 1 n - 1) = ((2 ^ n.toNat : Nat) : Int) - 1 := by
  obtain ⟨m, rfl⟩ := Int.eq_ofNat_of_zero_le h0
  rw [shl1 m (by omega), Int.toNat_natCast]
  have h2 : (2 : Nat) ^ m ≤ 2 ^ 10 := Nat.pow_le_pow_right (by decide) (by omega)
  have h3 : 0 < (2 : Nat) ^ m := Nat.two_pow_pos m
  exact wrap64_id _ (by omega) (by omega)
theorem isRel_parts (n : Int) (l : List Int) : isRel n l = (decide (0 ≤ n ∧ n ≤ 10) && (decide ((l.length : Int) = n) && allIn l 0 (((2 ^ n.toNat : Nat) : Int) - 1))) := by
  rw [Bool.eq_iff_iff]
  simp only [isRel, allIn, Bool.and_eq_true, decide_eq_true_iff]
  exact ⟨fun ⟨a, b, c, d⟩ => ⟨⟨a, b⟩, c, d⟩, fun ⟨⟨a, b⟩, c, d⟩ => ⟨a, b, c, d⟩⟩
theorem IsRelation_ev (n : Int) (l : List Int) (hl : l.length ≤ 140737488355328) : Ev (fun k => impl_IsRelation.f k n l) (isRel n l) := by
  unfold impl_IsRelation.f
  simp only [within_eq, Option.bind_some]
  rw [isRel_parts]
  by_cases h1 : 0 ≤ n ∧ n ≤ 10
  · by_cases h2 : (l.length : Int) = n
    · simp only [decide_eq_true h1, if_true, if_pos h2, if_pos h1.1, pow_of n h1.1 h1.2, decide_eq_true h2, Bool.true_and]
      exact Ev.bind (allWithin_ev l _ _ hl) (Ev.now _)
    · simp only [decide_eq_true h1, if_true, if_neg h2, decide_eq_false h2, Bool.false_and, Bool.and_false]
      exact Ev.now _
  · simp only [decide_eq_false h1, Bool.false_eq_true, if_false, Bool.false_and]
    exact Ev.now _
theorem orRelation_ev (n : Int) (l : List Int) (hl : l.length ≤ 140737488355328) : Ev (fun k => spec_orRelation.f k n l) (isRel n l) := by
  unfold spec_orRelation.f
  simp only [l1In_eq, Option.bind_some]
  rw [isRel_parts]
  by_cases h1 : 0 ≤ n ∧ n ≤ 10
  · by_cases h2 : (l.length : Int) = n
    · simp only [decide_eq_true h1, if_true, if_pos h2, if_pos h1.1, pow_of n h1.1 h1.2, decide_eq_true h2, Bool.true_and]
      exact Ev.bind (l1All_ev l _ _ hl) (Ev.now _)
    · simp only [decide_eq_true h1, if_true, if_neg h2, decide_eq_false h2, Bool.false_and, Bool.and_false]
      exact Ev.now _
  · simp only [decide_eq_false h1, Bool.false_eq_true, if_false, Bool.false_and]
    exact Ev.now _
def closedAt (n : Nat) (l : List Int) (i : Nat) : Bool := allB (elems n (row l i)).length fun q => diff (row l ((elems n (row l i)).getD q 0)) (row l i) == 0
def isOrd (n : Int) (l : List Int) : Bool := isRel n l && allB l.length fun i => !B l i i && closedAt l.length l i
theorem better_eq {n : Nat} {l : List Int} (h : Rel n l) (m : Int) (i j : Nat) (hi : i < n) (hj : j ≤ 62) : impl_Order_better.f m l (i : Int) (j : Int) = some (B l i j) := by
  unfold impl_Order_better.f
  rw [if_pos (by omega), if_pos (by rw [h.len]; omega), if_pos (by omega), has_and _ _ (by rw [h.rd]; omega) (by rw [h.rd]; have := h.row_62 i; omega) (by omega), h.bit]
theorem diff_zero (a b : Nat) : (diff a b = 0) ↔ ∀ j, a.testBit j = true → b.testBit j = true := by
  constructor
  · intro h j hj
    have := testBit_diff a b j
    rw [h, hj] at this
    simpa using this.symm
  · intro h
    apply Nat.eq_of_testBit_eq
    intro j
    rw [testBit_diff]
    cases hj : a.testBit j with
    | false => simp
    | true => simp [h j hj]
theorem ints_getD (l : List Nat) (q : Nat) (h : q < l.length) : (ints l).getD q 0 = ((l.getD q 0 : Nat) : Int) := by simp [ints, h]
theorem closed_iff {n : Nat} {l : List Int} (h : Rel n l) (i : Nat) : closedAt n l i = true ↔ ∀ j k, B l i j = true → B l j k = true → B l i k = true := by
  unfold closedAt
  rw [allB_iff]
  constructor
  · intro H j k hij hjk
    have hm : j ∈ elems n (row l i) := mem_elems.2 ⟨h.B_lt hij, hij⟩
    obtain ⟨q, hq, e⟩ := List.getElem_of_mem hm
    have := H q hq
    rw [show (elems n (row l i)).getD q 0 = j by simp [hq, e], beq_iff_eq, diff_zero] at this
    exact this k hjk
  · intro H q hq
    rw [beq_iff_eq, diff_zero]
    intro k hk
    have hm : (elems n (row l i)).getD q 0 ∈ elems n (row l i) := by simp [hq]
    exact H _ k (mem_elems.1 hm).2 hk
structure Ord (n : Nat) (l : List Int) : Prop extends Rel n l where
  irr : ∀ i, B l i i = false
  trans : ∀ i j k, B l i j = true → B l j k = true → B l i k = true
theorem isOrd_iff {n : Int} {l : List Int} : isOrd n l = true ↔ ∃ m : Nat, n = m ∧ Ord m l := by
  unfold isOrd
  rw [Bool.and_eq_true, isRel_iff, allB_iff]
  constructor
  · rintro ⟨⟨m, rfl, h⟩, H⟩
    rw [h.len] at H
    refine ⟨m, rfl, h, fun i => ?_, fun i j k hij hjk => ?_⟩
    · cases hc : B l i i with
      | false => rfl
      | true =>
        have := H i (h.B_lt hc)
        rw [hc] at this
        simp at this
    · have := H i (h.B_lt' hij)
      rw [Bool.and_eq_true] at this
      exact (closed_iff h i).1 this.2 j k hij hjk
  · rintro ⟨m, rfl, h⟩
    refine ⟨⟨m, rfl, h.toRel⟩, fun i _ => ?_⟩
    rw [h.irr i, h.len, (closed_iff h.toRel i).2 (h.trans i)]
    rfl
theorem IsOrder_ev (n : Int) (l : List Int) (hl : l.length ≤ 140737488355328) : Ev (fun k => impl_IsOrder.f k n l) (isOrd n l) := by
  unfold impl_IsOrder.f isOrd
  refine Ev.bind (IsRelation_ev n l hl) ?_
  cases hr : isRel n l with
  | false => simp only [Bool.false_eq_true, if_false, Bool.false_and]; exact Ev.now _
  | true =>
    obtain ⟨m, rfl, h⟩ := isRel_iff.1 hr
    have hlen := h.len
    have h10 := h.le
    simp only [if_true, Bool.true_and]
    refine Ev.all (fun i k => impl_IsOrder.l0 k l (l.length : Int) (i : Int) (m : Int) l) l.length _ ?_ ?_ ?_
    · intro i r hi hp hrest
      rw [Bool.and_eq_true] at hp
      have hB : B l i i = false := by simpa using hp.1
      refine Ev.step (fun _ => rfl) ?_
      simp only [impl_IsOrder.l0, if_pos (show (i : Int) < (l.length : Int) by omega), if_pos (show (0 : Int) ≤ (i : Int) by omega), better_eq h _ i i (by omega) (by omega), Option.bind_some, hB, Bool.false_eq_true, if_false, h.rd]
      refine Ev.bind (members_ev m (by omega) (row l i) (h.row_lt i)) ?_
      have hE := elems_length_le m (row l i)
      rw [ints_length]
      refine Ev.up (fun q k => impl_IsOrder.l1 k ((row l i : Nat) : Int) l (l.length : Int) (i : Int) (ints (elems m (row l i))) ((elems m (row l i)).length : Int) (q : Int) (m : Int) l) (elems m (row l i)).length ?_ ?_
      · intro q hq hn
        refine Ev.step (fun _ => rfl) ?_
        have hmem : (elems m (row l i)).getD q 0 ∈ elems m (row l i) := by simp [hq]
        have hlt := (mem_elems.1 hmem).1
        have e0 : rd (ints (elems m (row l i))) (q : Int) = (((elems m (row l i)).getD q 0 : Nat) : Int) := by rw [rd_nat, ints_getD _ _ hq]
        have hd : diff (row l ((elems m (row l i)).getD q 0)) (row l i) = 0 := by
          have hc := hp.2
          unfold closedAt at hc
          rw [allB_iff, hlen] at hc
          exact beq_iff_eq.1 (hc q hq)
        simp only [impl_IsOrder.l1, if_pos (show (q : Int) < ((elems m (row l i)).length : Int) by omega), if_pos (show (0 : Int) ≤ (q : Int) by omega), ints_length, e0, if_pos (show (0 : Int) ≤ (((elems m (row l i)).getD q 0 : Nat) : Int) by omega), if_pos (show (((elems m (row l i)).getD q 0 : Nat) : Int) < (l.length : Int) by omega), h.rd, andNot_i64 _ _ (h.row_62 _) (h.row_62 _), hd, Int.natCast_zero, if_true, next64 q _ hq (by omega)]
        exact hn
      · refine Ev.step (fun _ => rfl) ?_
        simp only [impl_IsOrder.l1, if_neg (show ¬ ((elems m (row l i)).length : Int) < ((elems m (row l i)).length : Int) by omega), next64 i l.length hi (by omega)]
        exact hrest
    · intro i hi hp
      refine Ev.step (fun _ => rfl) ?_
      simp only [impl_IsOrder.l0, if_pos (show (i : Int) < (l.length : Int) by omega), if_pos (show (0 : Int) ≤ (i : Int) by omega), better_eq h _ i i (by omega) (by omega), Option.bind_some]
      cases hB : B l i i with
      | true => simp only [if_true]; exact Ev.now _
      | false =>
        rw [hB] at hp
        have hc : closedAt l.length l i = false := by simpa using hp
        unfold closedAt at hc
        rw [hlen] at hc
        obtain ⟨j, hj, hbad, hless⟩ := least_false (allB_false.1 hc)
        simp only [Bool.false_eq_true, if_false, h.rd]
        refine Ev.bind (members_ev m (by omega) (row l i) (h.row_lt i)) ?_
        have hE := elems_length_le m (row l i)
        rw [ints_length]
        refine Ev.up (fun q k => impl_IsOrder.l1 k ((row l i : Nat) : Int) l (l.length : Int) (i : Int) (ints (elems m (row l i))) ((elems m (row l i)).length : Int) (q : Int) (m : Int) l) j ?_ ?_
        · intro q hq hn
          refine Ev.step (fun _ => rfl) ?_
          have hmem : (elems m (row l i)).getD q 0 ∈ elems m (row l i) := by simp [show q < (elems m (row l i)).length by omega]
          have hlt := (mem_elems.1 hmem).1
          have e0 : rd (ints (elems m (row l i))) (q : Int) = (((elems m (row l i)).getD q 0 : Nat) : Int) := by rw [rd_nat, ints_getD _ _ (by omega)]
          have hd : diff (row l ((elems m (row l i)).getD q 0)) (row l i) = 0 := beq_iff_eq.1 (hless q hq)
          simp only [impl_IsOrder.l1, if_pos (show (q : Int) < ((elems m (row l i)).length : Int) by omega), if_pos (show (0 : Int) ≤ (q : Int) by omega), ints_length, e0, if_pos (show (0 : Int) ≤ (((elems m (row l i)).getD q 0 : Nat) : Int) by omega), if_pos (show (((elems m (row l i)).getD q 0 : Nat) : Int) < (l.length : Int) by omega), h.rd, andNot_i64 _ _ (h.row_62 _) (h.row_62 _), hd, Int.natCast_zero, if_true, next64 q _ (show q < (elems m (row l i)).length by omega) (by omega)]
          exact hn
        · refine Ev.step (fun _ => rfl) ?_
          have hmem : (elems m (row l i)).getD j 0 ∈ elems m (row l i) := by simp [hj]
          have hlt := (mem_elems.1 hmem).1
          have e0 : rd (ints (elems m (row l i))) (j : Int) = (((elems m (row l i)).getD j 0 : Nat) : Int) := by rw [rd_nat, ints_getD _ _ (by omega)]
          have hd : ¬ ((diff (row l ((elems m (row l i)).getD j 0)) (row l i) : Nat) : Int) = 0 := by
            have := beq_eq_false_iff_ne.1 hbad
            omega
          simp only [impl_IsOrder.l1, if_pos (show (j : Int) < ((elems m (row l i)).length : Int) by omega), if_pos (show (0 : Int) ≤ (j : Int) by omega), ints_length, e0, if_pos (show (0 : Int) ≤ (((elems m (row l i)).getD j 0 : Nat) : Int) by omega), if_pos (show (((elems m (row l i)).getD j 0 : Nat) : Int) < (l.length : Int) by omega), h.rd, andNot_i64 _ _ (h.row_62 _) (h.row_62 _), if_neg hd]
          exact Ev.now _
    · refine Ev.step (fun _ => rfl) ?_
      simp only [impl_IsOrder.l0, if_neg (show ¬ (l.length : Int) < (l.length : Int) by omega)]
      exact Ev.now _
end Go.Proofs.YtjdkcafpgebjfaaDoor.M
namespace Go.Proofs.YtjdkcafpgebjfaaDoor.M
open Go.RowKit Go.Proofs.YtjdkcafpgebjfaaDoorW.PrintMore Go.Proofs.YtjdkcafpgebjfaaDoorW.PrintLast Go.Proofs.YtjdkcafpgebjfaaDoorW.PrintWords Go.Proofs.YtjdkcafpgebjfaaDoor.P
theorem orGood_ev (n : Int) (l : List Int) (hl : l.length ≤ 140737488355328) : Ev (fun k => spec_orGood.f k n l) (isOrd n l) := by
  unfold spec_orGood.f isOrd
  refine Ev.bind (orRelation_ev n l hl) ?_
  cases hr : isRel n l with
  | false => simp only [Bool.false_eq_true, if_false, Bool.false_and]; exact Ev.now _
  | true =>
    obtain ⟨m, rfl, h⟩ := isRel_iff.1 hr
    have hlen := h.len
    have h10 := h.le
    simp only [if_true, Bool.true_and]
    refine Ev.all (fun i k => spec_orGood.l0 k l (l.length : Int) (i : Int) (m : Int) l) l.length _ ?_ ?_ ?_
    · intro i r hi hp hrest
      rw [Bool.and_eq_true] at hp
      have hB : B l i i = false := by simpa using hp.1
      refine Ev.step (fun _ => rfl) ?_
      simp only [spec_orGood.l0, if_pos (show (i : Int) < (l.length : Int) by omega), if_pos (show (0 : Int) ≤ (i : Int) by omega), h.rd, orHas_eq (row l i) i (by omega), show (row l i).testBit i = B l i i from rfl, Option.bind_some, hB, Bool.false_eq_true, if_false]
      refine Ev.bind (orList_ev m (by omega) (row l i) (h.row_lt i)) ?_
      have hE := elems_length_le m (row l i)
      rw [ints_length]
      refine Ev.up (fun q k => spec_orGood.l1 k ((row l i : Nat) : Int) l (l.length : Int) (i : Int) (ints (elems m (row l i))) ((elems m (row l i)).length : Int) (q : Int) (m : Int) l) (elems m (row l i)).length ?_ ?_
      · intro q hq hn
        refine Ev.step (fun _ => rfl) ?_
        have hmem : (elems m (row l i)).getD q 0 ∈ elems m (row l i) := by simp [hq]
        have hlt := (mem_elems.1 hmem).1
        have e0 : rd (ints (elems m (row l i))) (q : Int) = (((elems m (row l i)).getD q 0 : Nat) : Int) := by rw [rd_nat, ints_getD _ _ hq]
        have hd : diff (row l ((elems m (row l i)).getD q 0)) (row l i) = 0 := by
          have hc := hp.2
          unfold closedAt at hc
          rw [allB_iff, hlen] at hc
          exact beq_iff_eq.1 (hc q hq)
        simp only [spec_orGood.l1, if_pos (show (q : Int) < ((elems m (row l i)).length : Int) by omega), if_pos (show (0 : Int) ≤ (q : Int) by omega), ints_length, e0, if_pos (show (0 : Int) ≤ (((elems m (row l i)).getD q 0 : Nat) : Int) by omega), if_pos (show (((elems m (row l i)).getD q 0 : Nat) : Int) < (l.length : Int) by omega), h.rd, andNot_i64 _ _ (h.row_62 _) (h.row_62 _), hd, Int.natCast_zero, if_true, next64 q _ hq (by omega)]
        exact hn
      · refine Ev.step (fun _ => rfl) ?_
        simp only [spec_orGood.l1, if_neg (show ¬ ((elems m (row l i)).length : Int) < ((elems m (row l i)).length : Int) by omega), next64 i l.length hi (by omega)]
        exact hrest
    · intro i hi hp
      refine Ev.step (fun _ => rfl) ?_
      simp only [spec_orGood.l0, if_pos (show (i : Int) < (l.length : Int) by omega), if_pos (show (0 : Int) ≤ (i : Int) by omega), h.rd, orHas_eq (row l i) i (by omega), show (row l i).testBit i = B l i i from rfl, Option.bind_some]
      cases hB : B l i i with
      | true => simp only [if_true]; exact Ev.now _
      | false =>
        rw [hB] at hp
        have hc : closedAt l.length l i = false := by simpa using hp
        unfold closedAt at hc
        rw [hlen] at hc
        obtain ⟨j, hj, hbad, hless⟩ := least_false (allB_false.1 hc)
        simp only [Bool.false_eq_true, if_false]
        refine Ev.bind (orList_ev m (by omega) (row l i) (h.row_lt i)) ?_
        have hE := elems_length_le m (row l i)
        rw [ints_length]
        refine Ev.up (fun q k => spec_orGood.l1 k ((row l i : Nat) : Int) l (l.length : Int) (i : Int) (ints (elems m (row l i))) ((elems m (row l i)).length : Int) (q : Int) (m : Int) l) j ?_ ?_
        · intro q hq hn
          refine Ev.step (fun _ => rfl) ?_
          have hmem : (elems m (row l i)).getD q 0 ∈ elems m (row l i) := by simp [show q < (elems m (row l i)).length by omega]
          have hlt := (mem_elems.1 hmem).1
          have e0 : rd (ints (elems m (row l i))) (q : Int) = (((elems m (row l i)).getD q 0 : Nat) : Int) := by rw [rd_nat, ints_getD _ _ (by omega)]
          have hd : diff (row l ((elems m (row l i)).getD q 0)) (row l i) = 0 := beq_iff_eq.1 (hless q hq)
          simp only [spec_orGood.l1, if_pos (show (q : Int) < ((elems m (row l i)).length : Int) by omega), if_pos (show (0 : Int) ≤ (q : Int) by omega), ints_length, e0, if_pos (show (0 : Int) ≤ (((elems m (row l i)).getD q 0 : Nat) : Int) by omega), if_pos (show (((elems m (row l i)).getD q 0 : Nat) : Int) < (l.length : Int) by omega), h.rd, andNot_i64 _ _ (h.row_62 _) (h.row_62 _), hd, Int.natCast_zero, if_true, next64 q _ (show q < (elems m (row l i)).length by omega) (by omega)]
          exact hn
        · refine Ev.step (fun _ => rfl) ?_
          have hmem : (elems m (row l i)).getD j 0 ∈ elems m (row l i) := by simp [hj]
          have hlt := (mem_elems.1 hmem).1
          have e0 : rd (ints (elems m (row l i))) (j : Int) = (((elems m (row l i)).getD j 0 : Nat) : Int) := by rw [rd_nat, ints_getD _ _ (by omega)]
          have hd : ¬ ((diff (row l ((elems m (row l i)).getD j 0)) (row l i) : Nat) : Int) = 0 := by
            have := beq_eq_false_iff_ne.1 hbad
            omega
          simp only [spec_orGood.l1, if_pos (show (j : Int) < ((elems m (row l i)).length : Int) by omega), if_pos (show (0 : Int) ≤ (j : Int) by omega), ints_length, e0, if_pos (show (0 : Int) ≤ (((elems m (row l i)).getD j 0 : Nat) : Int) by omega), if_pos (show (((elems m (row l i)).getD j 0 : Nat) : Int) < (l.length : Int) by omega), h.rd, andNot_i64 _ _ (h.row_62 _) (h.row_62 _), if_neg hd]
          exact Ev.now _
    · refine Ev.step (fun _ => rfl) ?_
      simp only [spec_orGood.l0, if_neg (show ¬ (l.length : Int) < (l.length : Int) by omega)]
      exact Ev.now _
theorem setOf_bit_or (q : Nat → Bool) (j : Nat) : setOf (j + 1) q = if q j then setOf j q ||| 2 ^ j else setOf j q := by
  show setOf j q ||| (if q j then 2 ^ j else 0) = _
  cases q j <;> simp
def part (n : Nat) (p : Nat → Nat → Bool) (i j : Nat) : List Int := (List.range n).map fun a => ((setOf (if a < i then n else if a = i then j else 0) (p a) : Nat) : Int)
theorem part_length (n : Nat) (p : Nat → Nat → Bool) (i j : Nat) : (part n p i j).length = n := by simp [part]
theorem part_getD (n : Nat) (p : Nat → Nat → Bool) (i j a : Nat) (h : a < n) : (part n p i j).getD a 0 = ((setOf (if a < i then n else if a = i then j else 0) (p a) : Nat) : Int) := by simp [part, h]
theorem part_next (n : Nat) (p : Nat → Nat → Bool) (i : Nat) : part n p i n = part n p (i + 1) 0 := by
  unfold part
  apply List.map_congr_left
  intro a _
  by_cases h1 : a < i
  · rw [if_pos h1, if_pos (by omega)]
  · rw [if_neg h1]
    by_cases h2 : a = i
    · rw [if_pos h2, if_pos (by omega)]
    · rw [if_neg h2, if_neg (by omega)]
      by_cases h3 : a = i + 1
      · rw [if_pos h3]
      · rw [if_neg h3]
theorem part_no (n : Nat) (p : Nat → Nat → Bool) (i j : Nat) (hi : i < n) (h : p i j = false) : part n p i j = part n p i (j + 1) := by
  unfold part
  apply List.map_congr_left
  intro a _
  by_cases h2 : a = i
  · subst h2
    rw [if_neg (Nat.lt_irrefl _), if_pos rfl, if_neg (Nat.lt_irrefl _), if_pos rfl, setOf_bit_or, h]
    rfl
  · rw [if_neg h2, if_neg h2]
theorem part_yes (n : Nat) (p : Nat → Nat → Bool) (i j : Nat) (hi : i < n) (h : p i j = true) : (part n p i j).set i ((setOf j (p i) ||| 2 ^ j : Nat) : Int) = part n p i (j + 1) := by
  apply list_ext_getD (by simp [part_length])
  intro a ha
  have ha : a < n := by simpa [part_length] using ha
  rw [part_getD n p i (j + 1) a ha]
  by_cases h2 : a = i
  · subst h2
    rw [if_neg (Nat.lt_irrefl _), if_pos rfl, setOf_bit_or, h]
    rw [List.getD_eq_getElem?_getD, List.getElem?_set_self (by rw [part_length]; exact hi)]
    rfl
  · have e : ((part n p i j).set i ((setOf j (p i) ||| 2 ^ j : Nat) : Int)).getD a 0 = (part n p i j).getD a 0 := by
      simp [List.getD, Ne.symm h2]
    rw [e, part_getD n p i j a ha, if_neg h2, if_neg h2]
theorem part_zero (n : Nat) (p : Nat → Nat → Bool) : part n p 0 0 = List.replicate n 0 := by
  apply list_ext_getD (by simp [part_length])
  intro a ha
  have ha : a < n := by simpa [part_length] using ha
  rw [part_getD n p 0 0 a ha, if_neg (Nat.not_lt_zero _)]
  have : (if a = 0 then 0 else 0) = 0 := by split <;> rfl
  rw [this]
  simp [setOf, ha]
theorem part_all (n : Nat) (p : Nat → Nat → Bool) : part n p n 0 = relL n p := by
  unfold part relL
  apply List.map_congr_left
  intro a ha
  rw [List.mem_range] at ha
  rw [if_pos ha]
theorem relation_ev (n : Nat) (hn : n ≤ 62) (g : Nat → Int → Int → Option Bool) (p : Nat → Nat → Bool) (hg : ∀ i j, i < n → j < n → Ev (fun k => g k (i : Int) (j : Int)) (p i j)) :
    Ev (fun k => impl_relation.f k (n : Int) (g k)) ((n : Int), relL n p) := by
  -- the tests all come to their answers from one number of rounds on
  obtain ⟨K, hK⟩ : ∃ K, ∀ k, K ≤ k → ∀ i j, i < n → j < n → g k (i : Int) (j : Int) = some (p i j) := by
    have one : ∀ m, ∃ K, ∀ k, K ≤ k → ∀ i j, i < n → j < n → i * n + j < m → g k (i : Int) (j : Int) = some (p i j) := by
      intro m
      induction m with
      | zero => exact ⟨0, fun k _ i j _ _ h => absurd h (Nat.not_lt_zero _)⟩
      | succ m ih =>
        obtain ⟨K, hK⟩ := ih
        by_cases hx : ∃ i j, i < n ∧ j < n ∧ i * n + j = m
        · obtain ⟨i, j, hi, hj, hm⟩ := hx
          obtain ⟨K', hK'⟩ := hg i j hi hj
          refine ⟨max K K', fun k hk i' j' hi' hj' h => ?_⟩
          by_cases he : i' * n + j' = m
          · have e1 : i' = i := by
              have a1 : (i' * n + j') / n = i' := by rw [Nat.mul_comm, Nat.mul_add_div (by omega), Nat.div_eq_of_lt hj', Nat.add_zero]
              have a2 : (i * n + j) / n = i := by rw [Nat.mul_comm, Nat.mul_add_div (by omega), Nat.div_eq_of_lt hj, Nat.add_zero]
              rw [← a1, ← a2, he, hm]
            subst e1
            have e2 : j' = j := by omega
            subst e2
            exact hK' k (by omega)
          · exact hK k (by omega) i' j' hi' hj' (by omega)
        · exact ⟨K, fun k hk i j hi hj h => hK k hk i j hi hj (by
            rcases Nat.lt_or_ge (i * n + j) m with h1 | h1
            · exact h1
            · exact absurd ⟨i, j, hi, hj, by omega⟩ hx)⟩
    obtain ⟨K, h⟩ := one (n * n + n)
    refine ⟨K, fun k hk i j hi hj => h k hk i j hi hj ?_⟩
    have : i * n ≤ n * n := Nat.mul_le_mul_right n (by omega)
    omega
  -- with the tests as' at one number
  have main : ∀ is : Int → Int → Option Bool, (∀ i j, i < n → j < n → is (i : Int) (j : Int) = some (p i j)) → Ev (fun k => impl_relation.f k (n : Int) is) ((n : Int), relL n p) := by
    intro is his
    unfold impl_relation.f
    simp only [if_pos (show (0 : Int) ≤ (n : Int) by omega), Int.toNat_natCast, if_pos (show n ≤ 35184372088832 by omega)]
    rw [← part_zero n p]
    refine Ev.up (fun i k => impl_relation.l0 is k (n : Int) (n : Int) (i : Int) (n : Int) (part n p i 0)) n ?_ ?_
    · intro i hi h
      refine Ev.step (fun _ => rfl) ?_
      simp only [impl_relation.l0, if_pos (show (i : Int) < (n : Int) by omega)]
      refine Ev.up (fun j k => impl_relation.l1 is k (n : Int) (i : Int) (n : Int) (i : Int) (n : Int) (j : Int) (n : Int) (part n p i j)) n ?_ ?_
      · intro j hj h
        refine Ev.step (fun _ => rfl) ?_
        simp only [impl_relation.l1, if_pos (show (j : Int) < (n : Int) by omega), his i j hi hj, Option.bind_some, next64 j n hj (by omega)]
        cases hp : p i j with
        | false =>
          simp only [Bool.false_eq_true, if_false]
          rw [part_no n p i j hi hp]
          exact h
        | true =>
          have hs : setOf j (p i) < 9223372036854775808 := setOf_62 _ _ (by omega)
          have h2 : (2 : Nat) ^ j < 9223372036854775808 := Nat.lt_of_le_of_lt (Nat.pow_le_pow_right (by decide) (by omega : j ≤ 62)) (by decide)
          have e1 : rd (part n p i j) (i : Int) = ((setOf j (p i) : Nat) : Int) := by
            rw [rd_nat, part_getD n p i j i hi, if_neg (Nat.lt_irrefl _), if_pos rfl]
          simp only [if_true, if_pos (show (0 : Int) ≤ (i : Int) by omega), part_length, if_pos (show (i : Int) < (n : Int) by omega), if_pos (show (0 : Int) ≤ (j : Int) by omega), e1, shl1 j (by omega), or_i64 _ _ hs h2, Int.toNat_natCast]
          rw [part_yes n p i j hi hp]
          exact h
      · refine Ev.step (fun _ => rfl) ?_
        simp only [impl_relation.l1, if_neg (show ¬ (n : Int) < (n : Int) by omega), next64 i n hi (by omega)]
        rw [part_next]
        exact h
    · refine Ev.step (fun _ => rfl) ?_
      simp only [impl_relation.l0, if_neg (show ¬ (n : Int) < (n : Int) by omega)]
      rw [part_all]
      exact Ev.now _
  -- the least test that answers so
  have h0 := main (fun x y => if 0 ≤ x ∧ x < n ∧ 0 ≤ y ∧ y < n then some (p x.toNat y.toNat) else none) (fun i j hi hj => by
    show (if _ then _ else _) = _
    rw [if_pos ⟨by omega, by omega, by omega, by omega⟩, Int.toNat_natCast, Int.toNat_natCast])
  obtain ⟨K', hK'⟩ := h0
  refine ⟨max K K' + 1, fun k hk => ?_⟩
  obtain ⟨d, rfl⟩ : ∃ d, k = d + 1 := ⟨k - 1, by omega⟩
  refine impl_relation.mono2 (is := fun x y => if 0 ≤ x ∧ x < n ∧ 0 ≤ y ∧ y < n then some (p x.toNat y.toNat) else none) (is' := g (d + 1)) (fun x y r hr => ?_) (n : Int) d _ (hK' d (by omega))
  by_cases hxy : 0 ≤ x ∧ x < n ∧ 0 ≤ y ∧ y < n
  · rw [if_pos hxy] at hr
    obtain ⟨i, rfl⟩ := Int.eq_ofNat_of_zero_le hxy.1
    obtain ⟨j, rfl⟩ := Int.eq_ofNat_of_zero_le hxy.2.2.1
    rw [Int.toNat_natCast, Int.toNat_natCast] at hr
    rw [hK (d + 1) (by omega) i j (by omega) (by omega)]
    exact hr
  · rw [if_neg hxy] at hr
    cases hr
end Go.Proofs.YtjdkcafpgebjfaaDoor.M
