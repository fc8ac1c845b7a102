/- A part of the proof that the law FnFourRefuse holds at every input. Written by wip/pack.py: the kit's printed words that are used, the functions' walks as wip/gen.py prints them, and hand proofs. -/
import Derived.Test.YtfjpilcmjabikaaDoorKFnFourRefuse0
namespace Go.Proofs.YtfjpilcmjabikaaDoor.P
open Go.RowKit Go.Proofs.YtfjpilcmjabikaaDoorW.PrintWords Go.Proofs.YtfjpilcmjabikaaDoorW.PrintLast Go.Proofs.YtfjpilcmjabikaaDoorW.PrintMore
open Bool renaming true → T, false → F
open List renaming setIfInBounds_toArray → L_, set_cons_zero → M_, set_cons_succ → N_, map_toArray → P_, map_cons → Q_, map_nil → R_, length_drop → S_, length_take → U_
open Aside0 renaming mk → A_
attribute [local go_sem] max2_int min2_int max_two min_two max_three min_three max_four min_four
set_option linter.unusedVariables false
set_option linter.unusedSimpArgs false
attribute [local go_sem] fldOrder_0 fldOrder_1
mutual
def impl_Order_pattern_1.l0 (is : List Int → Option (List Int)) : Nat → List Int → Int → Int → Int → Int → List Int → Int → List Int → Option (List Int)
 | 0,_,_,_,_,_,_,_,_=>none
 | k + 1,x0,x6,x20,x21,x538000,x538001,x539000,x539001=>if x21 < x20 then ((slices_Contains_int_int.f k x0 x21).bind fun t540=>(if t540 = true then (impl_Order_pattern_1.j1 is k x0 x6 x21 false x20 x21 x538000 x538001 x539000 x539001) else ((impl_Order_better.f x539000 x539001 x21 x21).bind fun t541=>((impl_Order_better.f x538000 x538001 x6 x6).bind fun t542=>(impl_Order_pattern_1.j1 is k x0 x6 x21 (t541 == t542) x20 x21 x538000 x538001 x539000 x539001))))) else (some ([] : List Int))
def impl_Order_pattern_1.j1 (is : List Int → Option (List Int)) : Nat → List Int → Int → Int → Bool → Int → Int → Int → List Int → Int → List Int → Option (List Int)
 | 0,_,_,_,_,_,_,_,_,_,_=>none
 | k + 1,x0,x6,x7,x8,x20,x21,x538000,x538001,x539000,x539001=>impl_Order_pattern_1.l1 is k x0 x6 x7 x8 x20 x21 x0 (x0.length : Int) 0 x538000 x538001 x539000 x539001
def impl_Order_pattern_1.l1 (is : List Int → Option (List Int)) : Nat → List Int → Int → Int → Bool → Int → Int → List Int → Int → Int → Int → List Int → Int → List Int → Option (List Int)
 | 0,_,_,_,_,_,_,_,_,_,_,_,_,_=>none
 | k + 1,x0,x6,x7,x8,x20,x21,x39,x40,x41,x538000,x538001,x539000,x539001=>if x41 < x40 then (if 0 ≤ x41 then (if x41 < (x39.length : Int) then (if x8 = true then ((impl_Order_better.f x539000 x539001 x7 (rd x39 x41)).bind fun t544=>((impl_Order_better.f x538000 x538001 x6 x41).bind fun t545=>(if (t544 == t545) = true then ((impl_Order_better.f x539000 x539001 (rd x39 x41) x7).bind fun t546=>((impl_Order_better.f x538000 x538001 x41 x6).bind fun t547=>(impl_Order_pattern_1.l1 is k x0 x6 x7 (t546 == t547) x20 x21 x39 x40 (wrap64 (x41 + 1)) x538000 x538001 x539000 x539001))) else (impl_Order_pattern_1.l1 is k x0 x6 x7 false x20 x21 x39 x40 (wrap64 (x41 + 1)) x538000 x538001 x539000 x539001)))) else (impl_Order_pattern_1.l1 is k x0 x6 x7 false x20 x21 x39 x40 (wrap64 (x41 + 1)) x538000 x538001 x539000 x539001)) else (none)) else (none)) else (if x8 = true then ((slices_Clone_int_int.f x0).bind fun t548=>((some (([x7] : List Int) : List Int)).bind fun y551=>(if t548.length + y551.length < 17592186044416 then ((is (t548 ++ y551)).bind fun t557=>(if t557 = ([] : List Int) then (impl_Order_pattern_1.l0 is k x0 x6 x20 (wrap64 (x21 + 1)) x538000 x538001 x539000 x539001) else (some t557))) else (none)))) else (impl_Order_pattern_1.l0 is k x0 x6 x20 (wrap64 (x21 + 1)) x538000 x538001 x539000 x539001))
end
def impl_Order_pattern_1.g (is : List Int → Option (List Int)) (k : Nat) (l0 : List Int) (a1_0 : Int) (l1_1 : List Int) (a2_0 : Int) (l2_1 : List Int) (a3_0 : Int) : Option (List Int) := if (l0.length : Int) = a1_0 then (some l0) else (impl_Order_pattern_1.l0 is k l0 (l0.length : Int) a2_0 0 a1_0 l1_1 a2_0 l2_1)
theorem impl_Order_pattern_1.mono_l {is is' : List Int → Option (List Int)} (hi : ∀ x,LeO (is x) (is' x)) : ∀ k,(∀ y0 y1 y2 y3 y4 y5 y6 y7,LeO (impl_Order_pattern_1.l0 is k y0 y1 y2 y3 y4 y5 y6 y7) (impl_Order_pattern_1.l0 is' (k + 1) y0 y1 y2 y3 y4 y5 y6 y7)) ∧ (∀ y0 y1 y2 y3 y4 y5 y6 y7 y8 y9,LeO (impl_Order_pattern_1.j1 is k y0 y1 y2 y3 y4 y5 y6 y7 y8 y9) (impl_Order_pattern_1.j1 is' (k + 1) y0 y1 y2 y3 y4 y5 y6 y7 y8 y9)) ∧ (∀ y0 y1 y2 y3 y4 y5 y6 y7 y8 y9 y10 y11 y12,LeO (impl_Order_pattern_1.l1 is k y0 y1 y2 y3 y4 y5 y6 y7 y8 y9 y10 y11 y12) (impl_Order_pattern_1.l1 is' (k + 1) y0 y1 y2 y3 y4 y5 y6 y7 y8 y9 y10 y11 y12))
 | 0=>⟨fun _ _ _ _ _ _ _ _ r h=>by simp [impl_Order_pattern_1.l0] at h,fun _ _ _ _ _ _ _ _ _ _ r h=>by simp [impl_Order_pattern_1.j1] at h,fun _ _ _ _ _ _ _ _ _ _ _ _ _ r h=>by simp [impl_Order_pattern_1.l1] at h⟩
 | k + 1=>by
  obtain ⟨ih0,ih1,ih2⟩:=impl_Order_pattern_1.mono_l hi k;refine ⟨?_,?_,?_⟩
  ·intro y0 y1 y2 y3 y4 y5 y6 y7
   unfold impl_Order_pattern_1.l0
   repeat' first
   | (with_reducible exact hi _)
   | (with_reducible exact ih0 _ _ _ _ _ _ _ _)
   | (with_reducible exact ih1 _ _ _ _ _ _ _ _ _ _)
   | (with_reducible exact ih2 _ _ _ _ _ _ _ _ _ _ _ _ _)
   | (with_reducible exact slices_Contains_int_int.mono _ _ _)
   | (with_reducible exact LeO.refl _)
   | (with_reducible exact LeO.none _)
   | (with_reducible refine LeO.ite ?_ ?_)
   | (with_reducible refine LeO.bind ?_ (fun _=>?_))
   | exact ih0 _ _ _ _ _ _ _ _
   | exact ih1 _ _ _ _ _ _ _ _ _ _
   | exact ih2 _ _ _ _ _ _ _ _ _ _ _ _ _
   | exact slices_Contains_int_int.mono _ _ _
   | exact LeO.none _
   | refine LeO.ite ?_ ?_
   | refine LeO.bind ?_ (fun _=>?_)
  ·intro y0 y1 y2 y3 y4 y5 y6 y7 y8 y9
   unfold impl_Order_pattern_1.j1
   repeat' first
   | (with_reducible exact hi _)
   | (with_reducible exact ih0 _ _ _ _ _ _ _ _)
   | (with_reducible exact ih1 _ _ _ _ _ _ _ _ _ _)
   | (with_reducible exact ih2 _ _ _ _ _ _ _ _ _ _ _ _ _)
   | (with_reducible exact slices_Contains_int_int.mono _ _ _)
   | (with_reducible exact LeO.refl _)
   | (with_reducible exact LeO.none _)
   | (with_reducible refine LeO.ite ?_ ?_)
   | (with_reducible refine LeO.bind ?_ (fun _=>?_))
   | exact ih0 _ _ _ _ _ _ _ _
   | exact ih1 _ _ _ _ _ _ _ _ _ _
   | exact ih2 _ _ _ _ _ _ _ _ _ _ _ _ _
   | exact slices_Contains_int_int.mono _ _ _
   | exact LeO.none _
   | refine LeO.ite ?_ ?_
   | refine LeO.bind ?_ (fun _=>?_)
  ·intro y0 y1 y2 y3 y4 y5 y6 y7 y8 y9 y10 y11 y12
   unfold impl_Order_pattern_1.l1
   repeat' first
   | (with_reducible exact hi _)
   | (with_reducible exact ih0 _ _ _ _ _ _ _ _)
   | (with_reducible exact ih1 _ _ _ _ _ _ _ _ _ _)
   | (with_reducible exact ih2 _ _ _ _ _ _ _ _ _ _ _ _ _)
   | (with_reducible exact slices_Contains_int_int.mono _ _ _)
   | (with_reducible exact LeO.refl _)
   | (with_reducible exact LeO.none _)
   | (with_reducible refine LeO.ite ?_ ?_)
   | (with_reducible refine LeO.bind ?_ (fun _=>?_))
   | exact ih0 _ _ _ _ _ _ _ _
   | exact ih1 _ _ _ _ _ _ _ _ _ _
   | exact ih2 _ _ _ _ _ _ _ _ _ _ _ _ _
   | exact slices_Contains_int_int.mono _ _ _
   | exact LeO.none _
   | refine LeO.ite ?_ ?_
   | refine LeO.bind ?_ (fun _=>?_)
theorem impl_Order_pattern_1.mono2 {is is' : List Int → Option (List Int)} (hi : ∀ x,LeO (is x) (is' x)) : ∀ a0 a1 a2 a3 a4 a5 k,LeO (impl_Order_pattern_1.g is k a0 a1 a2 a3 a4 a5) (impl_Order_pattern_1.g is' (k + 1) a0 a1 a2 a3 a4 a5):=by
 intro a0 a1 a2 a3 a4 a5 k
 obtain ⟨ih0,ih1,ih2⟩:=impl_Order_pattern_1.mono_l hi k;unfold impl_Order_pattern_1.g
 repeat' first
  | (with_reducible exact hi _)
  | (with_reducible exact ih0 _ _ _ _ _ _ _ _)
  | (with_reducible exact ih1 _ _ _ _ _ _ _ _ _ _)
  | (with_reducible exact ih2 _ _ _ _ _ _ _ _ _ _ _ _ _)
  | (with_reducible exact slices_Contains_int_int.mono _ _ _)
  | (with_reducible exact LeO.refl _)
  | (with_reducible exact LeO.none _)
  | (with_reducible refine LeO.ite ?_ ?_)
  | (with_reducible refine LeO.bind ?_ (fun _ => ?_))
  | exact ih0 _ _ _ _ _ _ _ _
  | exact ih1 _ _ _ _ _ _ _ _ _ _
  | exact ih2 _ _ _ _ _ _ _ _ _ _ _ _ _
  | exact slices_Contains_int_int.mono _ _ _
  | exact LeO.none _
  | refine LeO.ite ?_ ?_
  | refine LeO.bind ?_ (fun _ => ?_)
theorem impl_Order_pattern_1.nilAt {P : Program} (w : World) (d : Nat) (t e : TypeId) (a : Option Addr) (l c : Nat) (h : P.underlying t = some (.slice e)) : (Op.equalIn (d + 1) t (.slice a l c) (.slice none 0 0)).run P w = .ok a.isNone w:=by
 cases a <;> simp [Op.equalIn,run_underlying h]
theorem impl_Order_pattern_1.nilNo {P : Program} (w : World) (t e : TypeId) (a : Option Addr) (l c : Nat) (h : P.underlying t = some (.slice e)) : (binOp .neq t (.slice a l c) (.slice none 0 0)).run P w = .ok (.bool (!a.isNone)) w:=by
 have h1 : (Op.equal t (.slice a l c) (.slice none 0 0)).run P w = .ok a.isNone w:=impl_Order_pattern_1.nilAt w 9999 t e a l c h;simp [binOp,h1]
theorem impl_Order_pattern_1.nilN (w : World) (a : Option Addr) (l c : Nat) : (binOp .neq 24 (.slice a l c) (.slice none 0 0)).run Tryd.prog w = .ok (.bool (!a.isNone)) w:=impl_Order_pattern_1.nilNo w _ _ a l c Tryd.underlying24
theorem impl_Order_pattern_1.nilFact {w : World} {base e : Nat} {ok : Nat → Prop} {A : Option Addr} {n c : Nat} {xs : List Int} (h : Kd.R (Kd.int .i64) e w base ok (.slice A n c) xs) (hz : xs = [] → (.slice A n c : Value) = .slice none 0 0) : A.isNone = (xs == ([] : List Int)):=by
 by_cases hx : xs = []
 ·have:=hz hx;injection this with h1;rw [h1,hx];rfl
 ·obtain ⟨hn,_,hC⟩:=Kd.R_reads' h;have hpos : 0 < xs.length:=List.length_pos_iff.2 hx;obtain ⟨ad,e1,_⟩:=hC.2.2 hpos;rw [e1];cases xs with
  | nil => exact absurd rfl hx
  | cons x l => rfl
attribute [local go_sem] impl_Order_pattern_1.nilN
def impl_Order_pattern_1.T7 : Bool × List (List Nat × List Nat) := (true, [([], []), ([], []), ([0, 1], [0, 1]), ([2], [2]), ([3, 2], [3]), ([4], [4]), ([4], [4]), ([4], [4]), ([5, 6, 7, 4, 4], [4, 5, 6, 7]), ([4], [4]), ([4], [4]), ([4], [4]), ([9, 10, 11, 8, 4], [4, 9, 10, 11]), ([8, 12, 4], [4, 8, 12]), ([4, 13], [4, 13]), ([14, 12, 0, 1, 2, 3, 4, 5, 6, 7, 8, 9, 10, 11, 12, 13, 14], [14])])
def impl_Order_pattern_1.B7 : List Nat := [0, 0, 3, 7, 15, 31, 31, 31, 255, 31, 31, 31, 4095, 8191, 16383, 32767]
theorem impl_Order_pattern_1.tab7 : rtab .any (opsOf Tryd.f128 7) = impl_Order_pattern_1.T7:=by kernel_rfl
theorem impl_Order_pattern_1.bits7 : waitsOk impl_Order_pattern_1.T7.2 impl_Order_pattern_1.B7 = true:=by kernel_rfl
def impl_Order_pattern_1.T11 : Bool × List (List Nat × List Nat) := (true, [([], []), ([0], [0]), ([1], [1]), ([1], [1]), ([1], [1]), ([2, 3, 4, 1, 1], [1, 2, 3, 4]), ([1], [1]), ([1], [1]), ([1], [1]), ([6, 7, 8, 5, 1], [1, 6, 7, 8]), ([5, 9, 1], [1, 5, 9]), ([1, 10], [1, 10]), ([11, 9], [11]), ([12], [12]), ([12], [12]), ([12], [12]), ([13, 14, 15, 12, 12], [12, 13, 14, 15]), ([12], [12]), ([12], [12]), ([12], [12]), ([17, 18, 19, 16, 12], [12, 17, 18, 19]), ([16, 20, 12], [12, 16, 20]), ([12, 21], [12, 21]), ([22, 20, 0, 1, 2, 3, 4, 5, 6, 7, 8, 9, 10, 11, 12, 13, 14, 15, 16, 17, 18, 19, 20, 21, 22], [0, 22])])
def impl_Order_pattern_1.B11 : List Nat := [0, 1, 3, 3, 3, 31, 3, 3, 3, 511, 1023, 2047, 4095, 8191, 8191, 8191, 65535, 8191, 8191, 8191, 1048575, 2097151, 4194303, 8388607]
theorem impl_Order_pattern_1.tab11 : rtab .any (opsOf Tryd.f128 11) = impl_Order_pattern_1.T11:=by kernel_rfl
theorem impl_Order_pattern_1.bits11 : waitsOk impl_Order_pattern_1.T11.2 impl_Order_pattern_1.B11 = true:=by kernel_rfl
def impl_Order_pattern_1.T14 : Bool × List (List Nat × List Nat) := (true, [([], []), ([], []), ([1], [1]), ([], []), ([3], [3]), ([2, 4, 2], [2, 4]), ([0, 5, 5], [0, 5]), ([6, 6, 0, 1, 2, 3, 4, 5, 6], [6])])
def impl_Order_pattern_1.B14 : List Nat := [0, 0, 2, 0, 8, 30, 63, 127]
theorem impl_Order_pattern_1.tab14 : rtab .any (opsOf Tryd.f128 14) = impl_Order_pattern_1.T14:=by kernel_rfl
theorem impl_Order_pattern_1.bits14 : waitsOk impl_Order_pattern_1.T14.2 impl_Order_pattern_1.B14 = true:=by kernel_rfl
set_option maxHeartbeats 8000000 in
set_option maxRecDepth 100000 in
theorem impl_Order_pattern_1.calls0 (k : Nat) (is : List Int → Option (List Int)) (A0 : Option Addr) (c0 : Nat) (l0 : List Int) (g1_ : Nat) (a1_0 : Int) (A1_1 : Option Addr) (c1_1 : Nat) (l1_1 : List Int) (g2_ : Nat) (a2_0 : Int) (A2_1 : Option Addr) (c2_1 : Nat) (l2_1 : List Int) (g3_ : Nat) (a3_0 : Int) (bs : Nat) (r : List Int) (w : World) (hbs : bs ≤ w.heap.size) (ho : Kd.R (Kd.int .i64) 3 w bs (fun _=>True) (.slice A0 l0.length c0) l0) (hb1 : w.heap[g1_]? = some (.cells #[.int .i64 a1_0,.slice A1_1 l1_1.length c1_1] 26 (0,0))) (hr1_1 : Kd.C (Kd.int .i64) w A1_1 l1_1.length l1_1) (hc1_1 : l1_1.length ≤ c1_1) (hb2 : w.heap[g2_]? = some (.cells #[.int .i64 a2_0,.slice A2_1 l2_1.length c2_1] 26 (0,0))) (hr2_1 : Kd.C (Kd.int .i64) w A2_1 l2_1.length l2_1) (hc2_1 : l2_1.length ≤ c2_1) (hb3 : w.heap[g3_]? = some (.cells #[.func (.func 128) #[] #[.pointer (some ⟨g1_,0,none⟩),.pointer (some ⟨g2_,0,none⟩),.pointer (some ⟨g3_,0,none⟩)]] 35 (0,0))) (hn1_2 : g1_ ≠ g2_) (hn1_3 : g1_ ≠ g3_) (hn2_3 : g2_ ≠ g3_) (hI : ∀ (W : World) (A : Option Addr) (c b : Nat) (z s : List Int),Below w.heap.size w W → b ≤ W.heap.size → Kd.R (Kd.int .i64) 3 W b (fun _=>True) (.slice A z.length c) z → is z = some s → Calls Tryd.prog 128 #[.slice A z.length c,.pointer (some ⟨g1_,0,none⟩),.pointer (some ⟨g2_,0,none⟩),.pointer (some ⟨g3_,0,none⟩)] W fun e W'=>∃ v0_ : Value,e = .returned v0_ ∧ Kd.R (Kd.int .i64) 3 W' b (fun _=>True) v0_ s ∧ Below W.heap.size W W' ∧ (z ≠ [] → s = [] → v0_ = .slice none 0 0)) (h : impl_Order_pattern_1.g is k l0 a1_0 l1_1 a2_0 l2_1 a3_0 = some r) :
 Calls Tryd.prog 128 #[.slice A0 l0.length c0,.pointer (some ⟨g1_,0,none⟩),.pointer (some ⟨g2_,0,none⟩),.pointer (some ⟨g3_,0,none⟩)] w fun e w'=>∃ v0_ : Value,e = .returned v0_ ∧ Kd.R (Kd.int .i64) 3 w' bs (fun _=>True) v0_ r ∧ Below w.heap.size w w' ∧ (l0 ≠ [] ∨ a1_0 ≠ 0 → r = [] → v0_ = .slice none 0 0) ∧ ((l0.length : Int) = a1_0 → v0_ = .slice A0 l0.length c0):=by
 have hr0:=(Kd.R_reads' ho).2.2;have hc0:=(Kd.R_reads' ho).2.1;have HOWN:=A_ ho;have HBS:=A_ hbs;have HI:=A_ hI;clear ho hbs hI;have hu28:=Tryd.underlying26;have HR0:=A_ hr0;have HC0:=A_ hc0;clear hr0 hc0;have HR1_1:=A_ hr1_1;have HC1_1:=A_ hc1_1;clear hr1_1 hc1_1;have HR2_1:=A_ hr2_1;have HC2_1:=A_ hc2_1;clear hr2_1 hc2_1;have BK537:=A_ hb1;clear hb1;have BK538:=A_ hb2;clear hb2;have BK539:=A_ hb3;clear hb3;have NB537_538:=A_ hn1_2;have NB538_537:=A_ (Ne.symm hn1_2);clear hn1_2;have NB537_539:=A_ hn1_3;have NB539_537:=A_ (Ne.symm hn1_3);clear hn1_3;have NB538_539:=A_ hn2_3;have NB539_538:=A_ (Ne.symm hn2_3);clear hn2_3;have HB:=A_ (Below.refl w.heap.size w);have H : (if (l0.length : Int) = a1_0 then (some l0) else (impl_Order_pattern_1.l0 is k l0 (l0.length : Int) a2_0 0 a1_0 l1_1 a2_0 l2_1)) = some r:=h;clear h;by_cases c5 : (l0.length : Int) = a1_0
 ·have HC5_:=A_ c5;rw [if_pos c5] at H;have c5b0 : ((l0.length : Int) == a1_0) = true:=beq_iff_eq.mpr c5;have c5b1 : ((l0.length : Int) != a1_0) = false:=bne_eq_false_iff_eq.mpr c5;clear c5;obtain rfl:=Option.some.inj H;have hnb6:=NB537_538.out;have hnc6:=NB538_537.out;have hnb7:=NB537_539.out;have hnc7:=NB539_537.out;have hcz8_0 : w.cell? ⟨g1_,0,none⟩ = some (.int .i64 a1_0):=blk_cell BK537.out 0;have hcz8_1 : w.cell? ⟨g1_,1,none⟩ = some (.slice A1_1 l1_1.length c1_1):=blk_cell BK537.out 1;have hfz8_0:=blk_frozen BK537.out 0;have hfz8_1:=blk_frozen BK537.out 1;go_enter Tryd.func128,Tryd.ntmps128
  go_wp2
  go_ret
  exact ⟨_,rfl,by (with_reducible repeat (first|apply Kd.R_alloc|apply Kd.R_drewN|apply Kd.R_drew));exact HOWN.out,bb_,by
   rintro h1_ h2_
   rcases h1_ with h1_|h1_
   ·exact absurd h2_ h1_
   ·rw [h2_] at HC5_;exact absurd HC5_.out.symm h1_,fun _=>rfl⟩
 ·have HC5_:=A_ c5;rw [if_neg c5] at H;have c5b0 : ((l0.length : Int) == a1_0) = false:=beq_eq_false_iff_ne.mpr c5;have c5b1 : ((l0.length : Int) != a1_0) = true:=bne_iff_ne.mpr c5;have H':=A_ H;clear H;have hnb9:=NB537_538.out;have hnc9:=NB538_537.out;have hnb10:=NB537_539.out;have hnc10:=NB539_537.out;have hcz11_0 : w.cell? ⟨g1_,0,none⟩ = some (.int .i64 a1_0):=blk_cell BK537.out 0;have hcz11_1 : w.cell? ⟨g1_,1,none⟩ = some (.slice A1_1 l1_1.length c1_1):=blk_cell BK537.out 1;have hfz11_0:=blk_frozen BK537.out 0;have hfz11_1:=blk_frozen BK537.out 1;have hnb12:=NB538_539.out;have hnc12:=NB539_538.out;have hcz13_0 : w.cell? ⟨g2_,0,none⟩ = some (.int .i64 a2_0):=blk_cell BK538.out 0;have hcz13_1 : w.cell? ⟨g2_,1,none⟩ = some (.slice A2_1 l2_1.length c2_1):=blk_cell BK538.out 1;have hfz13_0:=blk_frozen BK538.out 0;have hfz13_1:=blk_frozen BK538.out 1;go_enter Tryd.func128,Tryd.ntmps128
  go_wp2
  go_loopg [21] k (fun kq v21 w'=>∃ (x21_1 : Int),v21 = .int .i64 x21_1 ∧ Aside0 (impl_Order_pattern_1.l0 is kq l0 (l0.length : Int) a2_0 x21_1 a1_0 l1_1 a2_0 l2_1 = some r) ∧ Aside0 (kq ≤ k) ∧ Aside0 (w'.heap[g1_]? = some (.cells #[.int .i64 a1_0,(.slice A1_1 l1_1.length c1_1)] 26 (0,0))) ∧ Aside0 (w'.heap[g2_]? = some (.cells #[.int .i64 a2_0,(.slice A2_1 l2_1.length c2_1)] 26 (0,0))) ∧ Aside0 (w'.heap[g3_]? = some (.cells #[.func (.func 128) #[] #[.pointer (some ⟨g1_,0,none⟩),.pointer (some ⟨g2_,0,none⟩),.pointer (some ⟨g3_,0,none⟩)]] 35 (0,0))) ∧ Aside0 (Below w.heap.size w w'))
  case atStart=>exact ⟨(0),(by first|rfl|(simp;done)|(simp [*];done)),H',⟨Nat.le_refl _⟩,⟨bl_ BK537⟩,⟨bl_ BK538⟩,⟨bl_ BK539⟩,⟨bb_⟩⟩
  case round =>
   clear H';try clear c1
   try clear c2
   try clear p2
   try clear c5
   try clear c5b0
   try clear c5b1
   try clear c6
   try clear c7
   try clear c9
   try clear c10
   try clear c12
   try clear hcz11_0
   try clear hcz11_1
   try clear hcz13_0
   try clear hcz13_1
   try clear hcz8_0
   try clear hcz8_1
   try clear hfz11_0
   try clear hfz11_1
   try clear hfz13_0
   try clear hfz13_1
   try clear hfz8_0
   try clear hfz8_1
   obtain ⟨x21_1,rfl,HA,HK1,BK537,BK538,BK539,HB⟩:=hrel;cases gk with
   | zero=>exact absurd HA.out (by simp [impl_Order_pattern_1.l0])
   | succ k1 =>
    have H:=HA.out;clear HA;simp only [impl_Order_pattern_1.l0] at H
    by_cases c14 : x21_1 < a2_0
    ·rw [if_pos c14] at H;have c14b0 : decide (x21_1 < a2_0) = true:=decide_eq_true c14;clear c14;have HC15:=A_ H;clear H;go_upto_region 7 with (fail)
     go_cut [8] (fun v8 wc=>∃ (kq : Nat) (x8_14 : Bool),v8 = .bool x8_14 ∧ Aside0 (impl_Order_pattern_1.j1 is kq l0 (l0.length : Int) x21_1 x8_14 a2_0 x21_1 a1_0 l1_1 a2_0 l2_1 = some r) ∧ Aside0 (kq ≤ k1) ∧ Aside0 (wc.heap[g1_]? = some (.cells #[.int .i64 a1_0,(.slice A1_1 l1_1.length c1_1)] 26 (0,0))) ∧ Aside0 (wc.heap[g2_]? = some (.cells #[.int .i64 a2_0,(.slice A2_1 l2_1.length c2_1)] 26 (0,0))) ∧ Aside0 (wc.heap[g3_]? = some (.cells #[.func (.func 128) #[] #[.pointer (some ⟨g1_,0,none⟩),.pointer (some ⟨g2_,0,none⟩),.pointer (some ⟨g3_,0,none⟩)]] 35 (0,0))) ∧ Aside0 (Below w.heap.size w wc))
     case first =>
      have H:=HC15.out;clear HC15;replace H:=Option.bind_eq_some_iff.mp H;obtain ⟨t540,A160,H⟩:=H;replace H : (if t540 = true then (impl_Order_pattern_1.j1 is k1 l0 (l0.length : Int) x21_1 false a2_0 x21_1 a1_0 l1_1 a2_0 l2_1) else ((impl_Order_better.f a2_0 l2_1 x21_1 x21_1).bind fun t541=>((impl_Order_better.f a1_0 l1_1 (l0.length : Int) (l0.length : Int)).bind fun t542=>(impl_Order_pattern_1.j1 is k1 l0 (l0.length : Int) x21_1 (t541 == t542) a2_0 x21_1 a1_0 l1_1 a2_0 l2_1)))) = some r:=H;have A16:=A_ A160;clear A160;by_cases c17 : t540 = true
      ·subst c17;have H1 : (impl_Order_pattern_1.j1 is k1 l0 (l0.length : Int) x21_1 false a2_0 x21_1 a1_0 l1_1 a2_0 l2_1) = some r:=by rw [if_pos rfl] at H;exact H
       clear H;have H:=H1;clear H1;have H':=A_ H;clear H;try go_wp2
       replace BK537:=A_ (blk_drew BK537.out);replace BK538:=A_ (blk_drew BK538.out);replace BK539:=A_ (blk_drew BK539.out);replace HB:=A_ (below_drew1 HB.out);refine start_ (n:=16) (S:=fun w'=>True) (ds:=[]) #[F,F,F,F,F,F,F,F,F,F,F,F,F,F,F,F] (by kernel_rfl) rfl rfl trivial (fun hHeld=>?_);refine with_tabW impl_Order_pattern_1.tab7 impl_Order_pattern_1.bits7 (fun HT_ HW_=>?_)
       generalize wr.drew = w18 at BK537 BK538 BK539 HB hHeld ⊢
       refine pure_ (i:=0) (N:=some 24) (v:=?_) (a':=?_) #[T,F,F,F,F,F,F,F,F,F,F,F,F,F,F,F] rfl rfl (any_of HT_.out (by kernel_rfl)) (fun _ _ _ h=>h) (Or.inl ⟨by rfl,?_⟩) ?_ ?_
       rotate_left;·intro w';go_simp;with_reducible rfl
       rotate_left;·simp only [Act.put,L_,M_,N_,i64_w,i32_w];rfl
       refine pure_ (i:=1) (N:=some 25) (v:=?_) (a':=?_) #[T,T,F,F,F,F,F,F,F,F,F,F,F,F,F,F] rfl rfl (any_of HT_.out (by kernel_rfl)) (fun _ _ _ h=>h) (Or.inl ⟨by rfl,?_⟩) ?_ ?_
       rotate_left;·intro w';go_simp;with_reducible rfl
       rotate_left;·simp only [Act.put,L_,M_,N_,i64_w,i32_w];rfl
       refine one_ (i:=2) (N:=some 26) #[T,T,T,F,F,F,F,F,F,F,F,F,F,F,F,F] rfl rfl (one_of HT_.out (by kernel_rfl)) (by decide) (fun K hK=>?_)
       refine goes_ Tryd.func129 (by kernel_rfl) rfl #[.slice A0 l0.length c0,.int .i64 x21_1] (by rfl) rfl rfl au_ ?_
       with_reducible refine (slices_Contains_int_int.calls k1 _ _ l0 x21_1 true _ ?side1 ?side2 A16.out).mono ?_
       (case side1=>exact cl_ (Kd.C_below HR0.out HB.out))
       (case side2=>exact HC0.out)
       rintro e w' ⟨rfl,⟨nd,rfl⟩⟩
       refine ⟨_,rfl,?_⟩
       refine hK.out _ _ trivial (fun hHeld=>?_)
       clear hK K;refine norm_ (a':=?_) ?_ ?_
       rotate_left
       ·show Act.put _ (some 26) _ = _
        simp only [Act.put,L_,M_,N_,i64_w,i32_w]
        rfl
       refine pure_ (i:=3) (N:=some 27) (v:=?_) (a':=?_) #[T,T,T,T,F,F,F,F,F,F,F,F,F,F,F,F] rfl rfl (any_of HT_.out (by kernel_rfl)) (fun _ _ _ h=>h) (Or.inl ⟨by rfl,?_⟩) ?_ ?_
       rotate_left;·intro w';go_simp;with_reducible rfl
       rotate_left;·simp only [Act.put,L_,M_,N_,i64_w,i32_w];rfl
       refine pure_ (i:=4) (N:=some 28) (v:=?_) (a':=?_) #[T,T,T,T,T,F,F,F,F,F,F,F,F,F,F,F] rfl rfl (any_of HT_.out (by kernel_rfl)) (fun _ _ _ h=>h) (Or.inl ⟨by rfl,?_⟩) ?_ ?_
       rotate_left;·intro w';go_simp;with_reducible rfl
       rotate_left;·simp only [Act.put,L_,M_,N_,i64_w,i32_w];rfl
       refine pure_ (i:=5) (N:=some 29) (v:=undef) (a':=?_) #[T,T,T,T,T,T,F,F,F,F,F,F,F,F,F,F] rfl rfl (any_of HT_.out (by kernel_rfl)) (fun _ _ _ h=>h) (Or.inr ⟨by rfl,rfl⟩) ?_ ?_
       rotate_left;·simp only [Act.put,L_,M_,N_,i64_w,i32_w];rfl
       refine pure_ (i:=6) (N:=some 30) (v:=undef) (a':=?_) #[T,T,T,T,T,T,T,F,F,F,F,F,F,F,F,F] rfl rfl (any_of HT_.out (by kernel_rfl)) (fun _ _ _ h=>h) (Or.inr ⟨by rfl,rfl⟩) ?_ ?_
       rotate_left;·simp only [Act.put,L_,M_,N_,i64_w,i32_w];rfl
       refine pure_ (i:=7) (N:=some 31) (v:=undef) (a':=?_) #[T,T,T,T,T,T,T,T,F,F,F,F,F,F,F,F] rfl rfl (any_of HT_.out (by kernel_rfl)) (fun _ _ _ h=>h) (Or.inr ⟨by rfl,rfl⟩) ?_ ?_
       rotate_left;·simp only [Act.put,L_,M_,N_,i64_w,i32_w];rfl
       refine pure_ (i:=8) (N:=some 32) (v:=undef) (a':=?_) #[T,T,T,T,T,T,T,T,T,F,F,F,F,F,F,F] rfl rfl (any_of HT_.out (by kernel_rfl)) (fun _ _ _ h=>h) (Or.inr ⟨by rfl,rfl⟩) ?_ ?_
       rotate_left;·simp only [Act.put,L_,M_,N_,i64_w,i32_w];rfl
       refine pure_ (i:=9) (N:=some 33) (v:=undef) (a':=?_) #[T,T,T,T,T,T,T,T,T,T,F,F,F,F,F,F] rfl rfl (any_of HT_.out (by kernel_rfl)) (fun _ _ _ h=>h) (Or.inr ⟨by rfl,rfl⟩) ?_ ?_
       rotate_left;·simp only [Act.put,L_,M_,N_,i64_w,i32_w];rfl
       refine pure_ (i:=10) (N:=some 34) (v:=undef) (a':=?_) #[T,T,T,T,T,T,T,T,T,T,T,F,F,F,F,F] rfl rfl (any_of HT_.out (by kernel_rfl)) (fun _ _ _ h=>h) (Or.inr ⟨by rfl,rfl⟩) ?_ ?_
       rotate_left;·simp only [Act.put,L_,M_,N_,i64_w,i32_w];rfl
       refine pure_ (i:=11) (N:=some 35) (v:=undef) (a':=?_) #[T,T,T,T,T,T,T,T,T,T,T,T,F,F,F,F] rfl rfl (any_of HT_.out (by kernel_rfl)) (fun _ _ _ h=>h) (Or.inr ⟨by rfl,rfl⟩) ?_ ?_
       rotate_left;·simp only [Act.put,L_,M_,N_,i64_w,i32_w];rfl
       refine pure_ (i:=12) (N:=some 36) (v:=undef) (a':=?_) #[T,T,T,T,T,T,T,T,T,T,T,T,T,F,F,F] rfl rfl (any_of HT_.out (by kernel_rfl)) (fun _ _ _ h=>h) (Or.inr ⟨by rfl,rfl⟩) ?_ ?_
       rotate_left;·simp only [Act.put,L_,M_,N_,i64_w,i32_w];rfl
       refine pure_ (i:=13) (N:=some 37) (v:=undef) (a':=?_) #[T,T,T,T,T,T,T,T,T,T,T,T,T,T,F,F] rfl rfl (any_of HT_.out (by kernel_rfl)) (fun _ _ _ h=>h) (Or.inr ⟨by rfl,rfl⟩) ?_ ?_
       rotate_left;·simp only [Act.put,L_,M_,N_,i64_w,i32_w];rfl
       refine pure_ (i:=14) (N:=some 38) (v:=?_) (a':=?_) #[T,T,T,T,T,T,T,T,T,T,T,T,T,T,T,F] rfl rfl (any_of HT_.out (by kernel_rfl)) (fun _ _ _ h=>h) (Or.inl ⟨by rfl,?_⟩) ?_ ?_
       rotate_left;·intro w';go_simp;with_reducible rfl
       rotate_left;·simp only [Act.put,L_,M_,N_,i64_w,i32_w];rfl
       refine pure_ (i:=15) (N:=some 8) (v:=?_) (a':=?_) #[T,T,T,T,T,T,T,T,T,T,T,T,T,T,T,T] rfl rfl (any_of HT_.out (by kernel_rfl)) (fun _ _ _ h=>h) (Or.inl ⟨by rfl,?_⟩) ?_ ?_
       rotate_left;·intro w';go_simp;with_reducible rfl
       rotate_left;·simp only [Act.put,L_,M_,N_,i64_w,i32_w];rfl
       refine done_ (done_of HT_.out (by kernel_rfl)) ?_
       try go_wp2
       go_meet
       case rel=>exact ⟨_,(false),(by first|rfl|(simp;done)|(simp [*];done)),H',⟨by have:=HK1.out;first|omega|exact Nat.le_refl _⟩,⟨bl_ BK537⟩,⟨bl_ BK538⟩,⟨bl_ BK539⟩,⟨bb_⟩⟩
      ·replace c17:=Bool.eq_false_iff.mpr c17;subst c17;have H1 : ((impl_Order_better.f a2_0 l2_1 x21_1 x21_1).bind fun t541=>((impl_Order_better.f a1_0 l1_1 (l0.length : Int) (l0.length : Int)).bind fun t542=>(impl_Order_pattern_1.j1 is k1 l0 (l0.length : Int) x21_1 (t541 == t542) a2_0 x21_1 a1_0 l1_1 a2_0 l2_1))) = some r:=by rw [if_neg (show ¬ (false = true) by decide)] at H;exact H
       clear H;have H:=H1;clear H1;replace H:=Option.bind_eq_some_iff.mp H;obtain ⟨t541,A190,H⟩:=H;replace H : ((impl_Order_better.f a1_0 l1_1 (l0.length : Int) (l0.length : Int)).bind fun t542=>(impl_Order_pattern_1.j1 is k1 l0 (l0.length : Int) x21_1 (t541 == t542) a2_0 x21_1 a1_0 l1_1 a2_0 l2_1)) = some r:=H;have A19:=A_ A190;clear A190;replace H:=Option.bind_eq_some_iff.mp H;obtain ⟨t542,A200,H⟩:=H;replace H : (impl_Order_pattern_1.j1 is k1 l0 (l0.length : Int) x21_1 (t541 == t542) a2_0 x21_1 a1_0 l1_1 a2_0 l2_1) = some r:=H;have A20:=A_ A200;clear A200;have H':=A_ H;clear H;try go_wp2
       replace BK537:=A_ (blk_drew BK537.out);replace BK538:=A_ (blk_drew BK538.out);replace BK539:=A_ (blk_drew BK539.out);replace HB:=A_ (below_drew1 HB.out);refine start_ (n:=16) (S:=fun w'=>w'.cell? ⟨g2_,0,none⟩ = some (.int .i64 a2_0) ∧ w'.cell? ⟨g2_,1,none⟩ = some (.slice A2_1 l2_1.length c2_1) ∧ w'.cell? ⟨g1_,0,none⟩ = some (.int .i64 a1_0) ∧ w'.cell? ⟨g1_,1,none⟩ = some (.slice A1_1 l1_1.length c1_1)) (ds:=[]) #[F,F,F,F,F,F,F,F,F,F,F,F,F,F,F,F] (by kernel_rfl) rfl rfl ⟨blk_cell BK538.out 0,blk_cell BK538.out 1,blk_cell BK537.out 0,blk_cell BK537.out 1⟩ (fun hHeld=>?_);refine with_tabW impl_Order_pattern_1.tab7 impl_Order_pattern_1.bits7 (fun HT_ HW_=>?_)
       generalize wr.drew = w21 at BK537 BK538 BK539 HB hHeld ⊢
       refine pure_ (i:=0) (N:=some 24) (v:=?_) (a':=?_) #[T,F,F,F,F,F,F,F,F,F,F,F,F,F,F,F] rfl rfl (any_of HT_.out (by kernel_rfl)) (fun _ _ _ h=>h) (Or.inl ⟨by rfl,?_⟩) ?_ ?_
       rotate_left;·intro w';go_simp;with_reducible rfl
       rotate_left;·simp only [Act.put,L_,M_,N_,i64_w,i32_w];rfl
       refine pure_ (i:=1) (N:=some 25) (v:=?_) (a':=?_) #[T,T,F,F,F,F,F,F,F,F,F,F,F,F,F,F] rfl rfl (any_of HT_.out (by kernel_rfl)) (fun _ _ _ h=>h) (Or.inl ⟨by rfl,?_⟩) ?_ ?_
       rotate_left;·intro w';go_simp;with_reducible rfl
       rotate_left;·simp only [Act.put,L_,M_,N_,i64_w,i32_w];rfl
       refine one_ (i:=2) (N:=some 26) #[T,T,T,F,F,F,F,F,F,F,F,F,F,F,F,F] rfl rfl (one_of HT_.out (by kernel_rfl)) (by decide) (fun K hK=>?_)
       refine goes_ Tryd.func129 (by kernel_rfl) rfl #[.slice A0 l0.length c0,.int .i64 x21_1] (by rfl) rfl rfl au_ ?_
       with_reducible refine (slices_Contains_int_int.calls k1 _ _ l0 x21_1 false _ ?side1 ?side2 A16.out).mono ?_
       (case side1=>exact cl_ (Kd.C_below HR0.out HB.out))
       (case side2=>exact HC0.out)
       rintro e w' ⟨rfl,⟨nd,rfl⟩⟩
       refine ⟨_,rfl,?_⟩
       refine hK.out _ _ ⟨blk_cell BK538.out 0,blk_cell BK538.out 1,blk_cell BK537.out 0,blk_cell BK537.out 1⟩ (fun hHeld=>?_)
       clear hK K;refine norm_ (a':=?_) ?_ ?_
       rotate_left
       ·show Act.put _ (some 26) _ = _
        simp only [Act.put,L_,M_,N_,i64_w,i32_w]
        rfl
       refine pure_ (i:=3) (N:=some 27) (v:=?_) (a':=?_) #[T,T,T,T,F,F,F,F,F,F,F,F,F,F,F,F] rfl rfl (any_of HT_.out (by kernel_rfl)) (fun _ _ _ h=>h) (Or.inl ⟨by rfl,?_⟩) ?_ ?_
       rotate_left;·intro w';go_simp;with_reducible rfl
       rotate_left;·simp only [Act.put,L_,M_,N_,i64_w,i32_w];rfl
       refine pure_ (i:=4) (N:=some 28) (v:=?_) (a':=?_) #[T,T,T,T,T,F,F,F,F,F,F,F,F,F,F,F] rfl rfl (any_of HT_.out (by kernel_rfl)) (fun _ _ _ h=>h) (Or.inl ⟨by rfl,?_⟩) ?_ ?_
       rotate_left;·intro w';go_simp;with_reducible rfl
       rotate_left;·simp only [Act.put,L_,M_,N_,i64_w,i32_w];rfl
       refine pure_ (i:=6) (N:=some 30) (v:=?_) (a':=?_) #[T,T,T,T,T,F,T,F,F,F,F,F,F,F,F,F] rfl rfl (any_of HT_.out (by kernel_rfl)) (fun _ _ _ h=>h) (Or.inl ⟨by rfl,?_⟩) ?_ ?_
       rotate_left;·intro w';go_simp;with_reducible rfl
       rotate_left;·simp only [Act.put,L_,M_,N_,i64_w,i32_w];rfl
       refine pure_ (i:=7) (N:=some 31) (v:=?_) (a':=?_) #[T,T,T,T,T,F,T,T,F,F,F,F,F,F,F,F] rfl rfl (any_of HT_.out (by kernel_rfl)) (fun _ _ _ h=>h) (Or.inl ⟨by rfl,?_⟩) ?_ ?_
       rotate_left;·intro w';go_simp;with_reducible rfl
       rotate_left;·simp only [Act.put,L_,M_,N_,i64_w,i32_w];rfl
       refine pure_ (i:=10) (N:=some 34) (v:=?_) (a':=?_) #[T,T,T,T,T,F,T,T,F,F,T,F,F,F,F,F] rfl rfl (any_of HT_.out (by kernel_rfl)) (fun _ _ _ h=>h) (Or.inl ⟨by rfl,?_⟩) ?_ ?_
       rotate_left;·intro w';go_simp;with_reducible rfl
       rotate_left;·simp only [Act.put,L_,M_,N_,i64_w,i32_w];rfl
       refine pure_ (i:=11) (N:=some 35) (v:=?_) (a':=?_) #[T,T,T,T,T,F,T,T,F,F,T,T,F,F,F,F] rfl rfl (any_of HT_.out (by kernel_rfl)) (fun _ _ _ h=>h) (Or.inl ⟨by rfl,?_⟩) ?_ ?_
       rotate_left;·intro w';go_simp;with_reducible rfl
       rotate_left;·simp only [Act.put,L_,M_,N_,i64_w,i32_w];rfl
       refine take_ (i:=5) (N:=some 29) (v:=?_) (a':=?_) #[T,T,T,T,T,T,T,T,F,F,T,T,F,F,F,F] rfl rfl (take_ofW HT_.out HW_.out (by kernel_rfl)) (fun _ _ _ h=>h) (Or.inl ⟨by rfl,?_⟩) hHeld ?_ ?_
       rotate_left
       ·rintro w' ⟨s0,s1,s2,s3⟩
        go_simp
        with_reducible rfl
       rotate_left;·simp only [Act.put,L_,M_,N_,i64_w,i32_w];rfl
       refine take_ (i:=9) (N:=some 33) (v:=?_) (a':=?_) #[T,T,T,T,T,T,T,T,F,T,T,T,F,F,F,F] rfl rfl (take_ofW HT_.out HW_.out (by kernel_rfl)) (fun _ _ _ h=>h) (Or.inl ⟨by rfl,?_⟩) hHeld ?_ ?_
       rotate_left
       ·rintro w' ⟨s0,s1,s2,s3⟩
        go_simp
        with_reducible rfl
       rotate_left;·simp only [Act.put,L_,M_,N_,i64_w,i32_w];rfl
       refine one_ (i:=8) (N:=some 32) #[T,T,T,T,T,T,T,T,T,T,T,T,F,F,F,F] rfl rfl (one_of HT_.out (by kernel_rfl)) (by decide) (fun K hK=>?_)
       refine goes_ Tryd.func69 (by kernel_rfl) rfl #[.agg #[.int .i64 a2_0,.slice A2_1 l2_1.length c2_1],.int .i64 x21_1,.int .i64 x21_1] (by rfl) rfl rfl au_ ?_
       with_reducible refine (impl_Order_better.calls a2_0 _ _ l2_1 x21_1 x21_1 t541 _ ?side1 ?side2 A19.out).mono ?_
       (case side1=>exact cl_ (Kd.C_below HR2_1.out bb_))
       (case side2=>exact HC2_1.out)
       rintro e w22 ⟨rfl,hb⟩
       refine ⟨_,rfl,?_⟩
       replace BK537:=bz BK537 hb;replace BK538:=bz BK538 hb;replace BK539:=bz BK539 hb;replace HB:=A_ (below_step bb_ hb);(try clear hb);(try clear hb2);(try clear hk);(try clear hi);refine hK.out _ _ ⟨blk_cell BK538.out 0,blk_cell BK538.out 1,blk_cell BK537.out 0,blk_cell BK537.out 1⟩ (fun hHeld=>?_)
       clear hK K;refine norm_ (a':=?_) ?_ ?_
       rotate_left
       ·show Act.put _ (some 32) _ = _
        simp only [Act.put,L_,M_,N_,i64_w,i32_w]
        rfl
       refine one_ (i:=12) (N:=some 36) #[T,T,T,T,T,T,T,T,T,T,T,T,T,F,F,F] rfl rfl (one_of HT_.out (by kernel_rfl)) (by decide) (fun K hK=>?_)
       refine goes_ Tryd.func69 (by kernel_rfl) rfl #[.agg #[.int .i64 a1_0,.slice A1_1 l1_1.length c1_1],.int .i64 (l0.length : Int),.int .i64 (l0.length : Int)] (by rfl) rfl rfl au_ ?_
       with_reducible refine (impl_Order_better.calls a1_0 _ _ l1_1 (l0.length : Int) (l0.length : Int) t542 _ ?side1 ?side2 A20.out).mono ?_
       (case side1=>exact cl_ (Kd.C_below HR1_1.out HB.out))
       (case side2=>exact HC1_1.out)
       rintro e w23 ⟨rfl,hb⟩
       refine ⟨_,rfl,?_⟩
       replace BK537:=bz BK537 hb;replace BK538:=bz BK538 hb;replace BK539:=bz BK539 hb;replace HB:=A_ (below_step bb_ hb);(try clear hb);(try clear hb2);(try clear hk);(try clear hi);refine hK.out _ _ ⟨blk_cell BK538.out 0,blk_cell BK538.out 1,blk_cell BK537.out 0,blk_cell BK537.out 1⟩ (fun hHeld=>?_)
       clear hK K;refine norm_ (a':=?_) ?_ ?_
       rotate_left
       ·show Act.put _ (some 36) _ = _
        simp only [Act.put,L_,M_,N_,i64_w,i32_w]
        rfl
       refine pure_ (i:=13) (N:=some 37) (v:=?_) (a':=?_) #[T,T,T,T,T,T,T,T,T,T,T,T,T,T,F,F] rfl rfl (any_of HT_.out (by kernel_rfl)) (fun _ _ _ h=>h) (Or.inl ⟨by rfl,?_⟩) ?_ ?_
       rotate_left;·intro w';go_simp;with_reducible rfl
       rotate_left;·simp only [Act.put,L_,M_,N_,i64_w,i32_w];rfl
       refine pure_ (i:=14) (N:=some 38) (v:=?_) (a':=?_) #[T,T,T,T,T,T,T,T,T,T,T,T,T,T,T,F] rfl rfl (any_of HT_.out (by kernel_rfl)) (fun _ _ _ h=>h) (Or.inl ⟨by rfl,?_⟩) ?_ ?_
       rotate_left;·intro w';go_simp;with_reducible rfl
       rotate_left;·simp only [Act.put,L_,M_,N_,i64_w,i32_w];rfl
       refine pure_ (i:=15) (N:=some 8) (v:=?_) (a':=?_) #[T,T,T,T,T,T,T,T,T,T,T,T,T,T,T,T] rfl rfl (any_of HT_.out (by kernel_rfl)) (fun _ _ _ h=>h) (Or.inl ⟨by rfl,?_⟩) ?_ ?_
       rotate_left;·intro w';go_simp;with_reducible rfl
       rotate_left;·simp only [Act.put,L_,M_,N_,i64_w,i32_w];rfl
       refine done_ (done_of HT_.out (by kernel_rfl)) ?_
       try go_wp2
       go_meet
       case rel=>exact ⟨_,((t541 == t542)),(by first|rfl|(simp;done)|(simp [*];done)),H',⟨by have:=HK1.out;first|omega|exact Nat.le_refl _⟩,⟨bl_ BK537⟩,⟨bl_ BK538⟩,⟨bl_ BK539⟩,⟨bb_⟩⟩
     case rest =>
      clear HC15;try clear c1
      try clear c2
      try clear p2
      try clear c5
      try clear c5b0
      try clear c5b1
      try clear c6
      try clear c7
      try clear c9
      try clear c10
      try clear c12
      try clear c14
      try clear c14b0
      try clear c17
      try clear c20
      try clear c21
      try clear hcz11_0
      try clear hcz11_1
      try clear hcz13_0
      try clear hcz13_1
      try clear hcz8_0
      try clear hcz8_1
      try clear hfz11_0
      try clear hfz11_1
      try clear hfz13_0
      try clear hfz13_1
      try clear hfz8_0
      try clear hfz8_1
      try clear p2
      obtain ⟨kq,x8_14,rfl,HA,HJ14,BK537,BK538,BK539,HB⟩:=hcut;cases kq with
      | zero=>exact absurd HA.out (by simp [impl_Order_pattern_1.j1])
      | succ kj14 =>
       have H:=HA.out;clear HA;simp only [impl_Order_pattern_1.j1] at H
       have H':=A_ H;clear H;go_wp2
       go_loopg [8,41] kj14 (fun kq v8 v41 w'=>∃ (x8_3 : Bool) (x41_3 : Int),v8 = .bool x8_3 ∧ v41 = .int .i64 x41_3 ∧ Aside0 (impl_Order_pattern_1.l1 is kq l0 (l0.length : Int) x21_1 x8_3 a2_0 x21_1 l0 (l0.length : Int) x41_3 a1_0 l1_1 a2_0 l2_1 = some r) ∧ Aside0 (kq ≤ kj14) ∧ Aside0 (w'.heap[g1_]? = some (.cells #[.int .i64 a1_0,(.slice A1_1 l1_1.length c1_1)] 26 (0,0))) ∧ Aside0 (w'.heap[g2_]? = some (.cells #[.int .i64 a2_0,(.slice A2_1 l2_1.length c2_1)] 26 (0,0))) ∧ Aside0 (w'.heap[g3_]? = some (.cells #[.func (.func 128) #[] #[.pointer (some ⟨g1_,0,none⟩),.pointer (some ⟨g2_,0,none⟩),.pointer (some ⟨g3_,0,none⟩)]] 35 (0,0))) ∧ Aside0 (Below w.heap.size w w'))
       case atStart=>exact ⟨(x8_14),(0),(by first|rfl|(simp;done)|(simp [*];done)),(by first|rfl|(simp;done)|(simp [*];done)),H',⟨Nat.le_refl _⟩,⟨bl_ BK537⟩,⟨bl_ BK538⟩,⟨bl_ BK539⟩,⟨bb_⟩⟩
       case round =>
        clear H';try clear c1
        try clear c2
        try clear p2
        try clear c5
        try clear c5b0
        try clear c5b1
        try clear c6
        try clear c7
        try clear c9
        try clear c10
        try clear c12
        try clear c14
        try clear c14b0
        try clear c17
        try clear c20
        try clear c21
        try clear hcz11_0
        try clear hcz11_1
        try clear hcz13_0
        try clear hcz13_1
        try clear hcz8_0
        try clear hcz8_1
        try clear hfz11_0
        try clear hfz11_1
        try clear hfz13_0
        try clear hfz13_1
        try clear hfz8_0
        try clear hfz8_1
        try clear p2
        obtain ⟨x8_3,x41_3,rfl,rfl,HA,HK3,BK537,BK538,BK539,HB⟩:=hrel;cases gk with
        | zero=>exact absurd HA.out (by simp [impl_Order_pattern_1.l1])
        | succ k3 =>
         have H:=HA.out;clear HA;simp only [impl_Order_pattern_1.l1] at H
         by_cases c24 : x41_3 < (l0.length : Int)
         ·rw [if_pos c24] at H;have c24b0 : decide (x41_3 < (l0.length : Int)) = true:=decide_eq_true c24;clear c24;by_cases c25 : 0 ≤ x41_3
          ·rw [if_pos c25] at H;have c25b0 : decide (0 ≤ x41_3) = true:=decide_eq_true c25;clear c25;by_cases c26 : x41_3 < (l0.length : Int)
           ·rw [if_pos c26] at H;have c26b0 : decide (x41_3 < (l0.length : Int)) = true:=decide_eq_true c26;clear c26;by_cases c27 : x8_3 = true
            ·subst c27;have H1 : ((impl_Order_better.f a2_0 l2_1 x21_1 (rd l0 x41_3)).bind fun t544=>((impl_Order_better.f a1_0 l1_1 (l0.length : Int) x41_3).bind fun t545=>(if (t544 == t545) = true then ((impl_Order_better.f a2_0 l2_1 (rd l0 x41_3) x21_1).bind fun t546=>((impl_Order_better.f a1_0 l1_1 x41_3 (l0.length : Int)).bind fun t547=>(impl_Order_pattern_1.l1 is k3 l0 (l0.length : Int) x21_1 (t546 == t547) a2_0 x21_1 l0 (l0.length : Int) (wrap64 (x41_3 + 1)) a1_0 l1_1 a2_0 l2_1))) else (impl_Order_pattern_1.l1 is k3 l0 (l0.length : Int) x21_1 false a2_0 x21_1 l0 (l0.length : Int) (wrap64 (x41_3 + 1)) a1_0 l1_1 a2_0 l2_1)))) = some r:=by rw [if_pos rfl] at H;exact H
             clear H;have H:=H1;clear H1;replace H:=Option.bind_eq_some_iff.mp H;obtain ⟨t544,A280,H⟩:=H;replace H : ((impl_Order_better.f a1_0 l1_1 (l0.length : Int) x41_3).bind fun t545=>(if (t544 == t545) = true then ((impl_Order_better.f a2_0 l2_1 (rd l0 x41_3) x21_1).bind fun t546=>((impl_Order_better.f a1_0 l1_1 x41_3 (l0.length : Int)).bind fun t547=>(impl_Order_pattern_1.l1 is k3 l0 (l0.length : Int) x21_1 (t546 == t547) a2_0 x21_1 l0 (l0.length : Int) (wrap64 (x41_3 + 1)) a1_0 l1_1 a2_0 l2_1))) else (impl_Order_pattern_1.l1 is k3 l0 (l0.length : Int) x21_1 false a2_0 x21_1 l0 (l0.length : Int) (wrap64 (x41_3 + 1)) a1_0 l1_1 a2_0 l2_1))) = some r:=H;have A28:=A_ A280;clear A280;replace H:=Option.bind_eq_some_iff.mp H;obtain ⟨t545,A290,H⟩:=H;replace H : (if (t544 == t545) = true then ((impl_Order_better.f a2_0 l2_1 (rd l0 x41_3) x21_1).bind fun t546=>((impl_Order_better.f a1_0 l1_1 x41_3 (l0.length : Int)).bind fun t547=>(impl_Order_pattern_1.l1 is k3 l0 (l0.length : Int) x21_1 (t546 == t547) a2_0 x21_1 l0 (l0.length : Int) (wrap64 (x41_3 + 1)) a1_0 l1_1 a2_0 l2_1))) else (impl_Order_pattern_1.l1 is k3 l0 (l0.length : Int) x21_1 false a2_0 x21_1 l0 (l0.length : Int) (wrap64 (x41_3 + 1)) a1_0 l1_1 a2_0 l2_1)) = some r:=H;have A29:=A_ A290;clear A290;by_cases c30 : (t544 == t545) = true
             ·rw [if_pos c30] at H;have c30b0 : (t544 == t545) = true:=c30;(try (have c30b1 : decide (t544 = t545) = true:=by simpa using c30));(try (have c30b2 : (t544 == t545) = true:=by simpa using c30));clear c30;replace H:=Option.bind_eq_some_iff.mp H;obtain ⟨t546,A310,H⟩:=H;replace H : ((impl_Order_better.f a1_0 l1_1 x41_3 (l0.length : Int)).bind fun t547=>(impl_Order_pattern_1.l1 is k3 l0 (l0.length : Int) x21_1 (t546 == t547) a2_0 x21_1 l0 (l0.length : Int) (wrap64 (x41_3 + 1)) a1_0 l1_1 a2_0 l2_1)) = some r:=H;have A31:=A_ A310;clear A310;replace H:=Option.bind_eq_some_iff.mp H;obtain ⟨t547,A320,H⟩:=H;replace H : (impl_Order_pattern_1.l1 is k3 l0 (l0.length : Int) x21_1 (t546 == t547) a2_0 x21_1 l0 (l0.length : Int) (wrap64 (x41_3 + 1)) a1_0 l1_1 a2_0 l2_1) = some r:=H;have A32:=A_ A320;clear A320;have H':=A_ H;clear H;have p543 : 0 ≤ (x41_3 : Int):=of_decide_eq_true (by first|(with_reducible assumption)|assumption);have q543 : x41_3 < (l0.length : Int):=of_decide_eq_true (by first|(with_reducible assumption)|assumption);obtain ⟨ad543,e543,hx543_0⟩:=Kd.at_int HR0.out x41_3 p543 q543;cases e543
              (try replace hx543_0:=(HB.out.cell (World.block_lt_of_cell? w _ hx543_0)).trans hx543_0);replace p543:=eq_true p543;replace q543:=eq_true q543;try go_wp2
              replace BK537:=A_ (blk_drew BK537.out);replace BK538:=A_ (blk_drew BK538.out);replace BK539:=A_ (blk_drew BK539.out);replace HB:=A_ (below_drew1 HB.out);refine start_ (n:=24) (S:=fun w'=>w'.cell? ⟨g2_,0,none⟩ = some (.int .i64 a2_0) ∧ w'.cell? ⟨g2_,1,none⟩ = some (.slice A2_1 l2_1.length c2_1) ∧ w'.cell? ⟨g1_,0,none⟩ = some (.int .i64 a1_0) ∧ w'.cell? ⟨g1_,1,none⟩ = some (.slice A1_1 l1_1.length c1_1)) (ds:=[]) #[F,F,F,F,F,F,F,F,F,F,F,F,F,F,F,F,F,F,F,F,F,F,F,F] (by kernel_rfl) rfl rfl ⟨blk_cell BK538.out 0,blk_cell BK538.out 1,blk_cell BK537.out 0,blk_cell BK537.out 1⟩ (fun hHeld=>?_);refine with_tabW impl_Order_pattern_1.tab11 impl_Order_pattern_1.bits11 (fun HT_ HW_=>?_)
              generalize wr.drew = w33 at BK537 BK538 BK539 HB hHeld ⊢
              refine pure_ (i:=0) (N:=some 46) (v:=?_) (a':=?_) #[T,F,F,F,F,F,F,F,F,F,F,F,F,F,F,F,F,F,F,F,F,F,F,F] rfl rfl (any_of HT_.out (by kernel_rfl)) (fun _ _ _ h=>h) (Or.inl ⟨by rfl,?_⟩) ?_ ?_
              rotate_left;·intro w';go_simp;with_reducible rfl
              rotate_left;·simp only [Act.put,L_,M_,N_,i64_w,i32_w];rfl
              refine pure_ (i:=1) (N:=some 47) (v:=?_) (a':=?_) #[T,T,F,F,F,F,F,F,F,F,F,F,F,F,F,F,F,F,F,F,F,F,F,F] rfl rfl (any_of HT_.out (by kernel_rfl)) (fun _ _ _ h=>h) (Or.inl ⟨by rfl,?_⟩) ?_ ?_
              rotate_left;·intro w';go_simp;with_reducible rfl
              rotate_left;·simp only [Act.put,L_,M_,N_,i64_w,i32_w];rfl
              refine pure_ (i:=3) (N:=some 49) (v:=?_) (a':=?_) #[T,T,F,T,F,F,F,F,F,F,F,F,F,F,F,F,F,F,F,F,F,F,F,F] rfl rfl (any_of HT_.out (by kernel_rfl)) (fun _ _ _ h=>h) (Or.inl ⟨by rfl,?_⟩) ?_ ?_
              rotate_left;·intro w';go_simp;with_reducible rfl
              rotate_left;·simp only [Act.put,L_,M_,N_,i64_w,i32_w];rfl
              refine pure_ (i:=4) (N:=some 50) (v:=?_) (a':=?_) #[T,T,F,T,T,F,F,F,F,F,F,F,F,F,F,F,F,F,F,F,F,F,F,F] rfl rfl (any_of HT_.out (by kernel_rfl)) (fun _ _ _ h=>h) (Or.inl ⟨by rfl,?_⟩) ?_ ?_
              rotate_left;·intro w';go_simp;with_reducible rfl
              rotate_left;·simp only [Act.put,L_,M_,N_,i64_w,i32_w];rfl
              refine pure_ (i:=7) (N:=some 53) (v:=?_) (a':=?_) #[T,T,F,T,T,F,F,T,F,F,F,F,F,F,F,F,F,F,F,F,F,F,F,F] rfl rfl (any_of HT_.out (by kernel_rfl)) (fun _ _ _ h=>h) (Or.inl ⟨by rfl,?_⟩) ?_ ?_
              rotate_left;·intro w';go_simp;with_reducible rfl
              rotate_left;·simp only [Act.put,L_,M_,N_,i64_w,i32_w];rfl
              refine pure_ (i:=8) (N:=some 54) (v:=?_) (a':=?_) #[T,T,F,T,T,F,F,T,T,F,F,F,F,F,F,F,F,F,F,F,F,F,F,F] rfl rfl (any_of HT_.out (by kernel_rfl)) (fun _ _ _ h=>h) (Or.inl ⟨by rfl,?_⟩) ?_ ?_
              rotate_left;·intro w';go_simp;with_reducible rfl
              rotate_left;·simp only [Act.put,L_,M_,N_,i64_w,i32_w];rfl
              refine take_ (i:=2) (N:=some 48) (v:=?_) (a':=?_) #[T,T,T,T,T,F,F,T,T,F,F,F,F,F,F,F,F,F,F,F,F,F,F,F] rfl rfl (take_ofW HT_.out HW_.out (by kernel_rfl)) (fun _ _ _ h=>h) (Or.inl ⟨by rfl,?_⟩) hHeld ?_ ?_
              rotate_left
              ·rintro w' ⟨s0,s1,s2,s3⟩
               go_simp
               with_reducible rfl
              rotate_left;·simp only [Act.put,L_,M_,N_,i64_w,i32_w];rfl
              refine take_ (i:=6) (N:=some 52) (v:=?_) (a':=?_) #[T,T,T,T,T,F,T,T,T,F,F,F,F,F,F,F,F,F,F,F,F,F,F,F] rfl rfl (take_ofW HT_.out HW_.out (by kernel_rfl)) (fun _ _ _ h=>h) (Or.inl ⟨by rfl,?_⟩) hHeld ?_ ?_
              rotate_left
              ·rintro w' ⟨s0,s1,s2,s3⟩
               go_simp
               with_reducible rfl
              rotate_left;·simp only [Act.put,L_,M_,N_,i64_w,i32_w];rfl
              refine one_ (i:=5) (N:=some 51) #[T,T,T,T,T,T,T,T,T,F,F,F,F,F,F,F,F,F,F,F,F,F,F,F] rfl rfl (one_of HT_.out (by kernel_rfl)) (by decide) (fun K hK=>?_)
              refine goes_ Tryd.func69 (by kernel_rfl) rfl #[.agg #[.int .i64 a2_0,.slice A2_1 l2_1.length c2_1],.int .i64 x21_1,.int .i64 (rd l0 x41_3)] (by rfl) rfl rfl au_ ?_
              with_reducible refine (impl_Order_better.calls a2_0 _ _ l2_1 x21_1 (rd l0 x41_3) t544 _ ?side1 ?side2 A28.out).mono ?_
              (case side1=>exact cl_ (Kd.C_below HR2_1.out HB.out))
              (case side2=>exact HC2_1.out)
              rintro e w34 ⟨rfl,hb⟩
              refine ⟨_,rfl,?_⟩
              replace BK537:=bz BK537 hb;replace BK538:=bz BK538 hb;replace BK539:=bz BK539 hb;replace HB:=A_ (below_step bb_ hb);(try clear hb);(try clear hb2);(try clear hk);(try clear hi);refine hK.out _ _ ⟨blk_cell BK538.out 0,blk_cell BK538.out 1,blk_cell BK537.out 0,blk_cell BK537.out 1⟩ (fun hHeld=>?_)
              clear hK K;refine norm_ (a':=?_) ?_ ?_
              rotate_left
              ·show Act.put _ (some 51) _ = _
               simp only [Act.put,L_,M_,N_,i64_w,i32_w]
               rfl
              refine one_ (i:=9) (N:=some 55) #[T,T,T,T,T,T,T,T,T,T,F,F,F,F,F,F,F,F,F,F,F,F,F,F] rfl rfl (one_of HT_.out (by kernel_rfl)) (by decide) (fun K hK=>?_)
              refine goes_ Tryd.func69 (by kernel_rfl) rfl #[.agg #[.int .i64 a1_0,.slice A1_1 l1_1.length c1_1],.int .i64 (l0.length : Int),.int .i64 x41_3] (by rfl) rfl rfl au_ ?_
              with_reducible refine (impl_Order_better.calls a1_0 _ _ l1_1 (l0.length : Int) x41_3 t545 _ ?side1 ?side2 A29.out).mono ?_
              (case side1=>exact cl_ (Kd.C_below HR1_1.out HB.out))
              (case side2=>exact HC1_1.out)
              rintro e w35 ⟨rfl,hb⟩
              refine ⟨_,rfl,?_⟩
              replace BK537:=bz BK537 hb;replace BK538:=bz BK538 hb;replace BK539:=bz BK539 hb;replace HB:=A_ (below_step bb_ hb);(try clear hb);(try clear hb2);(try clear hk);(try clear hi);refine hK.out _ _ ⟨blk_cell BK538.out 0,blk_cell BK538.out 1,blk_cell BK537.out 0,blk_cell BK537.out 1⟩ (fun hHeld=>?_)
              clear hK K;refine norm_ (a':=?_) ?_ ?_
              rotate_left
              ·show Act.put _ (some 55) _ = _
               simp only [Act.put,L_,M_,N_,i64_w,i32_w]
               rfl
              refine pure_ (i:=10) (N:=some 56) (v:=?_) (a':=?_) #[T,T,T,T,T,T,T,T,T,T,T,F,F,F,F,F,F,F,F,F,F,F,F,F] rfl rfl (any_of HT_.out (by kernel_rfl)) (fun _ _ _ h=>h) (Or.inl ⟨by rfl,?_⟩) ?_ ?_
              rotate_left;·intro w';go_simp;with_reducible rfl
              rotate_left;·simp only [Act.put,L_,M_,N_,i64_w,i32_w];rfl
              refine pure_ (i:=11) (N:=some 57) (v:=?_) (a':=?_) #[T,T,T,T,T,T,T,T,T,T,T,T,F,F,F,F,F,F,F,F,F,F,F,F] rfl rfl (any_of HT_.out (by kernel_rfl)) (fun _ _ _ h=>h) (Or.inl ⟨by rfl,?_⟩) ?_ ?_
              rotate_left;·intro w';go_simp;with_reducible rfl
              rotate_left;·simp only [Act.put,L_,M_,N_,i64_w,i32_w];rfl
              refine pure_ (i:=12) (N:=some 58) (v:=?_) (a':=?_) #[T,T,T,T,T,T,T,T,T,T,T,T,T,F,F,F,F,F,F,F,F,F,F,F] rfl rfl (any_of HT_.out (by kernel_rfl)) (fun _ _ _ h=>h) (Or.inl ⟨by rfl,?_⟩) ?_ ?_
              rotate_left;·intro w';go_simp;with_reducible rfl
              rotate_left;·simp only [Act.put,L_,M_,N_,i64_w,i32_w];rfl
              refine pure_ (i:=14) (N:=some 60) (v:=?_) (a':=?_) #[T,T,T,T,T,T,T,T,T,T,T,T,T,F,T,F,F,F,F,F,F,F,F,F] rfl rfl (any_of HT_.out (by kernel_rfl)) (fun _ _ _ h=>h) (Or.inl ⟨by rfl,?_⟩) ?_ ?_
              rotate_left;·intro w';go_simp;with_reducible rfl
              rotate_left;·simp only [Act.put,L_,M_,N_,i64_w,i32_w];rfl
              refine pure_ (i:=15) (N:=some 61) (v:=?_) (a':=?_) #[T,T,T,T,T,T,T,T,T,T,T,T,T,F,T,T,F,F,F,F,F,F,F,F] rfl rfl (any_of HT_.out (by kernel_rfl)) (fun _ _ _ h=>h) (Or.inl ⟨by rfl,?_⟩) ?_ ?_
              rotate_left;·intro w';go_simp;with_reducible rfl
              rotate_left;·simp only [Act.put,L_,M_,N_,i64_w,i32_w];rfl
              refine pure_ (i:=18) (N:=some 64) (v:=?_) (a':=?_) #[T,T,T,T,T,T,T,T,T,T,T,T,T,F,T,T,F,F,T,F,F,F,F,F] rfl rfl (any_of HT_.out (by kernel_rfl)) (fun _ _ _ h=>h) (Or.inl ⟨by rfl,?_⟩) ?_ ?_
              rotate_left;·intro w';go_simp;with_reducible rfl
              rotate_left;·simp only [Act.put,L_,M_,N_,i64_w,i32_w];rfl
              refine pure_ (i:=19) (N:=some 65) (v:=?_) (a':=?_) #[T,T,T,T,T,T,T,T,T,T,T,T,T,F,T,T,F,F,T,T,F,F,F,F] rfl rfl (any_of HT_.out (by kernel_rfl)) (fun _ _ _ h=>h) (Or.inl ⟨by rfl,?_⟩) ?_ ?_
              rotate_left;·intro w';go_simp;with_reducible rfl
              rotate_left;·simp only [Act.put,L_,M_,N_,i64_w,i32_w];rfl
              refine take_ (i:=13) (N:=some 59) (v:=?_) (a':=?_) #[T,T,T,T,T,T,T,T,T,T,T,T,T,T,T,T,F,F,T,T,F,F,F,F] rfl rfl (take_ofW HT_.out HW_.out (by kernel_rfl)) (fun _ _ _ h=>h) (Or.inl ⟨by rfl,?_⟩) hHeld ?_ ?_
              rotate_left
              ·rintro w' ⟨s0,s1,s2,s3⟩
               go_simp
               with_reducible rfl
              rotate_left;·simp only [Act.put,L_,M_,N_,i64_w,i32_w];rfl
              refine take_ (i:=17) (N:=some 63) (v:=?_) (a':=?_) #[T,T,T,T,T,T,T,T,T,T,T,T,T,T,T,T,F,T,T,T,F,F,F,F] rfl rfl (take_ofW HT_.out HW_.out (by kernel_rfl)) (fun _ _ _ h=>h) (Or.inl ⟨by rfl,?_⟩) hHeld ?_ ?_
              rotate_left
              ·rintro w' ⟨s0,s1,s2,s3⟩
               go_simp
               with_reducible rfl
              rotate_left;·simp only [Act.put,L_,M_,N_,i64_w,i32_w];rfl
              refine one_ (i:=16) (N:=some 62) #[T,T,T,T,T,T,T,T,T,T,T,T,T,T,T,T,T,T,T,T,F,F,F,F] rfl rfl (one_of HT_.out (by kernel_rfl)) (by decide) (fun K hK=>?_)
              refine goes_ Tryd.func69 (by kernel_rfl) rfl #[.agg #[.int .i64 a2_0,.slice A2_1 l2_1.length c2_1],.int .i64 (rd l0 x41_3),.int .i64 x21_1] (by rfl) rfl rfl au_ ?_
              with_reducible refine (impl_Order_better.calls a2_0 _ _ l2_1 (rd l0 x41_3) x21_1 t546 _ ?side1 ?side2 A31.out).mono ?_
              (case side1=>exact cl_ (Kd.C_below HR2_1.out HB.out))
              (case side2=>exact HC2_1.out)
              rintro e w36 ⟨rfl,hb⟩
              refine ⟨_,rfl,?_⟩
              replace BK537:=bz BK537 hb;replace BK538:=bz BK538 hb;replace BK539:=bz BK539 hb;replace HB:=A_ (below_step bb_ hb);(try clear hb);(try clear hb2);(try clear hk);(try clear hi);refine hK.out _ _ ⟨blk_cell BK538.out 0,blk_cell BK538.out 1,blk_cell BK537.out 0,blk_cell BK537.out 1⟩ (fun hHeld=>?_)
              clear hK K;refine norm_ (a':=?_) ?_ ?_
              rotate_left
              ·show Act.put _ (some 62) _ = _
               simp only [Act.put,L_,M_,N_,i64_w,i32_w]
               rfl
              refine one_ (i:=20) (N:=some 66) #[T,T,T,T,T,T,T,T,T,T,T,T,T,T,T,T,T,T,T,T,T,F,F,F] rfl rfl (one_of HT_.out (by kernel_rfl)) (by decide) (fun K hK=>?_)
              refine goes_ Tryd.func69 (by kernel_rfl) rfl #[.agg #[.int .i64 a1_0,.slice A1_1 l1_1.length c1_1],.int .i64 x41_3,.int .i64 (l0.length : Int)] (by rfl) rfl rfl au_ ?_
              with_reducible refine (impl_Order_better.calls a1_0 _ _ l1_1 x41_3 (l0.length : Int) t547 _ ?side1 ?side2 A32.out).mono ?_
              (case side1=>exact cl_ (Kd.C_below HR1_1.out HB.out))
              (case side2=>exact HC1_1.out)
              rintro e w37 ⟨rfl,hb⟩
              refine ⟨_,rfl,?_⟩
              replace BK537:=bz BK537 hb;replace BK538:=bz BK538 hb;replace BK539:=bz BK539 hb;replace HB:=A_ (below_step bb_ hb);(try clear hb);(try clear hb2);(try clear hk);(try clear hi);refine hK.out _ _ ⟨blk_cell BK538.out 0,blk_cell BK538.out 1,blk_cell BK537.out 0,blk_cell BK537.out 1⟩ (fun hHeld=>?_)
              clear hK K;refine norm_ (a':=?_) ?_ ?_
              rotate_left
              ·show Act.put _ (some 66) _ = _
               simp only [Act.put,L_,M_,N_,i64_w,i32_w]
               rfl
              refine pure_ (i:=21) (N:=some 67) (v:=?_) (a':=?_) #[T,T,T,T,T,T,T,T,T,T,T,T,T,T,T,T,T,T,T,T,T,T,F,F] rfl rfl (any_of HT_.out (by kernel_rfl)) (fun _ _ _ h=>h) (Or.inl ⟨by rfl,?_⟩) ?_ ?_
              rotate_left;·intro w';go_simp;with_reducible rfl
              rotate_left;·simp only [Act.put,L_,M_,N_,i64_w,i32_w];rfl
              refine pure_ (i:=22) (N:=some 68) (v:=?_) (a':=?_) #[T,T,T,T,T,T,T,T,T,T,T,T,T,T,T,T,T,T,T,T,T,T,T,F] rfl rfl (any_of HT_.out (by kernel_rfl)) (fun _ _ _ h=>h) (Or.inl ⟨by rfl,?_⟩) ?_ ?_
              rotate_left;·intro w';go_simp;with_reducible rfl
              rotate_left;·simp only [Act.put,L_,M_,N_,i64_w,i32_w];rfl
              refine pure_ (i:=23) (N:=some 8) (v:=?_) (a':=?_) #[T,T,T,T,T,T,T,T,T,T,T,T,T,T,T,T,T,T,T,T,T,T,T,T] rfl rfl (any_of HT_.out (by kernel_rfl)) (fun _ _ _ h=>h) (Or.inl ⟨by rfl,?_⟩) ?_ ?_
              rotate_left;·intro w';go_simp;with_reducible rfl
              rotate_left;·simp only [Act.put,L_,M_,N_,i64_w,i32_w];rfl
              refine done_ (done_of HT_.out (by kernel_rfl)) ?_
              try go_wp2
              go_roundg k3
              case measure=>have:=HK1.out;have:=HJ14.out;have:=HK3.out;omega
              case rel=>exact ⟨((t546 == t547)),(wrap64 (x41_3 + 1)),(by first|rfl|(simp;done)|(simp [*];done)),(by first|rfl|(simp;done)|(simp [*];done)),H',⟨by have:=HK1.out;have:=HJ14.out;have:=HK3.out;omega⟩,⟨bl_ BK537⟩,⟨bl_ BK538⟩,⟨bl_ BK539⟩,⟨bb_⟩⟩
             ·rw [if_neg c30] at H;have c30b0 : (t544 == t545) = false:=by simpa using c30
              (try (have c30b1 : decide (t544 = t545) = false:=by simpa using c30));(try (have c30b2 : (t544 == t545) = false:=by simpa using c30));(try (have c30b3 : ¬ (t544 = t545):=by simpa using c30));clear c30;have H':=A_ H;clear H;have p543 : 0 ≤ (x41_3 : Int):=of_decide_eq_true (by first|(with_reducible assumption)|assumption);have q543 : x41_3 < (l0.length : Int):=of_decide_eq_true (by first|(with_reducible assumption)|assumption);obtain ⟨ad543,e543,hx543_0⟩:=Kd.at_int HR0.out x41_3 p543 q543;cases e543
              (try replace hx543_0:=(HB.out.cell (World.block_lt_of_cell? w _ hx543_0)).trans hx543_0);replace p543:=eq_true p543;replace q543:=eq_true q543;try go_wp2
              replace BK537:=A_ (blk_drew BK537.out);replace BK538:=A_ (blk_drew BK538.out);replace BK539:=A_ (blk_drew BK539.out);replace HB:=A_ (below_drew1 HB.out);refine start_ (n:=24) (S:=fun w'=>w'.cell? ⟨g2_,0,none⟩ = some (.int .i64 a2_0) ∧ w'.cell? ⟨g2_,1,none⟩ = some (.slice A2_1 l2_1.length c2_1) ∧ w'.cell? ⟨g1_,0,none⟩ = some (.int .i64 a1_0) ∧ w'.cell? ⟨g1_,1,none⟩ = some (.slice A1_1 l1_1.length c1_1)) (ds:=[]) #[F,F,F,F,F,F,F,F,F,F,F,F,F,F,F,F,F,F,F,F,F,F,F,F] (by kernel_rfl) rfl rfl ⟨blk_cell BK538.out 0,blk_cell BK538.out 1,blk_cell BK537.out 0,blk_cell BK537.out 1⟩ (fun hHeld=>?_);refine with_tabW impl_Order_pattern_1.tab11 impl_Order_pattern_1.bits11 (fun HT_ HW_=>?_)
              generalize wr.drew = w38 at BK537 BK538 BK539 HB hHeld ⊢
              refine pure_ (i:=0) (N:=some 46) (v:=?_) (a':=?_) #[T,F,F,F,F,F,F,F,F,F,F,F,F,F,F,F,F,F,F,F,F,F,F,F] rfl rfl (any_of HT_.out (by kernel_rfl)) (fun _ _ _ h=>h) (Or.inl ⟨by rfl,?_⟩) ?_ ?_
              rotate_left;·intro w';go_simp;with_reducible rfl
              rotate_left;·simp only [Act.put,L_,M_,N_,i64_w,i32_w];rfl
              refine pure_ (i:=1) (N:=some 47) (v:=?_) (a':=?_) #[T,T,F,F,F,F,F,F,F,F,F,F,F,F,F,F,F,F,F,F,F,F,F,F] rfl rfl (any_of HT_.out (by kernel_rfl)) (fun _ _ _ h=>h) (Or.inl ⟨by rfl,?_⟩) ?_ ?_
              rotate_left;·intro w';go_simp;with_reducible rfl
              rotate_left;·simp only [Act.put,L_,M_,N_,i64_w,i32_w];rfl
              refine pure_ (i:=3) (N:=some 49) (v:=?_) (a':=?_) #[T,T,F,T,F,F,F,F,F,F,F,F,F,F,F,F,F,F,F,F,F,F,F,F] rfl rfl (any_of HT_.out (by kernel_rfl)) (fun _ _ _ h=>h) (Or.inl ⟨by rfl,?_⟩) ?_ ?_
              rotate_left;·intro w';go_simp;with_reducible rfl
              rotate_left;·simp only [Act.put,L_,M_,N_,i64_w,i32_w];rfl
              refine pure_ (i:=4) (N:=some 50) (v:=?_) (a':=?_) #[T,T,F,T,T,F,F,F,F,F,F,F,F,F,F,F,F,F,F,F,F,F,F,F] rfl rfl (any_of HT_.out (by kernel_rfl)) (fun _ _ _ h=>h) (Or.inl ⟨by rfl,?_⟩) ?_ ?_
              rotate_left;·intro w';go_simp;with_reducible rfl
              rotate_left;·simp only [Act.put,L_,M_,N_,i64_w,i32_w];rfl
              refine pure_ (i:=7) (N:=some 53) (v:=?_) (a':=?_) #[T,T,F,T,T,F,F,T,F,F,F,F,F,F,F,F,F,F,F,F,F,F,F,F] rfl rfl (any_of HT_.out (by kernel_rfl)) (fun _ _ _ h=>h) (Or.inl ⟨by rfl,?_⟩) ?_ ?_
              rotate_left;·intro w';go_simp;with_reducible rfl
              rotate_left;·simp only [Act.put,L_,M_,N_,i64_w,i32_w];rfl
              refine pure_ (i:=8) (N:=some 54) (v:=?_) (a':=?_) #[T,T,F,T,T,F,F,T,T,F,F,F,F,F,F,F,F,F,F,F,F,F,F,F] rfl rfl (any_of HT_.out (by kernel_rfl)) (fun _ _ _ h=>h) (Or.inl ⟨by rfl,?_⟩) ?_ ?_
              rotate_left;·intro w';go_simp;with_reducible rfl
              rotate_left;·simp only [Act.put,L_,M_,N_,i64_w,i32_w];rfl
              refine take_ (i:=2) (N:=some 48) (v:=?_) (a':=?_) #[T,T,T,T,T,F,F,T,T,F,F,F,F,F,F,F,F,F,F,F,F,F,F,F] rfl rfl (take_ofW HT_.out HW_.out (by kernel_rfl)) (fun _ _ _ h=>h) (Or.inl ⟨by rfl,?_⟩) hHeld ?_ ?_
              rotate_left
              ·rintro w' ⟨s0,s1,s2,s3⟩
               go_simp
               with_reducible rfl
              rotate_left;·simp only [Act.put,L_,M_,N_,i64_w,i32_w];rfl
              refine take_ (i:=6) (N:=some 52) (v:=?_) (a':=?_) #[T,T,T,T,T,F,T,T,T,F,F,F,F,F,F,F,F,F,F,F,F,F,F,F] rfl rfl (take_ofW HT_.out HW_.out (by kernel_rfl)) (fun _ _ _ h=>h) (Or.inl ⟨by rfl,?_⟩) hHeld ?_ ?_
              rotate_left
              ·rintro w' ⟨s0,s1,s2,s3⟩
               go_simp
               with_reducible rfl
              rotate_left;·simp only [Act.put,L_,M_,N_,i64_w,i32_w];rfl
              refine one_ (i:=5) (N:=some 51) #[T,T,T,T,T,T,T,T,T,F,F,F,F,F,F,F,F,F,F,F,F,F,F,F] rfl rfl (one_of HT_.out (by kernel_rfl)) (by decide) (fun K hK=>?_)
              refine goes_ Tryd.func69 (by kernel_rfl) rfl #[.agg #[.int .i64 a2_0,.slice A2_1 l2_1.length c2_1],.int .i64 x21_1,.int .i64 (rd l0 x41_3)] (by rfl) rfl rfl au_ ?_
              with_reducible refine (impl_Order_better.calls a2_0 _ _ l2_1 x21_1 (rd l0 x41_3) t544 _ ?side1 ?side2 A28.out).mono ?_
              (case side1=>exact cl_ (Kd.C_below HR2_1.out HB.out))
              (case side2=>exact HC2_1.out)
              rintro e w39 ⟨rfl,hb⟩
              refine ⟨_,rfl,?_⟩
              replace BK537:=bz BK537 hb;replace BK538:=bz BK538 hb;replace BK539:=bz BK539 hb;replace HB:=A_ (below_step bb_ hb);(try clear hb);(try clear hb2);(try clear hk);(try clear hi);refine hK.out _ _ ⟨blk_cell BK538.out 0,blk_cell BK538.out 1,blk_cell BK537.out 0,blk_cell BK537.out 1⟩ (fun hHeld=>?_)
              clear hK K;refine norm_ (a':=?_) ?_ ?_
              rotate_left
              ·show Act.put _ (some 51) _ = _
               simp only [Act.put,L_,M_,N_,i64_w,i32_w]
               rfl
              refine one_ (i:=9) (N:=some 55) #[T,T,T,T,T,T,T,T,T,T,F,F,F,F,F,F,F,F,F,F,F,F,F,F] rfl rfl (one_of HT_.out (by kernel_rfl)) (by decide) (fun K hK=>?_)
              refine goes_ Tryd.func69 (by kernel_rfl) rfl #[.agg #[.int .i64 a1_0,.slice A1_1 l1_1.length c1_1],.int .i64 (l0.length : Int),.int .i64 x41_3] (by rfl) rfl rfl au_ ?_
              with_reducible refine (impl_Order_better.calls a1_0 _ _ l1_1 (l0.length : Int) x41_3 t545 _ ?side1 ?side2 A29.out).mono ?_
              (case side1=>exact cl_ (Kd.C_below HR1_1.out HB.out))
              (case side2=>exact HC1_1.out)
              rintro e w40 ⟨rfl,hb⟩
              refine ⟨_,rfl,?_⟩
              replace BK537:=bz BK537 hb;replace BK538:=bz BK538 hb;replace BK539:=bz BK539 hb;replace HB:=A_ (below_step bb_ hb);(try clear hb);(try clear hb2);(try clear hk);(try clear hi);refine hK.out _ _ ⟨blk_cell BK538.out 0,blk_cell BK538.out 1,blk_cell BK537.out 0,blk_cell BK537.out 1⟩ (fun hHeld=>?_)
              clear hK K;refine norm_ (a':=?_) ?_ ?_
              rotate_left
              ·show Act.put _ (some 55) _ = _
               simp only [Act.put,L_,M_,N_,i64_w,i32_w]
               rfl
              refine pure_ (i:=10) (N:=some 56) (v:=?_) (a':=?_) #[T,T,T,T,T,T,T,T,T,T,T,F,F,F,F,F,F,F,F,F,F,F,F,F] rfl rfl (any_of HT_.out (by kernel_rfl)) (fun _ _ _ h=>h) (Or.inl ⟨by rfl,?_⟩) ?_ ?_
              rotate_left;·intro w';go_simp;with_reducible rfl
              rotate_left;·simp only [Act.put,L_,M_,N_,i64_w,i32_w];rfl
              refine pure_ (i:=11) (N:=some 57) (v:=?_) (a':=?_) #[T,T,T,T,T,T,T,T,T,T,T,T,F,F,F,F,F,F,F,F,F,F,F,F] rfl rfl (any_of HT_.out (by kernel_rfl)) (fun _ _ _ h=>h) (Or.inl ⟨by rfl,?_⟩) ?_ ?_
              rotate_left;·intro w';go_simp;with_reducible rfl
              rotate_left;·simp only [Act.put,L_,M_,N_,i64_w,i32_w];rfl
              refine pure_ (i:=12) (N:=some 58) (v:=?_) (a':=?_) #[T,T,T,T,T,T,T,T,T,T,T,T,T,F,F,F,F,F,F,F,F,F,F,F] rfl rfl (any_of HT_.out (by kernel_rfl)) (fun _ _ _ h=>h) (Or.inl ⟨by rfl,?_⟩) ?_ ?_
              rotate_left;·intro w';go_simp;with_reducible rfl
              rotate_left;·simp only [Act.put,L_,M_,N_,i64_w,i32_w];rfl
              refine pure_ (i:=13) (N:=some 59) (v:=undef) (a':=?_) #[T,T,T,T,T,T,T,T,T,T,T,T,T,T,F,F,F,F,F,F,F,F,F,F] rfl rfl (any_of HT_.out (by kernel_rfl)) (fun _ _ _ h=>h) (Or.inr ⟨by rfl,rfl⟩) ?_ ?_
              rotate_left;·simp only [Act.put,L_,M_,N_,i64_w,i32_w];rfl
              refine pure_ (i:=14) (N:=some 60) (v:=undef) (a':=?_) #[T,T,T,T,T,T,T,T,T,T,T,T,T,T,T,F,F,F,F,F,F,F,F,F] rfl rfl (any_of HT_.out (by kernel_rfl)) (fun _ _ _ h=>h) (Or.inr ⟨by rfl,rfl⟩) ?_ ?_
              rotate_left;·simp only [Act.put,L_,M_,N_,i64_w,i32_w];rfl
              refine pure_ (i:=15) (N:=some 61) (v:=undef) (a':=?_) #[T,T,T,T,T,T,T,T,T,T,T,T,T,T,T,T,F,F,F,F,F,F,F,F] rfl rfl (any_of HT_.out (by kernel_rfl)) (fun _ _ _ h=>h) (Or.inr ⟨by rfl,rfl⟩) ?_ ?_
              rotate_left;·simp only [Act.put,L_,M_,N_,i64_w,i32_w];rfl
              refine pure_ (i:=16) (N:=some 62) (v:=undef) (a':=?_) #[T,T,T,T,T,T,T,T,T,T,T,T,T,T,T,T,T,F,F,F,F,F,F,F] rfl rfl (any_of HT_.out (by kernel_rfl)) (fun _ _ _ h=>h) (Or.inr ⟨by rfl,rfl⟩) ?_ ?_
              rotate_left;·simp only [Act.put,L_,M_,N_,i64_w,i32_w];rfl
              refine pure_ (i:=17) (N:=some 63) (v:=undef) (a':=?_) #[T,T,T,T,T,T,T,T,T,T,T,T,T,T,T,T,T,T,F,F,F,F,F,F] rfl rfl (any_of HT_.out (by kernel_rfl)) (fun _ _ _ h=>h) (Or.inr ⟨by rfl,rfl⟩) ?_ ?_
              rotate_left;·simp only [Act.put,L_,M_,N_,i64_w,i32_w];rfl
              refine pure_ (i:=18) (N:=some 64) (v:=undef) (a':=?_) #[T,T,T,T,T,T,T,T,T,T,T,T,T,T,T,T,T,T,T,F,F,F,F,F] rfl rfl (any_of HT_.out (by kernel_rfl)) (fun _ _ _ h=>h) (Or.inr ⟨by rfl,rfl⟩) ?_ ?_
              rotate_left;·simp only [Act.put,L_,M_,N_,i64_w,i32_w];rfl
              refine pure_ (i:=19) (N:=some 65) (v:=undef) (a':=?_) #[T,T,T,T,T,T,T,T,T,T,T,T,T,T,T,T,T,T,T,T,F,F,F,F] rfl rfl (any_of HT_.out (by kernel_rfl)) (fun _ _ _ h=>h) (Or.inr ⟨by rfl,rfl⟩) ?_ ?_
              rotate_left;·simp only [Act.put,L_,M_,N_,i64_w,i32_w];rfl
              refine pure_ (i:=20) (N:=some 66) (v:=undef) (a':=?_) #[T,T,T,T,T,T,T,T,T,T,T,T,T,T,T,T,T,T,T,T,T,F,F,F] rfl rfl (any_of HT_.out (by kernel_rfl)) (fun _ _ _ h=>h) (Or.inr ⟨by rfl,rfl⟩) ?_ ?_
              rotate_left;·simp only [Act.put,L_,M_,N_,i64_w,i32_w];rfl
              refine pure_ (i:=21) (N:=some 67) (v:=undef) (a':=?_) #[T,T,T,T,T,T,T,T,T,T,T,T,T,T,T,T,T,T,T,T,T,T,F,F] rfl rfl (any_of HT_.out (by kernel_rfl)) (fun _ _ _ h=>h) (Or.inr ⟨by rfl,rfl⟩) ?_ ?_
              rotate_left;·simp only [Act.put,L_,M_,N_,i64_w,i32_w];rfl
              refine pure_ (i:=22) (N:=some 68) (v:=?_) (a':=?_) #[T,T,T,T,T,T,T,T,T,T,T,T,T,T,T,T,T,T,T,T,T,T,T,F] rfl rfl (any_of HT_.out (by kernel_rfl)) (fun _ _ _ h=>h) (Or.inl ⟨by rfl,?_⟩) ?_ ?_
              rotate_left;·intro w';go_simp;with_reducible rfl
              rotate_left;·simp only [Act.put,L_,M_,N_,i64_w,i32_w];rfl
              refine pure_ (i:=23) (N:=some 8) (v:=?_) (a':=?_) #[T,T,T,T,T,T,T,T,T,T,T,T,T,T,T,T,T,T,T,T,T,T,T,T] rfl rfl (any_of HT_.out (by kernel_rfl)) (fun _ _ _ h=>h) (Or.inl ⟨by rfl,?_⟩) ?_ ?_
              rotate_left;·intro w';go_simp;with_reducible rfl
              rotate_left;·simp only [Act.put,L_,M_,N_,i64_w,i32_w];rfl
              refine done_ (done_of HT_.out (by kernel_rfl)) ?_
              try go_wp2
              go_roundg k3
              case measure=>have:=HK1.out;have:=HJ14.out;have:=HK3.out;omega
              case rel=>exact ⟨(false),(wrap64 (x41_3 + 1)),(by first|rfl|(simp;done)|(simp [*];done)),(by first|rfl|(simp;done)|(simp [*];done)),H',⟨by have:=HK1.out;have:=HJ14.out;have:=HK3.out;omega⟩,⟨bl_ BK537⟩,⟨bl_ BK538⟩,⟨bl_ BK539⟩,⟨bb_⟩⟩
            ·replace c27:=Bool.eq_false_iff.mpr c27;subst c27;have H1 : (impl_Order_pattern_1.l1 is k3 l0 (l0.length : Int) x21_1 false a2_0 x21_1 l0 (l0.length : Int) (wrap64 (x41_3 + 1)) a1_0 l1_1 a2_0 l2_1) = some r:=by rw [if_neg (show ¬ (false = true) by decide)] at H;exact H
             clear H;have H:=H1;clear H1;have H':=A_ H;clear H;have p543 : 0 ≤ (x41_3 : Int):=of_decide_eq_true (by first|(with_reducible assumption)|assumption);have q543 : x41_3 < (l0.length : Int):=of_decide_eq_true (by first|(with_reducible assumption)|assumption);obtain ⟨ad543,e543,hx543_0⟩:=Kd.at_int HR0.out x41_3 p543 q543;cases e543
             (try replace hx543_0:=(HB.out.cell (World.block_lt_of_cell? w _ hx543_0)).trans hx543_0);replace p543:=eq_true p543;replace q543:=eq_true q543;try go_wp2
             replace BK537:=A_ (blk_drew BK537.out);replace BK538:=A_ (blk_drew BK538.out);replace BK539:=A_ (blk_drew BK539.out);replace HB:=A_ (below_drew1 HB.out);refine start_ (n:=24) (S:=fun w'=>True) (ds:=[]) #[F,F,F,F,F,F,F,F,F,F,F,F,F,F,F,F,F,F,F,F,F,F,F,F] (by kernel_rfl) rfl rfl trivial (fun hHeld=>?_);refine with_tabW impl_Order_pattern_1.tab11 impl_Order_pattern_1.bits11 (fun HT_ HW_=>?_)
             generalize wr.drew = w41 at BK537 BK538 BK539 HB hHeld ⊢
             refine pure_ (i:=0) (N:=some 46) (v:=?_) (a':=?_) #[T,F,F,F,F,F,F,F,F,F,F,F,F,F,F,F,F,F,F,F,F,F,F,F] rfl rfl (any_of HT_.out (by kernel_rfl)) (fun _ _ _ h=>h) (Or.inl ⟨by rfl,?_⟩) ?_ ?_
             rotate_left;·intro w';go_simp;with_reducible rfl
             rotate_left;·simp only [Act.put,L_,M_,N_,i64_w,i32_w];rfl
             refine pure_ (i:=1) (N:=some 47) (v:=?_) (a':=?_) #[T,T,F,F,F,F,F,F,F,F,F,F,F,F,F,F,F,F,F,F,F,F,F,F] rfl rfl (any_of HT_.out (by kernel_rfl)) (fun _ _ _ h=>h) (Or.inl ⟨by rfl,?_⟩) ?_ ?_
             rotate_left;·intro w';go_simp;with_reducible rfl
             rotate_left;·simp only [Act.put,L_,M_,N_,i64_w,i32_w];rfl
             refine pure_ (i:=2) (N:=some 48) (v:=undef) (a':=?_) #[T,T,T,F,F,F,F,F,F,F,F,F,F,F,F,F,F,F,F,F,F,F,F,F] rfl rfl (any_of HT_.out (by kernel_rfl)) (fun _ _ _ h=>h) (Or.inr ⟨by rfl,rfl⟩) ?_ ?_
             rotate_left;·simp only [Act.put,L_,M_,N_,i64_w,i32_w];rfl
             refine pure_ (i:=3) (N:=some 49) (v:=undef) (a':=?_) #[T,T,T,T,F,F,F,F,F,F,F,F,F,F,F,F,F,F,F,F,F,F,F,F] rfl rfl (any_of HT_.out (by kernel_rfl)) (fun _ _ _ h=>h) (Or.inr ⟨by rfl,rfl⟩) ?_ ?_
             rotate_left;·simp only [Act.put,L_,M_,N_,i64_w,i32_w];rfl
             refine pure_ (i:=4) (N:=some 50) (v:=undef) (a':=?_) #[T,T,T,T,T,F,F,F,F,F,F,F,F,F,F,F,F,F,F,F,F,F,F,F] rfl rfl (any_of HT_.out (by kernel_rfl)) (fun _ _ _ h=>h) (Or.inr ⟨by rfl,rfl⟩) ?_ ?_
             rotate_left;·simp only [Act.put,L_,M_,N_,i64_w,i32_w];rfl
             refine pure_ (i:=5) (N:=some 51) (v:=undef) (a':=?_) #[T,T,T,T,T,T,F,F,F,F,F,F,F,F,F,F,F,F,F,F,F,F,F,F] rfl rfl (any_of HT_.out (by kernel_rfl)) (fun _ _ _ h=>h) (Or.inr ⟨by rfl,rfl⟩) ?_ ?_
             rotate_left;·simp only [Act.put,L_,M_,N_,i64_w,i32_w];rfl
             refine pure_ (i:=6) (N:=some 52) (v:=undef) (a':=?_) #[T,T,T,T,T,T,T,F,F,F,F,F,F,F,F,F,F,F,F,F,F,F,F,F] rfl rfl (any_of HT_.out (by kernel_rfl)) (fun _ _ _ h=>h) (Or.inr ⟨by rfl,rfl⟩) ?_ ?_
             rotate_left;·simp only [Act.put,L_,M_,N_,i64_w,i32_w];rfl
             refine pure_ (i:=7) (N:=some 53) (v:=undef) (a':=?_) #[T,T,T,T,T,T,T,T,F,F,F,F,F,F,F,F,F,F,F,F,F,F,F,F] rfl rfl (any_of HT_.out (by kernel_rfl)) (fun _ _ _ h=>h) (Or.inr ⟨by rfl,rfl⟩) ?_ ?_
             rotate_left;·simp only [Act.put,L_,M_,N_,i64_w,i32_w];rfl
             refine pure_ (i:=8) (N:=some 54) (v:=undef) (a':=?_) #[T,T,T,T,T,T,T,T,T,F,F,F,F,F,F,F,F,F,F,F,F,F,F,F] rfl rfl (any_of HT_.out (by kernel_rfl)) (fun _ _ _ h=>h) (Or.inr ⟨by rfl,rfl⟩) ?_ ?_
             rotate_left;·simp only [Act.put,L_,M_,N_,i64_w,i32_w];rfl
             refine pure_ (i:=9) (N:=some 55) (v:=undef) (a':=?_) #[T,T,T,T,T,T,T,T,T,T,F,F,F,F,F,F,F,F,F,F,F,F,F,F] rfl rfl (any_of HT_.out (by kernel_rfl)) (fun _ _ _ h=>h) (Or.inr ⟨by rfl,rfl⟩) ?_ ?_
             rotate_left;·simp only [Act.put,L_,M_,N_,i64_w,i32_w];rfl
             refine pure_ (i:=10) (N:=some 56) (v:=undef) (a':=?_) #[T,T,T,T,T,T,T,T,T,T,T,F,F,F,F,F,F,F,F,F,F,F,F,F] rfl rfl (any_of HT_.out (by kernel_rfl)) (fun _ _ _ h=>h) (Or.inr ⟨by rfl,rfl⟩) ?_ ?_
             rotate_left;·simp only [Act.put,L_,M_,N_,i64_w,i32_w];rfl
             refine pure_ (i:=11) (N:=some 57) (v:=?_) (a':=?_) #[T,T,T,T,T,T,T,T,T,T,T,T,F,F,F,F,F,F,F,F,F,F,F,F] rfl rfl (any_of HT_.out (by kernel_rfl)) (fun _ _ _ h=>h) (Or.inl ⟨by rfl,?_⟩) ?_ ?_
             rotate_left;·intro w';go_simp;with_reducible rfl
             rotate_left;·simp only [Act.put,L_,M_,N_,i64_w,i32_w];rfl
             refine pure_ (i:=12) (N:=some 58) (v:=?_) (a':=?_) #[T,T,T,T,T,T,T,T,T,T,T,T,T,F,F,F,F,F,F,F,F,F,F,F] rfl rfl (any_of HT_.out (by kernel_rfl)) (fun _ _ _ h=>h) (Or.inl ⟨by rfl,?_⟩) ?_ ?_
             rotate_left;·intro w';go_simp;with_reducible rfl
             rotate_left;·simp only [Act.put,L_,M_,N_,i64_w,i32_w];rfl
             refine pure_ (i:=13) (N:=some 59) (v:=undef) (a':=?_) #[T,T,T,T,T,T,T,T,T,T,T,T,T,T,F,F,F,F,F,F,F,F,F,F] rfl rfl (any_of HT_.out (by kernel_rfl)) (fun _ _ _ h=>h) (Or.inr ⟨by rfl,rfl⟩) ?_ ?_
             rotate_left;·simp only [Act.put,L_,M_,N_,i64_w,i32_w];rfl
             refine pure_ (i:=14) (N:=some 60) (v:=undef) (a':=?_) #[T,T,T,T,T,T,T,T,T,T,T,T,T,T,T,F,F,F,F,F,F,F,F,F] rfl rfl (any_of HT_.out (by kernel_rfl)) (fun _ _ _ h=>h) (Or.inr ⟨by rfl,rfl⟩) ?_ ?_
             rotate_left;·simp only [Act.put,L_,M_,N_,i64_w,i32_w];rfl
             refine pure_ (i:=15) (N:=some 61) (v:=undef) (a':=?_) #[T,T,T,T,T,T,T,T,T,T,T,T,T,T,T,T,F,F,F,F,F,F,F,F] rfl rfl (any_of HT_.out (by kernel_rfl)) (fun _ _ _ h=>h) (Or.inr ⟨by rfl,rfl⟩) ?_ ?_
             rotate_left;·simp only [Act.put,L_,M_,N_,i64_w,i32_w];rfl
             refine pure_ (i:=16) (N:=some 62) (v:=undef) (a':=?_) #[T,T,T,T,T,T,T,T,T,T,T,T,T,T,T,T,T,F,F,F,F,F,F,F] rfl rfl (any_of HT_.out (by kernel_rfl)) (fun _ _ _ h=>h) (Or.inr ⟨by rfl,rfl⟩) ?_ ?_
             rotate_left;·simp only [Act.put,L_,M_,N_,i64_w,i32_w];rfl
             refine pure_ (i:=17) (N:=some 63) (v:=undef) (a':=?_) #[T,T,T,T,T,T,T,T,T,T,T,T,T,T,T,T,T,T,F,F,F,F,F,F] rfl rfl (any_of HT_.out (by kernel_rfl)) (fun _ _ _ h=>h) (Or.inr ⟨by rfl,rfl⟩) ?_ ?_
             rotate_left;·simp only [Act.put,L_,M_,N_,i64_w,i32_w];rfl
             refine pure_ (i:=18) (N:=some 64) (v:=undef) (a':=?_) #[T,T,T,T,T,T,T,T,T,T,T,T,T,T,T,T,T,T,T,F,F,F,F,F] rfl rfl (any_of HT_.out (by kernel_rfl)) (fun _ _ _ h=>h) (Or.inr ⟨by rfl,rfl⟩) ?_ ?_
             rotate_left;·simp only [Act.put,L_,M_,N_,i64_w,i32_w];rfl
             refine pure_ (i:=19) (N:=some 65) (v:=undef) (a':=?_) #[T,T,T,T,T,T,T,T,T,T,T,T,T,T,T,T,T,T,T,T,F,F,F,F] rfl rfl (any_of HT_.out (by kernel_rfl)) (fun _ _ _ h=>h) (Or.inr ⟨by rfl,rfl⟩) ?_ ?_
             rotate_left;·simp only [Act.put,L_,M_,N_,i64_w,i32_w];rfl
             refine pure_ (i:=20) (N:=some 66) (v:=undef) (a':=?_) #[T,T,T,T,T,T,T,T,T,T,T,T,T,T,T,T,T,T,T,T,T,F,F,F] rfl rfl (any_of HT_.out (by kernel_rfl)) (fun _ _ _ h=>h) (Or.inr ⟨by rfl,rfl⟩) ?_ ?_
             rotate_left;·simp only [Act.put,L_,M_,N_,i64_w,i32_w];rfl
             refine pure_ (i:=21) (N:=some 67) (v:=undef) (a':=?_) #[T,T,T,T,T,T,T,T,T,T,T,T,T,T,T,T,T,T,T,T,T,T,F,F] rfl rfl (any_of HT_.out (by kernel_rfl)) (fun _ _ _ h=>h) (Or.inr ⟨by rfl,rfl⟩) ?_ ?_
             rotate_left;·simp only [Act.put,L_,M_,N_,i64_w,i32_w];rfl
             refine pure_ (i:=22) (N:=some 68) (v:=?_) (a':=?_) #[T,T,T,T,T,T,T,T,T,T,T,T,T,T,T,T,T,T,T,T,T,T,T,F] rfl rfl (any_of HT_.out (by kernel_rfl)) (fun _ _ _ h=>h) (Or.inl ⟨by rfl,?_⟩) ?_ ?_
             rotate_left;·intro w';go_simp;with_reducible rfl
             rotate_left;·simp only [Act.put,L_,M_,N_,i64_w,i32_w];rfl
             refine pure_ (i:=23) (N:=some 8) (v:=?_) (a':=?_) #[T,T,T,T,T,T,T,T,T,T,T,T,T,T,T,T,T,T,T,T,T,T,T,T] rfl rfl (any_of HT_.out (by kernel_rfl)) (fun _ _ _ h=>h) (Or.inl ⟨by rfl,?_⟩) ?_ ?_
             rotate_left;·intro w';go_simp;with_reducible rfl
             rotate_left;·simp only [Act.put,L_,M_,N_,i64_w,i32_w];rfl
             refine done_ (done_of HT_.out (by kernel_rfl)) ?_
             try go_wp2
             go_roundg k3
             case measure=>have:=HK1.out;have:=HJ14.out;have:=HK3.out;omega
             case rel=>exact ⟨(false),(wrap64 (x41_3 + 1)),(by first|rfl|(simp;done)|(simp [*];done)),(by first|rfl|(simp;done)|(simp [*];done)),H',⟨by have:=HK1.out;have:=HJ14.out;have:=HK3.out;omega⟩,⟨bl_ BK537⟩,⟨bl_ BK538⟩,⟨bl_ BK539⟩,⟨bb_⟩⟩
           ·rw [if_neg c26] at H;exact absurd H (by simp)
          ·rw [if_neg c25] at H;exact absurd H (by simp)
         ·rw [if_neg c24] at H;have c24b0 : decide (x41_3 < (l0.length : Int)) = false:=decide_eq_false c24;clear c24;by_cases c42 : x8_3 = true
          ·subst c42;have H1 : ((slices_Clone_int_int.f l0).bind fun t548=>((some (([x21_1] : List Int) : List Int)).bind fun y551=>(if t548.length + y551.length < 17592186044416 then ((is (t548 ++ y551)).bind fun t557=>(if t557 = ([] : List Int) then (impl_Order_pattern_1.l0 is k3 l0 (l0.length : Int) a2_0 (wrap64 (x21_1 + 1)) a1_0 l1_1 a2_0 l2_1) else (some t557))) else (none)))) = some r:=by rw [if_pos rfl] at H;exact H
           clear H;have H:=H1;clear H1;replace H:=Option.bind_eq_some_iff.mp H;obtain ⟨t548,A430,H⟩:=H;replace H : ((some (([x21_1] : List Int) : List Int)).bind fun y551=>(if t548.length + y551.length < 17592186044416 then ((is (t548 ++ y551)).bind fun t557=>(if t557 = ([] : List Int) then (impl_Order_pattern_1.l0 is k3 l0 (l0.length : Int) a2_0 (wrap64 (x21_1 + 1)) a1_0 l1_1 a2_0 l2_1) else (some t557))) else (none))) = some r:=H;have A43:=A_ A430;clear A430;obtain ⟨y551,hy551⟩ : ∃ y_ : List Int,y_ = (([x21_1] : List Int)):=⟨_,rfl⟩;replace H : (if t548.length + y551.length < 17592186044416 then ((is (t548 ++ y551)).bind fun t557=>(if t557 = ([] : List Int) then (impl_Order_pattern_1.l0 is k3 l0 (l0.length : Int) a2_0 (wrap64 (x21_1 + 1)) a1_0 l1_1 a2_0 l2_1) else (some t557))) else (none)) = some r:=by first|(rw [hy551];with_reducible exact H)|(have H2_:=(Option.bind_some _ _).symm.trans H;rw [hy551];with_reducible exact H2_)|(have H2_:=(Option.bind_some _ _).symm.trans H;with_reducible exact H2_)|with_reducible exact H|(rw [hy551];exact H)|exact H
           have Ny551:=A_ hy551;clear hy551;by_cases c44 : t548.length + y551.length < 17592186044416
           ·rw [if_pos c44] at H;have LMc44:=A_ c44;clear c44;obtain ⟨y554,hy554⟩ : ∃ y_ : List Int,y_ = (t548 ++ y551):=⟨_,rfl⟩;replace H : ((is y554).bind fun t557=>(if t557 = ([] : List Int) then (impl_Order_pattern_1.l0 is k3 l0 (l0.length : Int) a2_0 (wrap64 (x21_1 + 1)) a1_0 l1_1 a2_0 l2_1) else (some t557))) = some r:=by first|(rw [hy554];with_reducible exact H)|(have H2_:=(Option.bind_some _ _).symm.trans H;rw [hy554];with_reducible exact H2_)|(have H2_:=(Option.bind_some _ _).symm.trans H;with_reducible exact H2_)|with_reducible exact H|(rw [hy554];exact H)|exact H
            have Ny554:=A_ hy554;clear hy554;replace H:=Option.bind_eq_some_iff.mp H;obtain ⟨t557,A450,H⟩:=H;replace H : (if t557 = ([] : List Int) then (impl_Order_pattern_1.l0 is k3 l0 (l0.length : Int) a2_0 (wrap64 (x21_1 + 1)) a1_0 l1_1 a2_0 l2_1) else (some t557)) = some r:=H;have A45:=A_ A450;clear A450;by_cases c46 : t557 = ([] : List Int)
            ·rw [if_pos c46] at H;have c46b0 : (t557 == ([] : List Int)) = true:=beq_iff_eq.mpr c46;have c46b1 : (t557 != ([] : List Int)) = false:=bne_eq_false_iff_eq.mpr c46;clear c46;have H':=A_ H;clear H;try go_wp2
             replace BK537:=A_ (blk_drew BK537.out);replace BK538:=A_ (blk_drew BK538.out);replace BK539:=A_ (blk_drew BK539.out);replace HB:=A_ (below_drew1 HB.out);refine start_ (n:=8) (S:=fun w'=>w'.cell? ⟨g3_,0,none⟩ = some (.func (.func 128) #[] #[.pointer (some ⟨g1_,0,none⟩),.pointer (some ⟨g2_,0,none⟩),.pointer (some ⟨g3_,0,none⟩)])) (ds:=[]) #[F,F,F,F,F,F,F,F] (by kernel_rfl) rfl rfl (blk_cell BK539.out 0) (fun hHeld=>?_);refine with_tabW impl_Order_pattern_1.tab14 impl_Order_pattern_1.bits14 (fun HT_ HW_=>?_)
             generalize wr.drew = w47 at BK537 BK538 BK539 HB hHeld ⊢
             refine pure_ (i:=1) (N:=some 72) (v:=?_) (a':=?_) #[F,T,F,F,F,F,F,F] rfl rfl (any_of HT_.out (by kernel_rfl)) (fun _ _ _ h=>h) (Or.inl ⟨by rfl,?_⟩) ?_ ?_
             rotate_left;·intro w';go_simp;with_reducible rfl
             rotate_left;·simp only [Act.put,L_,M_,N_,i64_w,i32_w];rfl
             refine pure_ (i:=3) (N:=some 74) (v:=?_) (a':=?_) #[F,T,F,T,F,F,F,F] rfl rfl (any_of HT_.out (by kernel_rfl)) (fun _ _ _ h=>h) (Or.inl ⟨by rfl,?_⟩) ?_ ?_
             rotate_left;·intro w';go_simp;with_reducible rfl
             rotate_left;·simp only [Act.put,L_,M_,N_,i64_w,i32_w];rfl
             refine take_ (i:=0) (N:=some 71) (v:=?_) (a':=?_) #[T,T,F,T,F,F,F,F] rfl rfl (take_ofW HT_.out HW_.out (by kernel_rfl)) (fun _ _ _ h=>h) (Or.inl ⟨by rfl,?_⟩) hHeld ?_ ?_
             rotate_left
             ·intro w' s0
              go_simp
              with_reducible rfl
             rotate_left;·simp only [Act.put,L_,M_,N_,i64_w,i32_w];rfl
             refine join_ (σ:=Value × Value) 3 #[T,T,T,T,T,F,F,F] (fun s_=>[(73,s_.1),(75,s_.2)]) (fun s_ w'=>(w'.cell? ⟨g3_,0,none⟩ = some (.func (.func 128) #[] #[.pointer (some ⟨g1_,0,none⟩),.pointer (some ⟨g2_,0,none⟩),.pointer (some ⟨g3_,0,none⟩)])) ∧ (Kd.R (Kd.int .i64) 3 w' w.heap.size (fun k_=>some k_ ≠ (s_.2 : Value).ownBlock) s_.1 t548) ∧ (Kd.R (Kd.int .i64) 3 w' w.heap.size (fun k_=>some k_ ≠ (s_.1 : Value).ownBlock) s_.2 y551) ∧ (w'.heap[g1_]? = some (.cells #[.int .i64 a1_0,.slice A1_1 l1_1.length c1_1] 26 (0,0))) ∧ (w'.heap[g2_]? = some (.cells #[.int .i64 a2_0,.slice A2_1 l2_1.length c2_1] 26 (0,0))) ∧ (w'.heap[g3_]? = some (.cells #[.func (.func 128) #[] #[.pointer (some ⟨g1_,0,none⟩),.pointer (some ⟨g2_,0,none⟩),.pointer (some ⟨g3_,0,none⟩)]] 35 (0,0))) ∧ (Below w.heap.size w w')) ?_ ?_
             rotate_left
             ·intro hCont
              refine two_ (i:=2) (j:=4) (Ni:=some 73) (Nj:=some 75) #[T,T,T,T,F,F,F,F] #[T,T,F,T,T,F,F,F] rfl rfl rfl rfl (two_of HT_.out (by kernel_rfl)) (by decide) (by decide) (fun K hK=>?_) (fun K hK=>?_)
              ·skip
               refine goes_ Tryd.func100 (by kernel_rfl) rfl #[.slice A0 l0.length c0] (by rfl) rfl rfl au_ ?_
               with_reducible refine (slices_Clone_int_int.calls _ _ l0 t548 _ ?side1 ?side2 A43.out).mono ?_
               (case side1=>exact cl_ (Kd.C_below HR0.out HB.out))
               (case side2=>exact HC0.out)
               rintro e w48 ⟨v549,rfl,ho0,hb⟩
               refine ⟨_,rfl,?_⟩
               have HO550:=A_ (Kd.R_lower ho0 (below_size bb_));replace BK537:=bz BK537 hb;replace BK538:=bz BK538 hb;replace BK539:=bz BK539 hb;replace HB:=A_ (below_step bb_ hb);(try clear hb);(try clear hb2);(try clear hk);(try clear hi);(try clear ho0);refine hK.out _ _ (blk_cell BK539.out 0) (fun hHeld=>?_)
               clear hK K;refine norm_ (a':=?_) ?_ ?_
               rotate_left
               ·show Act.put _ (some 73) _ = _
                simp only [Act.put,L_,M_,N_,i64_w,i32_w]
                rfl
               refine one_ (i:=4) (N:=some 75) #[T,T,T,T,T,F,F,F] rfl rfl (one_of HT_.out (by kernel_rfl)) (by decide) (fun K hK=>?_)
               refine Kd.R_lit_step (Kd.int .i64) _ 3 ?hg (N:=75) ?hd (xs:=([x21_1] : List Int)) (inner:=[.int .i64 x21_1]) (ok:=fun _=>True) (okp:=fun _=>True) ?hr ?hp (fun _ hk=>hk) trivial (Below.refl _ _) (Nat.le_refl _) (by simp) ?_;(case hd=>rfl);(case hg=>rfl);(case hr=>first|(go_simp;done)|(go_simp;rfl));(case hp=>exact (Reps.one (show Kd.M (Kd.int .i64) _ _ _ x21_1 [.int .i64 x21_1] from rfl) (Reps.none _ _)))
               intro v552 w49 ho50 hb hg_ hnew_
               clear hg_ hnew_;(first|rw [← Ny551.out] at ho50|(simp only [Int.reduceToNat] at ho50;rw [← Ny551.out] at ho50))
               have HO553:=A_ (Kd.R_lower (Kd.R_new' ho50 (Kd.R_lt (rl_ HO550))) (below_size bb_));replace HO550:=A_ (Kd.R_elder' (rl_ HO550) (Kd.R_base ho50) hb);replace BK537:=bz BK537 hb;replace BK538:=bz BK538 hb;replace BK539:=bz BK539 hb;replace HB:=A_ (below_step bb_ hb);clear hb ho50;refine hK.out _ _ (blk_cell BK539.out 0) (fun hHeld=>?_)
               clear hK K;refine norm_ (a':=?_) ?_ ?_
               rotate_left
               ·show Act.put _ (some 75) _ = _
                simp only [Act.put,L_,M_,N_,i64_w,i32_w]
                rfl
               exact norm_ (by simp only [putAll,Act.put,L_,M_,N_]) (hCont (v549,v552) _ ⟨hHeld,(by (with_reducible repeat (first|apply Kd.R_alloc|apply Kd.R_drewN|apply Kd.R_drew));exact Kd.R_mono HO550.out (fun _ hk=>hk.2)),(by (with_reducible repeat (first|apply Kd.R_alloc|apply Kd.R_drewN|apply Kd.R_drew));exact Kd.R_mono HO553.out (fun _ hk=>hk.2)),(bl_ BK537),(bl_ BK538),(bl_ BK539),bb_⟩)
              ·skip
               refine Kd.R_lit_step (Kd.int .i64) _ 3 ?hg (N:=75) ?hd (xs:=([x21_1] : List Int)) (inner:=[.int .i64 x21_1]) (ok:=fun _=>True) (okp:=fun _=>True) ?hr ?hp (fun _ hk=>hk) trivial (Below.refl _ _) (Nat.le_refl _) (by simp) ?_;(case hd=>rfl);(case hg=>rfl);(case hr=>first|(go_simp;done)|(go_simp;rfl));(case hp=>exact (Reps.one (show Kd.M (Kd.int .i64) _ _ _ x21_1 [.int .i64 x21_1] from rfl) (Reps.none _ _)))
               intro v552 w48 ho49 hb hg_ hnew_
               clear hg_ hnew_;(first|rw [← Ny551.out] at ho49|(simp only [Int.reduceToNat] at ho49;rw [← Ny551.out] at ho49))
               have HO553:=A_ (Kd.R_lower ho49 (below_size bb_));replace BK537:=bz BK537 hb;replace BK538:=bz BK538 hb;replace BK539:=bz BK539 hb;replace HB:=A_ (below_step bb_ hb);clear hb ho49;refine hK.out _ _ (blk_cell BK539.out 0) (fun hHeld=>?_)
               clear hK K;refine norm_ (a':=?_) ?_ ?_
               rotate_left
               ·show Act.put _ (some 75) _ = _
                simp only [Act.put,L_,M_,N_,i64_w,i32_w]
                rfl
               refine one_ (i:=2) (N:=some 73) #[T,T,T,T,T,F,F,F] rfl rfl (one_of HT_.out (by kernel_rfl)) (by decide) (fun K hK=>?_)
               refine goes_ Tryd.func100 (by kernel_rfl) rfl #[.slice A0 l0.length c0] (by rfl) rfl rfl au_ ?_
               with_reducible refine (slices_Clone_int_int.calls _ _ l0 t548 _ ?side1 ?side2 A43.out).mono ?_
               (case side1=>exact cl_ (Kd.C_below HR0.out HB.out))
               (case side2=>exact HC0.out)
               rintro e w50 ⟨v549,rfl,ho0,hb⟩
               refine ⟨_,rfl,?_⟩
               have HO550:=A_ (Kd.R_lower (Kd.R_new' ho0 (Kd.R_lt (rl_ HO553))) (below_size bb_));replace HO553:=A_ (Kd.R_elder' (rl_ HO553) (Kd.R_base ho0) hb);replace BK537:=bz BK537 hb;replace BK538:=bz BK538 hb;replace BK539:=bz BK539 hb;replace HB:=A_ (below_step bb_ hb);(try clear hb);(try clear hb2);(try clear hk);(try clear hi);(try clear ho0);refine hK.out _ _ (blk_cell BK539.out 0) (fun hHeld=>?_)
               clear hK K;refine norm_ (a':=?_) ?_ ?_
               rotate_left
               ·show Act.put _ (some 73) _ = _
                simp only [Act.put,L_,M_,N_,i64_w,i32_w]
                rfl
               exact norm_ (by simp only [putAll,Act.put,L_,M_,N_]) (hCont (v549,v552) _ ⟨hHeld,(by (with_reducible repeat (first|apply Kd.R_alloc|apply Kd.R_drewN|apply Kd.R_drew));exact Kd.R_mono HO550.out (fun _ hk=>hk.2)),(by (with_reducible repeat (first|apply Kd.R_alloc|apply Kd.R_drewN|apply Kd.R_drew));exact Kd.R_mono HO553.out (fun _ hk=>hk.2)),(bl_ BK537),(bl_ BK538),(bl_ BK539),bb_⟩)
             rintro ⟨v549,v552⟩ w51 ⟨hS_,h0_,h1_,h2_,h3_,h4_,h5_⟩
             have n0_ : Aside0 (Kd.R (Kd.int .i64) 3 w51 w.heap.size (fun k_=>some k_ ≠ (v552 : Value).ownBlock) v549 t548):=⟨h0_⟩;have n1_ : Aside0 (Kd.R (Kd.int .i64) 3 w51 w.heap.size (fun k_=>some k_ ≠ (v549 : Value).ownBlock) v552 y551):=⟨h1_⟩;have n2_ : Aside0 (w51.heap[g1_]? = some (.cells #[.int .i64 a1_0,.slice A1_1 l1_1.length c1_1] 26 (0,0))):=⟨h2_⟩;have n3_ : Aside0 (w51.heap[g2_]? = some (.cells #[.int .i64 a2_0,.slice A2_1 l2_1.length c2_1] 26 (0,0))):=⟨h3_⟩;have n4_ : Aside0 (w51.heap[g3_]? = some (.cells #[.func (.func 128) #[] #[.pointer (some ⟨g1_,0,none⟩),.pointer (some ⟨g2_,0,none⟩),.pointer (some ⟨g3_,0,none⟩)]] 35 (0,0))):=⟨h4_⟩;have n5_ : Aside0 (Below w.heap.size w w51):=⟨h5_⟩;clear BK537;clear BK538;clear BK539;clear HB;clear h0_ h1_ h2_ h3_ h4_ h5_;have HO550:=n0_;have HO553:=n1_;have BK537:=n2_;have BK538:=n3_;have BK539:=n4_;have HB:=n5_;clear n0_ n1_ n2_ n3_ n4_ n5_;have hHeld : w51.cell? ⟨g3_,0,none⟩ = some (.func (.func 128) #[] #[.pointer (some ⟨g1_,0,none⟩),.pointer (some ⟨g2_,0,none⟩),.pointer (some ⟨g3_,0,none⟩)]):=hS_;obtain ⟨Ao53,co53,eo53⟩:=Kd.R_slice HO553.out;(first|subst eo53|(injection eo53 with f1_ f2_ f3_;have f4_:=f1_.symm;have f5_:=f3_.symm;clear f1_ f2_ f3_;subst f4_;subst f5_))
             refine norm_ (a':=?_) ?_ ?_
             rotate_left;·simp only [putAll,Act.put,L_,M_,N_];rfl
             refine one_ (i:=5) (N:=some 76) #[T,T,T,T,T,T,F,F] rfl rfl (one_of HT_.out (by kernel_rfl)) (by decide) (fun K hK=>?_)
             refine Kd.R_append_rows_step (Kd.int .i64) (w0:=w) w.heap.size (by rfl) (.tmp 73) (.tmp 75) 24 3 (.int .i64 0) 8 rfl Tryd.underlying24 info3 rfl (by decide) (by omega) v549 t548 y551 _ _ _ (fun k_=>some k_ ≠ (.slice Ao53 y551.length co53 : Value).ownBlock) (fun _=>False) rfl rfl ?aO ?aR (fun _ _ h=>h) (fun _ h=>h.elim) ?aF ?aB ?aS ?aL ?_
             (case aR=>exact cl_ (Kd.R_reads' HO553.out).2.2)
             (case aB=>exact bb_)
             (case aF=>exact (fun k_ hk=>Kd.fresh' (Kd.R_lt (rl_ HO553)) k_ hk))
             (case aO=>exact (rl_ HO550))
             (case aS=>exact (below_size bb_))
             (case aL=>have:=LMc44.out;omega)
             intro v555 w52 ho hb hg hat
             rw [← Ny554.out] at ho;replace BK537:=A_ (blk_grown (g:=g1_) (o:=.cells #[.int .i64 a1_0,.slice A1_1 l1_1.length c1_1] 26 (0,0)) (bl_ BK537) hg (Kd.R_ne HO550.out BK537.out (by decide)));replace BK538:=A_ (blk_grown (g:=g2_) (o:=.cells #[.int .i64 a2_0,.slice A2_1 l2_1.length c2_1] 26 (0,0)) (bl_ BK538) hg (Kd.R_ne HO550.out BK538.out (by decide)));replace BK539:=A_ (blk_grown (g:=g3_) (o:=.cells #[.func (.func 128) #[] #[.pointer (some ⟨g1_,0,none⟩),.pointer (some ⟨g2_,0,none⟩),.pointer (some ⟨g3_,0,none⟩)]] 35 (0,0)) (bl_ BK539) hg (Kd.R_ne HO550.out BK539.out (by decide)));replace HO553:=A_ (Kd.R_after (ok:=(fun _=>True)) (by (with_reducible repeat (first|apply Kd.R_alloc|apply Kd.R_drewN|apply Kd.R_drew));exact Kd.R_mono HO553.out (fun _ hk=>⟨trivial,hk⟩)) hg hat);replace HB:=A_ (hb);have HO556:=A_ (ho);clear HO550;clear ho hb hg hat;obtain ⟨Ao54,co54,eo54⟩:=Kd.R_slice HO556.out;(first|subst eo54|(injection eo54 with f1_ f2_ f3_;have f4_:=f1_.symm;have f5_:=f3_.symm;clear f1_ f2_ f3_;subst f4_;subst f5_))
             refine hK.out _ _ (blk_cell BK539.out 0) (fun hHeld=>?_)
             clear hK K;refine norm_ (a':=?_) ?_ ?_
             rotate_left
             ·show Act.put _ (some 76) _ = _
              simp only [Act.put,L_,M_,N_,i64_w,i32_w]
              rfl
             refine one_ (i:=6) (N:=some 77) #[T,T,T,T,T,T,T,F] rfl rfl (one_of HT_.out (by kernel_rfl)) (by decide) (fun K hK=>?_)
             refine goesC_ Tryd.func128 (by kernel_rfl) rfl #[.slice Ao54 y554.length co54] #[.pointer (some ⟨g1_,0,none⟩),.pointer (some ⟨g2_,0,none⟩),.pointer (some ⟨g3_,0,none⟩)] #[.slice Ao54 y554.length co54,.pointer (some ⟨g1_,0,none⟩),.pointer (some ⟨g2_,0,none⟩),.pointer (some ⟨g3_,0,none⟩)] (by rfl) rfl rfl rfl (by first|rfl|(simp;done)) au_ ?_
             refine (HI.out _ Ao54 co54 w.heap.size y554 t557 ?sideB ?sideZ ?sideO A45.out).mono ?_
             (case sideB=>repeat (first|(with_reducible first|exact HB.out|apply below_alloc|apply pw_below_drewN|apply below_drew1|refine below_set ?_ (Aside0.out (by assumption)))|exact HB.out))
             (case sideZ=>exact below_size bb_)
             (case sideO=>(with_reducible repeat (first|apply Kd.R_alloc|apply Kd.R_drewN|apply Kd.R_drew));exact Kd.R_mono HO556.out (fun _ _=>trivial))
             rintro e w55 ⟨v558,rfl,ho0,hb,hz_⟩
             have hz_:=hz_ (by rw [Ny554.out,Ny551.out];simp);refine ⟨_,rfl,?_⟩
             have n2_:=A_ ho0;have n3_:=bz BK537 hb;have n4_:=bz BK538 hb;have n5_:=bz BK539 hb;have n6_:=A_ (below_step bb_ hb);clear HO553;clear HO556;clear BK537;clear BK538;clear BK539;clear HB;have HO559:=n2_;have BK537:=n3_;have BK538:=n4_;have BK539:=n5_;have HB:=n6_;clear n2_ n3_ n4_ n5_ n6_;(try clear hb);(try clear hb2);(try clear hk);(try clear hi);(try clear ho0);refine hK.out _ _ (blk_cell BK539.out 0) (fun hHeld=>?_)
             clear hK K;refine norm_ (a':=?_) ?_ ?_
             rotate_left
             ·show Act.put _ (some 77) _ = _
              simp only [Act.put,L_,M_,N_,i64_w,i32_w]
              rfl
             refine pure_ (i:=7) (N:=some 11) (v:=?_) (a':=?_) #[T,T,T,T,T,T,T,T] rfl rfl (any_of HT_.out (by kernel_rfl)) (fun _ _ _ h=>h) (Or.inl ⟨by rfl,?_⟩) ?_ ?_
             rotate_left;·intro w';go_simp;with_reducible rfl
             rotate_left;·simp only [Act.put,L_,M_,N_,i64_w,i32_w];rfl
             refine done_ (done_of HT_.out (by kernel_rfl)) ?_
             obtain ⟨Ao56,co56,eo56⟩:=Kd.R_slice HO559.out;subst eo56;have hnl_:=impl_Order_pattern_1.nilFact HO559.out hz_;clear hz_;try go_wp2
             go_roundg k3
             case measure=>have:=HK1.out;have:=HJ14.out;have:=HK3.out;omega
             case rel=>exact ⟨(wrap64 (x21_1 + 1)),(by first|rfl|(simp;done)|(simp [*];done)),H',⟨by have:=HK1.out;have:=HJ14.out;have:=HK3.out;omega⟩,⟨bl_ BK537⟩,⟨bl_ BK538⟩,⟨bl_ BK539⟩,⟨bb_⟩⟩
            ·rw [if_neg c46] at H;have c46b0 : (t557 == ([] : List Int)) = false:=beq_eq_false_iff_ne.mpr c46;have c46b1 : (t557 != ([] : List Int)) = true:=bne_iff_ne.mpr c46;obtain rfl:=Option.some.inj H;try go_wp2
             replace BK537:=A_ (blk_drew BK537.out);replace BK538:=A_ (blk_drew BK538.out);replace BK539:=A_ (blk_drew BK539.out);replace HB:=A_ (below_drew1 HB.out);refine start_ (n:=8) (S:=fun w'=>w'.cell? ⟨g3_,0,none⟩ = some (.func (.func 128) #[] #[.pointer (some ⟨g1_,0,none⟩),.pointer (some ⟨g2_,0,none⟩),.pointer (some ⟨g3_,0,none⟩)])) (ds:=[]) #[F,F,F,F,F,F,F,F] (by kernel_rfl) rfl rfl (blk_cell BK539.out 0) (fun hHeld=>?_);refine with_tabW impl_Order_pattern_1.tab14 impl_Order_pattern_1.bits14 (fun HT_ HW_=>?_)
             generalize wr.drew = w57 at BK537 BK538 BK539 HB hHeld ⊢
             refine pure_ (i:=1) (N:=some 72) (v:=?_) (a':=?_) #[F,T,F,F,F,F,F,F] rfl rfl (any_of HT_.out (by kernel_rfl)) (fun _ _ _ h=>h) (Or.inl ⟨by rfl,?_⟩) ?_ ?_
             rotate_left;·intro w';go_simp;with_reducible rfl
             rotate_left;·simp only [Act.put,L_,M_,N_,i64_w,i32_w];rfl
             refine pure_ (i:=3) (N:=some 74) (v:=?_) (a':=?_) #[F,T,F,T,F,F,F,F] rfl rfl (any_of HT_.out (by kernel_rfl)) (fun _ _ _ h=>h) (Or.inl ⟨by rfl,?_⟩) ?_ ?_
             rotate_left;·intro w';go_simp;with_reducible rfl
             rotate_left;·simp only [Act.put,L_,M_,N_,i64_w,i32_w];rfl
             refine take_ (i:=0) (N:=some 71) (v:=?_) (a':=?_) #[T,T,F,T,F,F,F,F] rfl rfl (take_ofW HT_.out HW_.out (by kernel_rfl)) (fun _ _ _ h=>h) (Or.inl ⟨by rfl,?_⟩) hHeld ?_ ?_
             rotate_left
             ·intro w' s0
              go_simp
              with_reducible rfl
             rotate_left;·simp only [Act.put,L_,M_,N_,i64_w,i32_w];rfl
             refine join_ (σ:=Value × Value) 3 #[T,T,T,T,T,F,F,F] (fun s_=>[(73,s_.1),(75,s_.2)]) (fun s_ w'=>(w'.cell? ⟨g3_,0,none⟩ = some (.func (.func 128) #[] #[.pointer (some ⟨g1_,0,none⟩),.pointer (some ⟨g2_,0,none⟩),.pointer (some ⟨g3_,0,none⟩)])) ∧ (Kd.R (Kd.int .i64) 3 w' w.heap.size (fun k_=>some k_ ≠ (s_.2 : Value).ownBlock) s_.1 t548) ∧ (Kd.R (Kd.int .i64) 3 w' w.heap.size (fun k_=>some k_ ≠ (s_.1 : Value).ownBlock) s_.2 y551) ∧ (w'.heap[g1_]? = some (.cells #[.int .i64 a1_0,.slice A1_1 l1_1.length c1_1] 26 (0,0))) ∧ (w'.heap[g2_]? = some (.cells #[.int .i64 a2_0,.slice A2_1 l2_1.length c2_1] 26 (0,0))) ∧ (w'.heap[g3_]? = some (.cells #[.func (.func 128) #[] #[.pointer (some ⟨g1_,0,none⟩),.pointer (some ⟨g2_,0,none⟩),.pointer (some ⟨g3_,0,none⟩)]] 35 (0,0))) ∧ (Below w.heap.size w w')) ?_ ?_
             rotate_left
             ·intro hCont
              refine two_ (i:=2) (j:=4) (Ni:=some 73) (Nj:=some 75) #[T,T,T,T,F,F,F,F] #[T,T,F,T,T,F,F,F] rfl rfl rfl rfl (two_of HT_.out (by kernel_rfl)) (by decide) (by decide) (fun K hK=>?_) (fun K hK=>?_)
              ·skip
               refine goes_ Tryd.func100 (by kernel_rfl) rfl #[.slice A0 l0.length c0] (by rfl) rfl rfl au_ ?_
               with_reducible refine (slices_Clone_int_int.calls _ _ l0 t548 _ ?side1 ?side2 A43.out).mono ?_
               (case side1=>exact cl_ (Kd.C_below HR0.out HB.out))
               (case side2=>exact HC0.out)
               rintro e w58 ⟨v549,rfl,ho0,hb⟩
               refine ⟨_,rfl,?_⟩
               have HO550:=A_ (Kd.R_lower ho0 (below_size bb_));replace BK537:=bz BK537 hb;replace BK538:=bz BK538 hb;replace BK539:=bz BK539 hb;replace HB:=A_ (below_step bb_ hb);(try clear hb);(try clear hb2);(try clear hk);(try clear hi);(try clear ho0);refine hK.out _ _ (blk_cell BK539.out 0) (fun hHeld=>?_)
               clear hK K;refine norm_ (a':=?_) ?_ ?_
               rotate_left
               ·show Act.put _ (some 73) _ = _
                simp only [Act.put,L_,M_,N_,i64_w,i32_w]
                rfl
               refine one_ (i:=4) (N:=some 75) #[T,T,T,T,T,F,F,F] rfl rfl (one_of HT_.out (by kernel_rfl)) (by decide) (fun K hK=>?_)
               refine Kd.R_lit_step (Kd.int .i64) _ 3 ?hg (N:=75) ?hd (xs:=([x21_1] : List Int)) (inner:=[.int .i64 x21_1]) (ok:=fun _=>True) (okp:=fun _=>True) ?hr ?hp (fun _ hk=>hk) trivial (Below.refl _ _) (Nat.le_refl _) (by simp) ?_;(case hd=>rfl);(case hg=>rfl);(case hr=>first|(go_simp;done)|(go_simp;rfl));(case hp=>exact (Reps.one (show Kd.M (Kd.int .i64) _ _ _ x21_1 [.int .i64 x21_1] from rfl) (Reps.none _ _)))
               intro v552 w59 ho60 hb hg_ hnew_
               clear hg_ hnew_;(first|rw [← Ny551.out] at ho60|(simp only [Int.reduceToNat] at ho60;rw [← Ny551.out] at ho60))
               have HO553:=A_ (Kd.R_lower (Kd.R_new' ho60 (Kd.R_lt (rl_ HO550))) (below_size bb_));replace HO550:=A_ (Kd.R_elder' (rl_ HO550) (Kd.R_base ho60) hb);replace BK537:=bz BK537 hb;replace BK538:=bz BK538 hb;replace BK539:=bz BK539 hb;replace HB:=A_ (below_step bb_ hb);clear hb ho60;refine hK.out _ _ (blk_cell BK539.out 0) (fun hHeld=>?_)
               clear hK K;refine norm_ (a':=?_) ?_ ?_
               rotate_left
               ·show Act.put _ (some 75) _ = _
                simp only [Act.put,L_,M_,N_,i64_w,i32_w]
                rfl
               exact norm_ (by simp only [putAll,Act.put,L_,M_,N_]) (hCont (v549,v552) _ ⟨hHeld,(by (with_reducible repeat (first|apply Kd.R_alloc|apply Kd.R_drewN|apply Kd.R_drew));exact Kd.R_mono HO550.out (fun _ hk=>hk.2)),(by (with_reducible repeat (first|apply Kd.R_alloc|apply Kd.R_drewN|apply Kd.R_drew));exact Kd.R_mono HO553.out (fun _ hk=>hk.2)),(bl_ BK537),(bl_ BK538),(bl_ BK539),bb_⟩)
              ·skip
               refine Kd.R_lit_step (Kd.int .i64) _ 3 ?hg (N:=75) ?hd (xs:=([x21_1] : List Int)) (inner:=[.int .i64 x21_1]) (ok:=fun _=>True) (okp:=fun _=>True) ?hr ?hp (fun _ hk=>hk) trivial (Below.refl _ _) (Nat.le_refl _) (by simp) ?_;(case hd=>rfl);(case hg=>rfl);(case hr=>first|(go_simp;done)|(go_simp;rfl));(case hp=>exact (Reps.one (show Kd.M (Kd.int .i64) _ _ _ x21_1 [.int .i64 x21_1] from rfl) (Reps.none _ _)))
               intro v552 w58 ho59 hb hg_ hnew_
               clear hg_ hnew_;(first|rw [← Ny551.out] at ho59|(simp only [Int.reduceToNat] at ho59;rw [← Ny551.out] at ho59))
               have HO553:=A_ (Kd.R_lower ho59 (below_size bb_));replace BK537:=bz BK537 hb;replace BK538:=bz BK538 hb;replace BK539:=bz BK539 hb;replace HB:=A_ (below_step bb_ hb);clear hb ho59;refine hK.out _ _ (blk_cell BK539.out 0) (fun hHeld=>?_)
               clear hK K;refine norm_ (a':=?_) ?_ ?_
               rotate_left
               ·show Act.put _ (some 75) _ = _
                simp only [Act.put,L_,M_,N_,i64_w,i32_w]
                rfl
               refine one_ (i:=2) (N:=some 73) #[T,T,T,T,T,F,F,F] rfl rfl (one_of HT_.out (by kernel_rfl)) (by decide) (fun K hK=>?_)
               refine goes_ Tryd.func100 (by kernel_rfl) rfl #[.slice A0 l0.length c0] (by rfl) rfl rfl au_ ?_
               with_reducible refine (slices_Clone_int_int.calls _ _ l0 t548 _ ?side1 ?side2 A43.out).mono ?_
               (case side1=>exact cl_ (Kd.C_below HR0.out HB.out))
               (case side2=>exact HC0.out)
               rintro e w60 ⟨v549,rfl,ho0,hb⟩
               refine ⟨_,rfl,?_⟩
               have HO550:=A_ (Kd.R_lower (Kd.R_new' ho0 (Kd.R_lt (rl_ HO553))) (below_size bb_));replace HO553:=A_ (Kd.R_elder' (rl_ HO553) (Kd.R_base ho0) hb);replace BK537:=bz BK537 hb;replace BK538:=bz BK538 hb;replace BK539:=bz BK539 hb;replace HB:=A_ (below_step bb_ hb);(try clear hb);(try clear hb2);(try clear hk);(try clear hi);(try clear ho0);refine hK.out _ _ (blk_cell BK539.out 0) (fun hHeld=>?_)
               clear hK K;refine norm_ (a':=?_) ?_ ?_
               rotate_left
               ·show Act.put _ (some 73) _ = _
                simp only [Act.put,L_,M_,N_,i64_w,i32_w]
                rfl
               exact norm_ (by simp only [putAll,Act.put,L_,M_,N_]) (hCont (v549,v552) _ ⟨hHeld,(by (with_reducible repeat (first|apply Kd.R_alloc|apply Kd.R_drewN|apply Kd.R_drew));exact Kd.R_mono HO550.out (fun _ hk=>hk.2)),(by (with_reducible repeat (first|apply Kd.R_alloc|apply Kd.R_drewN|apply Kd.R_drew));exact Kd.R_mono HO553.out (fun _ hk=>hk.2)),(bl_ BK537),(bl_ BK538),(bl_ BK539),bb_⟩)
             rintro ⟨v549,v552⟩ w61 ⟨hS_,h0_,h1_,h2_,h3_,h4_,h5_⟩
             have n0_ : Aside0 (Kd.R (Kd.int .i64) 3 w61 w.heap.size (fun k_=>some k_ ≠ (v552 : Value).ownBlock) v549 t548):=⟨h0_⟩;have n1_ : Aside0 (Kd.R (Kd.int .i64) 3 w61 w.heap.size (fun k_=>some k_ ≠ (v549 : Value).ownBlock) v552 y551):=⟨h1_⟩;have n2_ : Aside0 (w61.heap[g1_]? = some (.cells #[.int .i64 a1_0,.slice A1_1 l1_1.length c1_1] 26 (0,0))):=⟨h2_⟩;have n3_ : Aside0 (w61.heap[g2_]? = some (.cells #[.int .i64 a2_0,.slice A2_1 l2_1.length c2_1] 26 (0,0))):=⟨h3_⟩;have n4_ : Aside0 (w61.heap[g3_]? = some (.cells #[.func (.func 128) #[] #[.pointer (some ⟨g1_,0,none⟩),.pointer (some ⟨g2_,0,none⟩),.pointer (some ⟨g3_,0,none⟩)]] 35 (0,0))):=⟨h4_⟩;have n5_ : Aside0 (Below w.heap.size w w61):=⟨h5_⟩;clear BK537;clear BK538;clear BK539;clear HB;clear h0_ h1_ h2_ h3_ h4_ h5_;have HO550:=n0_;have HO553:=n1_;have BK537:=n2_;have BK538:=n3_;have BK539:=n4_;have HB:=n5_;clear n0_ n1_ n2_ n3_ n4_ n5_;have hHeld : w61.cell? ⟨g3_,0,none⟩ = some (.func (.func 128) #[] #[.pointer (some ⟨g1_,0,none⟩),.pointer (some ⟨g2_,0,none⟩),.pointer (some ⟨g3_,0,none⟩)]):=hS_;obtain ⟨Ao63,co63,eo63⟩:=Kd.R_slice HO553.out;(first|subst eo63|(injection eo63 with f1_ f2_ f3_;have f4_:=f1_.symm;have f5_:=f3_.symm;clear f1_ f2_ f3_;subst f4_;subst f5_))
             refine norm_ (a':=?_) ?_ ?_
             rotate_left;·simp only [putAll,Act.put,L_,M_,N_];rfl
             refine one_ (i:=5) (N:=some 76) #[T,T,T,T,T,T,F,F] rfl rfl (one_of HT_.out (by kernel_rfl)) (by decide) (fun K hK=>?_)
             refine Kd.R_append_rows_step (Kd.int .i64) (w0:=w) w.heap.size (by rfl) (.tmp 73) (.tmp 75) 24 3 (.int .i64 0) 8 rfl Tryd.underlying24 info3 rfl (by decide) (by omega) v549 t548 y551 _ _ _ (fun k_=>some k_ ≠ (.slice Ao63 y551.length co63 : Value).ownBlock) (fun _=>False) rfl rfl ?aO ?aR (fun _ _ h=>h) (fun _ h=>h.elim) ?aF ?aB ?aS ?aL ?_
             (case aR=>exact cl_ (Kd.R_reads' HO553.out).2.2)
             (case aB=>exact bb_)
             (case aF=>exact (fun k_ hk=>Kd.fresh' (Kd.R_lt (rl_ HO553)) k_ hk))
             (case aO=>exact (rl_ HO550))
             (case aS=>exact (below_size bb_))
             (case aL=>have:=LMc44.out;omega)
             intro v555 w62 ho hb hg hat
             rw [← Ny554.out] at ho;replace BK537:=A_ (blk_grown (g:=g1_) (o:=.cells #[.int .i64 a1_0,.slice A1_1 l1_1.length c1_1] 26 (0,0)) (bl_ BK537) hg (Kd.R_ne HO550.out BK537.out (by decide)));replace BK538:=A_ (blk_grown (g:=g2_) (o:=.cells #[.int .i64 a2_0,.slice A2_1 l2_1.length c2_1] 26 (0,0)) (bl_ BK538) hg (Kd.R_ne HO550.out BK538.out (by decide)));replace BK539:=A_ (blk_grown (g:=g3_) (o:=.cells #[.func (.func 128) #[] #[.pointer (some ⟨g1_,0,none⟩),.pointer (some ⟨g2_,0,none⟩),.pointer (some ⟨g3_,0,none⟩)]] 35 (0,0)) (bl_ BK539) hg (Kd.R_ne HO550.out BK539.out (by decide)));replace HO553:=A_ (Kd.R_after (ok:=(fun _=>True)) (by (with_reducible repeat (first|apply Kd.R_alloc|apply Kd.R_drewN|apply Kd.R_drew));exact Kd.R_mono HO553.out (fun _ hk=>⟨trivial,hk⟩)) hg hat);replace HB:=A_ (hb);have HO556:=A_ (ho);clear HO550;clear ho hb hg hat;obtain ⟨Ao64,co64,eo64⟩:=Kd.R_slice HO556.out;(first|subst eo64|(injection eo64 with f1_ f2_ f3_;have f4_:=f1_.symm;have f5_:=f3_.symm;clear f1_ f2_ f3_;subst f4_;subst f5_))
             refine hK.out _ _ (blk_cell BK539.out 0) (fun hHeld=>?_)
             clear hK K;refine norm_ (a':=?_) ?_ ?_
             rotate_left
             ·show Act.put _ (some 76) _ = _
              simp only [Act.put,L_,M_,N_,i64_w,i32_w]
              rfl
             refine one_ (i:=6) (N:=some 77) #[T,T,T,T,T,T,T,F] rfl rfl (one_of HT_.out (by kernel_rfl)) (by decide) (fun K hK=>?_)
             refine goesC_ Tryd.func128 (by kernel_rfl) rfl #[.slice Ao64 y554.length co64] #[.pointer (some ⟨g1_,0,none⟩),.pointer (some ⟨g2_,0,none⟩),.pointer (some ⟨g3_,0,none⟩)] #[.slice Ao64 y554.length co64,.pointer (some ⟨g1_,0,none⟩),.pointer (some ⟨g2_,0,none⟩),.pointer (some ⟨g3_,0,none⟩)] (by rfl) rfl rfl rfl (by first|rfl|(simp;done)) au_ ?_
             refine (HI.out _ Ao64 co64 w.heap.size y554 t557 ?sideB ?sideZ ?sideO A45.out).mono ?_
             (case sideB=>repeat (first|(with_reducible first|exact HB.out|apply below_alloc|apply pw_below_drewN|apply below_drew1|refine below_set ?_ (Aside0.out (by assumption)))|exact HB.out))
             (case sideZ=>exact below_size bb_)
             (case sideO=>(with_reducible repeat (first|apply Kd.R_alloc|apply Kd.R_drewN|apply Kd.R_drew));exact Kd.R_mono HO556.out (fun _ _=>trivial))
             rintro e w65 ⟨v558,rfl,ho0,hb,hz_⟩
             have hz_:=hz_ (by rw [Ny554.out,Ny551.out];simp);refine ⟨_,rfl,?_⟩
             have n2_:=A_ ho0;have n3_:=bz BK537 hb;have n4_:=bz BK538 hb;have n5_:=bz BK539 hb;have n6_:=A_ (below_step bb_ hb);clear HO553;clear HO556;clear BK537;clear BK538;clear BK539;clear HB;have HO559:=n2_;have BK537:=n3_;have BK538:=n4_;have BK539:=n5_;have HB:=n6_;clear n2_ n3_ n4_ n5_ n6_;(try clear hb);(try clear hb2);(try clear hk);(try clear hi);(try clear ho0);refine hK.out _ _ (blk_cell BK539.out 0) (fun hHeld=>?_)
             clear hK K;refine norm_ (a':=?_) ?_ ?_
             rotate_left
             ·show Act.put _ (some 77) _ = _
              simp only [Act.put,L_,M_,N_,i64_w,i32_w]
              rfl
             refine pure_ (i:=7) (N:=some 11) (v:=?_) (a':=?_) #[T,T,T,T,T,T,T,T] rfl rfl (any_of HT_.out (by kernel_rfl)) (fun _ _ _ h=>h) (Or.inl ⟨by rfl,?_⟩) ?_ ?_
             rotate_left;·intro w';go_simp;with_reducible rfl
             rotate_left;·simp only [Act.put,L_,M_,N_,i64_w,i32_w];rfl
             refine done_ (done_of HT_.out (by kernel_rfl)) ?_
             obtain ⟨Ao66,co66,eo66⟩:=Kd.R_slice HO559.out;subst eo66;have hnl_:=impl_Order_pattern_1.nilFact HO559.out hz_;clear hz_;try go_wp2
             go_ret
             exact ⟨_,rfl,by (with_reducible repeat (first|apply Kd.R_alloc|apply Kd.R_drewN|apply Kd.R_drew));exact Kd.R_lower (Kd.R_mono HO559.out (fun _ _=>trivial)) HBS.out,bb_,fun _ h2_=>absurd h2_ (by simpa using c46b0),fun h1_=>absurd h1_ HC5_.out⟩
           ·rw [if_neg c44] at H;exact absurd H (by simp)
          ·replace c42:=Bool.eq_false_iff.mpr c42;subst c42;have H1 : (impl_Order_pattern_1.l0 is k3 l0 (l0.length : Int) a2_0 (wrap64 (x21_1 + 1)) a1_0 l1_1 a2_0 l2_1) = some r:=by rw [if_neg (show ¬ (false = true) by decide)] at H;exact H
           clear H;have H:=H1;clear H1;have H':=A_ H;clear H;go_wp2
           go_roundg k3
           case measure=>have:=HK1.out;have:=HJ14.out;have:=HK3.out;omega
           case rel=>exact ⟨(wrap64 (x21_1 + 1)),(by first|rfl|(simp;done)|(simp [*];done)),H',⟨by have:=HK1.out;have:=HJ14.out;have:=HK3.out;omega⟩,⟨bl_ BK537⟩,⟨bl_ BK538⟩,⟨bl_ BK539⟩,⟨bb_⟩⟩
    ·rw [if_neg c14] at H;have c14b0 : decide (x21_1 < a2_0) = false:=decide_eq_false c14;clear c14;obtain rfl:=Option.some.inj H;go_wp2
     go_ret
     exact ⟨_,rfl,Kd.R_nil _ _ _ _ _,bb_,by intros;rfl,fun h1_=>absurd h1_ HC5_.out⟩
def impl_Order_pattern_1.f : Nat → List Int → Int → List Int → Int → List Int → Int → Option (List Int)
 | 0,_,_,_,_,_,_=>none
 | k + 1,l0,a1_0,l1_1,a2_0,l2_1,a3_0=>impl_Order_pattern_1.g (fun z=>impl_Order_pattern_1.f k z a1_0 l1_1 a2_0 l2_1 a3_0) k l0 a1_0 l1_1 a2_0 l2_1 a3_0
theorem impl_Order_pattern_1.mono : ∀ a0 a1 a2 a3 a4 a5 k,LeO (impl_Order_pattern_1.f k a0 a1 a2 a3 a4 a5) (impl_Order_pattern_1.f (k + 1) a0 a1 a2 a3 a4 a5):=by
 intro a0 a1 a2 a3 a4 a5 k
 induction k generalizing a0 with
 | zero=>intro r h;simp [impl_Order_pattern_1.f] at h
 | succ k ih=>exact impl_Order_pattern_1.mono2 (fun z=>ih z) a0 a1 a2 a3 a4 a5 k
theorem impl_Order_pattern_1.calls : ∀ (k : Nat) (A0 : Option Addr) (c0 : Nat) (l0 : List Int) (g1_ : Nat) (a1_0 : Int) (A1_1 : Option Addr) (c1_1 : Nat) (l1_1 : List Int) (g2_ : Nat) (a2_0 : Int) (A2_1 : Option Addr) (c2_1 : Nat) (l2_1 : List Int) (g3_ : Nat) (a3_0 : Int) (bs : Nat) (r : List Int) (w : World) (hbs : bs ≤ w.heap.size) (ho : Kd.R (Kd.int .i64) 3 w bs (fun _=>True) (.slice A0 l0.length c0) l0) (hb1 : w.heap[g1_]? = some (.cells #[.int .i64 a1_0,.slice A1_1 l1_1.length c1_1] 26 (0,0))) (hr1_1 : Kd.C (Kd.int .i64) w A1_1 l1_1.length l1_1) (hc1_1 : l1_1.length ≤ c1_1) (hb2 : w.heap[g2_]? = some (.cells #[.int .i64 a2_0,.slice A2_1 l2_1.length c2_1] 26 (0,0))) (hr2_1 : Kd.C (Kd.int .i64) w A2_1 l2_1.length l2_1) (hc2_1 : l2_1.length ≤ c2_1) (hb3 : w.heap[g3_]? = some (.cells #[.func (.func 128) #[] #[.pointer (some ⟨g1_,0,none⟩),.pointer (some ⟨g2_,0,none⟩),.pointer (some ⟨g3_,0,none⟩)]] 35 (0,0))) (hn1_2 : g1_ ≠ g2_) (hn1_3 : g1_ ≠ g3_) (hn2_3 : g2_ ≠ g3_) (h : impl_Order_pattern_1.f k l0 a1_0 l1_1 a2_0 l2_1 a3_0 = some r),
 Calls Tryd.prog 128 #[.slice A0 l0.length c0,.pointer (some ⟨g1_,0,none⟩),.pointer (some ⟨g2_,0,none⟩),.pointer (some ⟨g3_,0,none⟩)] w fun e w'=>∃ v0_ : Value,e = .returned v0_ ∧ Kd.R (Kd.int .i64) 3 w' bs (fun _=>True) v0_ r ∧ Below w.heap.size w w' ∧ (l0 ≠ [] ∨ a1_0 ≠ 0 → r = [] → v0_ = .slice none 0 0) ∧ ((l0.length : Int) = a1_0 → v0_ = .slice A0 l0.length c0):=by
 intro k
 induction k with
 | zero=>intro A0 c0 l0 g1_ a1_0 A1_1 c1_1 l1_1 g2_ a2_0 A2_1 c2_1 l2_1 g3_ a3_0 bs r w hbs ho hb1 hr1_1 hc1_1 hb2 hr2_1 hc2_1 hb3 hn1_2 hn1_3 hn2_3 h;simp [impl_Order_pattern_1.f] at h
 | succ k ih =>
  intro A0 c0 l0 g1_ a1_0 A1_1 c1_1 l1_1 g2_ a2_0 A2_1 c2_1 l2_1 g3_ a3_0 bs r w hbs ho hb1 hr1_1 hc1_1 hb2 hr2_1 hc2_1 hb3 hn1_2 hn1_3 hn2_3 h
  refine impl_Order_pattern_1.calls0 k (fun z=>impl_Order_pattern_1.f k z a1_0 l1_1 a2_0 l2_1 a3_0) A0 c0 l0 g1_ a1_0 A1_1 c1_1 l1_1 g2_ a2_0 A2_1 c2_1 l2_1 g3_ a3_0 bs r w hbs ho hb1 hr1_1 hc1_1 hb2 hr2_1 hc2_1 hb3 hn1_2 hn1_3 hn2_3 ?_ h
  intro W A_ c_ b_ z_ s_ hB_ hb_ hO_ hs_
  refine (ih A_ c_ z_ g1_ a1_0 A1_1 c1_1 l1_1 g2_ a2_0 A2_1 c2_1 l2_1 g3_ a3_0 b_ s_ W hb_ hO_ (blk_below hb1 hB_) (Kd.C_below hr1_1 hB_) hc1_1 (blk_below hb2 hB_) (Kd.C_below hr2_1 hB_) hc2_1 (blk_below hb3 hB_) hn1_2 hn1_3 hn2_3 hs_).mono ?_
  rintro e W' ⟨v,rfl,h1,h2,h3,_⟩
  exact ⟨v,rfl,h1,h2,fun h4=>h3 (.inl h4)⟩
theorem impl_Order_pattern.storeF {P : Program} (w : World) (a : Addr) (m : Mode) (f : Fn) (x y : Array _) : (store a (.func f x y) m).run P w = stored P w a (.func f x y) m:=run_store P w a _ m rfl
attribute [local go_sem] impl_Order_pattern.storeF
theorem impl_Order_pattern.nilIff {w : World} {base e n0 c0 : Nat} {ok : Nat → Prop} {A0 : Option Addr} {y r : List Int} {a : Int} {v : Value} (hy : y = []) (h : Kd.R (Kd.int .i64) e w base ok v r) (h1 : y ≠ [] ∨ a ≠ 0 → r = [] → v = .slice none 0 0) (h2 : (y.length : Int) = a → v = .slice A0 n0 c0) (hn : (Value.slice A0 n0 c0).ownBlock ≠ none) :
 ∀ A n c,v = .slice A n c → A.isNone = !(r != ([] : List Int) || a == 0):=by
 intro A n c hv
 by_cases ha : a = 0
 ·have h3:=h2 (by rw [hy,ha];rfl);rw [hv] at h3;injection h3 with h4;subst h4;subst ha;cases A with
  | none => exact absurd rfl hn
  | some x => simp
 ·by_cases hr : r = []
  ·have h3:=h1 (.inr ha) hr;rw [hv] at h3;injection h3 with h4;rw [h4,hr];simp [ha]
  ·subst hv;obtain ⟨_,_,hC⟩:=Kd.R_reads' h;obtain ⟨ad,e1,_⟩:=hC.2.2 (List.length_pos_iff.2 hr);rw [e1];simp [hr]
def impl_Order_pattern.f (k : Nat) (a0_0 : Int) (l0_1 : List Int) (a1_0 : Int) (l1_1 : List Int) : Option (List Int) := (impl_Order_pattern_1.f k (([] : List Int)) a1_0 l1_1 a0_0 l0_1 0).bind fun t543 => (some t543)
set_option maxHeartbeats 8000000 in
set_option maxRecDepth 100000 in
theorem impl_Order_pattern.calls (k : Nat) (a0_0 : Int) (A0_1 : Option Addr) (c0_1 : Nat) (l0_1 : List Int) (a1_0 : Int) (A1_1 : Option Addr) (c1_1 : Nat) (l1_1 : List Int) (r : List Int) (w : World) (hr0_1 : Kd.C (Kd.int .i64) w A0_1 l0_1.length l0_1) (hc0_1 : l0_1.length ≤ c0_1) (hr1_1 : Kd.C (Kd.int .i64) w A1_1 l1_1.length l1_1) (hc1_1 : l1_1.length ≤ c1_1) (h : impl_Order_pattern.f k a0_0 l0_1 a1_0 l1_1 = some r) :
 Calls Tryd.prog 82 #[.agg #[.int .i64 a0_0,.slice A0_1 l0_1.length c0_1],.agg #[.int .i64 a1_0,.slice A1_1 l1_1.length c1_1]] w fun e w'=>∃ v0_ : Value,e = .returned (v0_) ∧ Kd.R (Kd.int .i64) 3 w' w.heap.size (fun _=>True) v0_ r ∧ Below w.heap.size w w' ∧ (∀ A n c,v0_ = .slice A n c → A.isNone = !(r != ([] : List Int) || a1_0 == 0)):=by
 have hu28:=Tryd.underlying26;have HR0_1:=A_ hr0_1;have HC0_1:=A_ hc0_1;clear hr0_1 hc0_1;have HR1_1:=A_ hr1_1;have HC1_1:=A_ hc1_1;clear hr1_1 hc1_1;have HB:=A_ (Below.refl w.heap.size w);have H : ((impl_Order_pattern_1.f k (([] : List Int)) a1_0 l1_1 a0_0 l0_1 0).bind fun t543=>(some t543)) = some r:=h;clear h;obtain ⟨y540,hy540⟩ : ∃ y_ : List Int,y_ = (([] : List Int)):=⟨_,rfl⟩;replace H : ((impl_Order_pattern_1.f k y540 a1_0 l1_1 a0_0 l0_1 0).bind fun t543=>(some t543)) = some r:=by first|(rw [hy540];with_reducible exact H)|(have H2_:=(Option.bind_some _ _).symm.trans H;rw [hy540];with_reducible exact H2_)|(have H2_:=(Option.bind_some _ _).symm.trans H;with_reducible exact H2_)|with_reducible exact H|(rw [hy540];exact H)|exact H
 have Ny540:=A_ hy540;clear hy540;replace H:=Option.bind_eq_some_iff.mp H;obtain ⟨t543,A30,H⟩:=H;replace H : (some t543) = some r:=H;have A3:=A_ A30;clear A30;obtain rfl:=Option.some.inj H;go_enter Tryd.func82,Tryd.ntmps82
 go_wp2_with (first|((with_reducible refine gate_dst (N:=2) rfl ?_);refine box_event ?hg (N:=2) ?hd (cs:=#[.int .i64 a0_0,.slice A0_1 l0_1.length c0_1]) (t:=26) ?hr ?_;(case hd=>rfl);(case hg=>rfl);(case hr=>first|(go_simp;done)|(go_simp;rfl));intro gb537 hg w4 hbox hb;have BK537:=A_ (hbox);have GW537:=A_ ((by rw [hg];exact (below_size bb_) : w.heap.size ≤ gb537));have GE537:=A_ ((by rw [hg];exact (below_size bb_) : w.heap.size ≤ gb537));replace HB:=A_ (below_step bb_ hb);clear hb hbox hg)|((with_reducible refine gate_dst (N:=3) rfl ?_);refine box_event ?hg (N:=3) ?hd (cs:=#[.int .i64 a1_0,.slice A1_1 l1_1.length c1_1]) (t:=26) ?hr ?_;(case hd=>rfl);(case hg=>rfl);(case hr=>first|(go_simp;done)|(go_simp;rfl));intro gb538 hg w5 hbox hb;have BK538:=A_ (hbox);have GW538:=A_ ((by rw [hg];exact (below_size bb_) : w.heap.size ≤ gb538));have GE538:=A_ ((by rw [hg];exact (below_size bb_) : w.heap.size ≤ gb538));replace HB:=A_ (below_step bb_ hb);have NB537_538:=A_ ((by rw [hg];exact Nat.ne_of_lt (blk_lt (bl_ BK537)) : gb537 ≠ gb538));have NB538_537:=A_ ((by rw [hg];exact Nat.ne_of_gt (blk_lt (bl_ BK537)) : gb538 ≠ gb537));replace BK537:=bz BK537 hb;clear hb hbox hg)|((with_reducible refine gate_dst (N:=5) rfl ?_);refine box_event ?hg (N:=5) ?hd (cs:=#[.nilFunc]) (t:=35) ?hr ?_;(case hd=>rfl);(case hg=>rfl);(case hr=>first|(go_simp;done)|(go_simp;rfl));intro gb539 hg w6 hbox hb;have BK539:=A_ (hbox);have GW539:=A_ ((by rw [hg];exact (below_size bb_) : w.heap.size ≤ gb539));have GE539:=A_ ((by rw [hg];exact (below_size bb_) : w.heap.size ≤ gb539));replace HB:=A_ (below_step bb_ hb);have NB537_539:=A_ ((by rw [hg];exact Nat.ne_of_lt (blk_lt (bl_ BK537)) : gb537 ≠ gb539));have NB539_537:=A_ ((by rw [hg];exact Nat.ne_of_gt (blk_lt (bl_ BK537)) : gb539 ≠ gb537));replace BK537:=bz BK537 hb;have NB538_539:=A_ ((by rw [hg];exact Nat.ne_of_lt (blk_lt (bl_ BK538)) : gb538 ≠ gb539));have NB539_538:=A_ ((by rw [hg];exact Nat.ne_of_gt (blk_lt (bl_ BK538)) : gb539 ≠ gb538));replace BK538:=bz BK538 hb;clear hb hbox hg;have hnb7:=NB539_537.out;have hnc7:=NB537_539.out;have hnb8:=NB539_538.out;have hnc8:=NB538_539.out;have hcz9_0 : w6.cell? ⟨gb539,0,none⟩ = some (.nilFunc):=blk_cell BK539.out 0;have hfz9_0:=blk_frozen BK539.out 0)|((with_reducible refine gate_dst (N:=8) rfl ?_);refine Kd.R_lit (Kd.int .i64) _ 3 ?hg (N:=8) ?hd (xs:=([] : List Int)) (inner:=[]) (ok:=fun _=>True) (okp:=fun _=>True) ?hr ?hp (fun _ hk=>hk) trivial (Below.refl _ _) (Nat.le_refl _) (by simp) ?_;(case hd=>rfl);(case hg=>rfl);(case hr=>first|(go_simp;done)|(go_simp;rfl));(case hp=>exact (Reps.none _ _));intro v541 w10 ho11 hb hg_ hnew_;clear hg_;have HN_:=A_ (show v541.ownBlock ≠ none from by obtain ⟨b_,hb_,_⟩:=hnew_;rw [hb_];simp);clear hnew_;(first|rw [← Ny540.out] at ho11|(simp only [Int.reduceToNat] at ho11;rw [← Ny540.out] at ho11));have HO542:=A_ (Kd.R_lower ho11 (below_size bb_));replace BK537:=A_ (blk_below (g:=gb537) (o:=.cells #[.int .i64 a0_0,.slice A0_1 l0_1.length c0_1] 26 (0,0)) (by (with_reducible repeat (first|refine blk_drewN ?_ _|refine blk_drew ?_|refine blk_alloc ?_ _));refine blk_far ?_ NB537_539.out _;(with_reducible repeat (first|refine blk_drewN ?_ _|refine blk_drew ?_|refine blk_alloc ?_ _));exact BK537.out) hb);replace BK538:=A_ (blk_below (g:=gb538) (o:=.cells #[.int .i64 a1_0,.slice A1_1 l1_1.length c1_1] 26 (0,0)) (by (with_reducible repeat (first|refine blk_drewN ?_ _|refine blk_drew ?_|refine blk_alloc ?_ _));refine blk_far ?_ NB538_539.out _;(with_reducible repeat (first|refine blk_drewN ?_ _|refine blk_drew ?_|refine blk_alloc ?_ _));exact BK538.out) hb);replace BK539:=A_ (blk_below (g:=gb539) (o:=.cells #[.func (.func 128) #[] #[.pointer (some ⟨gb538,0,none⟩),.pointer (some ⟨gb537,0,none⟩),.pointer (some ⟨gb539,0,none⟩)]] 35 (0,0)) (by (with_reducible repeat (first|refine blk_drewN ?_ _|refine blk_drew ?_|refine blk_alloc ?_ _));refine blk_put (cs:=#[.nilFunc]) ?_ 0 _ rfl;(with_reducible repeat (first|refine blk_drewN ?_ _|refine blk_drew ?_|refine blk_alloc ?_ _));exact BK539.out) hb);replace HB:=A_ (below_step bb_ hb);clear hb ho11;obtain ⟨Ao12,co12,eo12⟩:=Kd.R_slice HO542.out;subst eo12)|(go_at_call 128;(refine (impl_Order_pattern_1.calls k Ao12 co12 y540 gb538 a1_0 A1_1 c1_1 l1_1 gb537 a0_0 A0_1 c0_1 l0_1 gb539 0 w.heap.size t543 _ ?sZ ?sO ?s1 ?s2 ?s3 ?s4 ?s5 ?s6 ?s7 NB538_537.out NB538_539.out NB537_539.out A3.out).mono ?_);(case sZ=>exact below_size bb_);(case sO=>(with_reducible repeat (first|apply Kd.R_alloc|apply Kd.R_drewN|apply Kd.R_drew));exact Kd.R_mono HO542.out (fun _ _=>trivial));(case s1=>(with_reducible repeat (first|refine blk_drewN ?_ _|refine blk_drew ?_|refine blk_alloc ?_ _));exact BK538.out);(case s2=>exact Kd.C_below HR1_1.out bb_);(case s3=>exact HC1_1.out);(case s4=>(with_reducible repeat (first|refine blk_drewN ?_ _|refine blk_drew ?_|refine blk_alloc ?_ _));exact BK537.out);(case s5=>exact Kd.C_below HR0_1.out bb_);(case s6=>exact HC0_1.out);(case s7=>(with_reducible repeat (first|refine blk_drewN ?_ _|refine blk_drew ?_|refine blk_alloc ?_ _));exact BK539.out);rintro e w13 ⟨v544,rfl,ho0,hb,hz1_,hz2_⟩;have hzz_:=impl_Order_pattern.nilIff (by rw [Ny540.out]) ho0 hz1_ hz2_ HN_.out;clear hz1_ hz2_ HN_;have HZ_:=A_ hzz_;clear hzz_;have n1_:=A_ ho0;have n2_:=bz BK537 hb;have n3_:=bz BK538 hb;have n4_:=bz BK539 hb;have n5_:=A_ (below_step bb_ hb);clear HO542;clear BK537;clear BK538;clear BK539;clear HB;have HO545:=n1_;have BK537:=n2_;have BK538:=n3_;have BK539:=n4_;have HB:=n5_;clear n1_ n2_ n3_ n4_ n5_;(try clear hb);(try clear hb2);(try clear hk);(try clear hi);(try clear ho0)))
 go_ret
 exact ⟨_,rfl,by (with_reducible repeat (first|apply Kd.R_alloc|apply Kd.R_drewN|apply Kd.R_drew));exact Kd.R_mono HO545.out (fun _ hk=>trivial),bb_,HZ_.out⟩
theorem impl_FindPattern.nilAt {P : Program} (w : World) (d : Nat) (t e : TypeId) (a : Option Addr) (l c : Nat) (h : P.underlying t = some (.slice e)) : (Op.equalIn (d + 1) t (.slice a l c) (.slice none 0 0)).run P w = .ok a.isNone w:=by
 cases a <;> simp [Op.equalIn,run_underlying h]
theorem impl_FindPattern.nilNo {P : Program} (w : World) (t e : TypeId) (a : Option Addr) (l c : Nat) (h : P.underlying t = some (.slice e)) : (binOp .neq t (.slice a l c) (.slice none 0 0)).run P w = .ok (.bool (!a.isNone)) w:=by
 have h1 : (Op.equal t (.slice a l c) (.slice none 0 0)).run P w = .ok a.isNone w:=impl_FindPattern.nilAt w 9999 t e a l c h;simp [binOp,h1]
theorem impl_FindPattern.nilN (w : World) (a : Option Addr) (l c : Nat) : (binOp .neq 24 (.slice a l c) (.slice none 0 0)).run Tryd.prog w = .ok (.bool (!a.isNone)) w:=impl_FindPattern.nilNo w _ _ a l c Tryd.underlying24
attribute [local go_sem] impl_FindPattern.nilN
def impl_FindPattern.f (k : Nat) (a0_0 : Int) (l0_1 : List Int) (a1_0 : Int) (l1_1 : List Int) : Option (List Int × Bool) := (impl_IsRelation.f k a0_0 l0_1).bind fun t581 => (if t581 = true then ((impl_IsRelation.f k a1_0 l1_1).bind fun t582 => (if t582 = true then (if a1_0 > 6 then (some (([] : List Int), false)) else ((impl_Order_pattern.f k a0_0 l0_1 a1_0 l1_1).bind fun t583 => (some (t583, (t583 != ([] : List Int) || a1_0 == 0))))) else (some (([] : List Int), false)))) else (some (([] : List Int), false)))
set_option maxHeartbeats 8000000 in
set_option maxRecDepth 100000 in
theorem impl_FindPattern.calls (k : Nat) (a0_0 : Int) (A0_1 : Option Addr) (c0_1 : Nat) (l0_1 : List Int) (a1_0 : Int) (A1_1 : Option Addr) (c1_1 : Nat) (l1_1 : List Int) (r1 : List Int) (r2 : Bool) (w : World) (hr0_1 : Kd.C (Kd.int .i64) w A0_1 l0_1.length l0_1) (hc0_1 : l0_1.length ≤ c0_1) (hr1_1 : Kd.C (Kd.int .i64) w A1_1 l1_1.length l1_1) (hc1_1 : l1_1.length ≤ c1_1) (h : impl_FindPattern.f k a0_0 l0_1 a1_0 l1_1 = some (r1,r2)) :
 Calls Tryd.prog 23 #[.agg #[.int .i64 a0_0,.slice A0_1 l0_1.length c0_1],.agg #[.int .i64 a1_0,.slice A1_1 l1_1.length c1_1]] w fun e w'=>∃ v0_ : Value,e = .returned (.tuple #[v0_,.bool r2]) ∧ Kd.R (Kd.int .i64) 3 w' w.heap.size (fun _=>True) v0_ r1 ∧ Below w.heap.size w w':=by
 have hu26:=Tryd.underlying26;have HR0_1:=A_ hr0_1;have HC0_1:=A_ hc0_1;clear hr0_1 hc0_1;have HR1_1:=A_ hr1_1;have HC1_1:=A_ hc1_1;clear hr1_1 hc1_1;have HB:=A_ (Below.refl w.heap.size w);have H : ((impl_IsRelation.f k a0_0 l0_1).bind fun t581=>(if t581 = true then ((impl_IsRelation.f k a1_0 l1_1).bind fun t582=>(if t582 = true then (if a1_0 > 6 then (some (([] : List Int),false)) else ((impl_Order_pattern.f k a0_0 l0_1 a1_0 l1_1).bind fun t583=>(some (t583,(t583 != ([] : List Int) || a1_0 == 0))))) else (some (([] : List Int),false)))) else (some (([] : List Int),false)))) = some (r1,r2):=h;clear h;replace H:=Option.bind_eq_some_iff.mp H;obtain ⟨t581,A30,H⟩:=H;replace H : (if t581 = true then ((impl_IsRelation.f k a1_0 l1_1).bind fun t582=>(if t582 = true then (if a1_0 > 6 then (some (([] : List Int),false)) else ((impl_Order_pattern.f k a0_0 l0_1 a1_0 l1_1).bind fun t583=>(some (t583,(t583 != ([] : List Int) || a1_0 == 0))))) else (some (([] : List Int),false)))) else (some (([] : List Int),false))) = some (r1,r2):=H;have A3:=A_ A30;clear A30;by_cases c4 : t581 = true
 ·subst c4;have H1 : ((impl_IsRelation.f k a1_0 l1_1).bind fun t582=>(if t582 = true then (if a1_0 > 6 then (some (([] : List Int),false)) else ((impl_Order_pattern.f k a0_0 l0_1 a1_0 l1_1).bind fun t583=>(some (t583,(t583 != ([] : List Int) || a1_0 == 0))))) else (some (([] : List Int),false)))) = some (r1,r2):=by rw [if_pos rfl] at H;exact H
  clear H;have H:=H1;clear H1;replace H:=Option.bind_eq_some_iff.mp H;obtain ⟨t582,A50,H⟩:=H;replace H : (if t582 = true then (if a1_0 > 6 then (some (([] : List Int),false)) else ((impl_Order_pattern.f k a0_0 l0_1 a1_0 l1_1).bind fun t583=>(some (t583,(t583 != ([] : List Int) || a1_0 == 0))))) else (some (([] : List Int),false))) = some (r1,r2):=H;have A5:=A_ A50;clear A50;by_cases c6 : t582 = true
  ·subst c6;have H1 : (if a1_0 > 6 then (some (([] : List Int),false)) else ((impl_Order_pattern.f k a0_0 l0_1 a1_0 l1_1).bind fun t583=>(some (t583,(t583 != ([] : List Int) || a1_0 == 0))))) = some (r1,r2):=by rw [if_pos rfl] at H;exact H
   clear H;have H:=H1;clear H1;by_cases c7 : a1_0 > 6
   ·rw [if_pos c7] at H;have c7b0 : decide (6 < a1_0) = true:=decide_eq_true c7;clear c7;simp only [Option.some.injEq,Prod.mk.injEq] at H
    obtain ⟨rfl,rfl⟩:=H;go_enter Tryd.func23,Tryd.ntmps23
    go_wp2_with (first|((with_reducible refine gate_dst (N:=2) rfl ?_);refine box_event ?hg (N:=2) ?hd (cs:=#[.int .i64 a0_0,.slice A0_1 l0_1.length c0_1]) (t:=26) ?hr ?_;(case hd=>rfl);(case hg=>rfl);(case hr=>first|(go_simp;done)|(go_simp;rfl));intro gb579 hg w8 hbox hb;have BK579:=A_ (hbox);have GW579:=A_ ((by rw [hg];exact (below_size bb_) : w.heap.size ≤ gb579));have GE579:=A_ ((by rw [hg];exact (below_size bb_) : w.heap.size ≤ gb579));replace HB:=A_ (below_step bb_ hb);clear hb hbox hg)|((with_reducible refine gate_dst (N:=3) rfl ?_);refine box_event ?hg (N:=3) ?hd (cs:=#[.int .i64 a1_0,.slice A1_1 l1_1.length c1_1]) (t:=26) ?hr ?_;(case hd=>rfl);(case hg=>rfl);(case hr=>first|(go_simp;done)|(go_simp;rfl));intro gb580 hg w9 hbox hb;have BK580:=A_ (hbox);have GW580:=A_ ((by rw [hg];exact (below_size bb_) : w.heap.size ≤ gb580));have GE580:=A_ ((by rw [hg];exact (below_size bb_) : w.heap.size ≤ gb580));replace HB:=A_ (below_step bb_ hb);have NB579_580:=A_ ((by rw [hg];exact Nat.ne_of_lt (blk_lt (bl_ BK579)) : gb579 ≠ gb580));have NB580_579:=A_ ((by rw [hg];exact Nat.ne_of_gt (blk_lt (bl_ BK579)) : gb580 ≠ gb579));replace BK579:=bz BK579 hb;clear hb hbox hg;have hnb10:=NB579_580.out;have hnc10:=NB580_579.out;have hcz11_0 : w9.cell? ⟨gb579,0,none⟩ = some (.int .i64 a0_0):=blk_cell BK579.out 0;have hcz11_1 : w9.cell? ⟨gb579,1,none⟩ = some (.slice A0_1 l0_1.length c0_1):=blk_cell BK579.out 1;have hfz11_0:=blk_frozen BK579.out 0;have hfz11_1:=blk_frozen BK579.out 1)|((with_reducible refine gate_callee (f:=61) rfl ?_);refine goesL_ (some 8) rfl rfl Tryd.func61 (by kernel_rfl) rfl #[.agg #[.int .i64 a0_0,.slice A0_1 l0_1.length c0_1]] rfl au_ ?_;(with_reducible refine (impl_IsRelation.calls k a0_0 _ _ l0_1 true _ ?side1 ?side2 A3.out).mono ?_);(case side1=>exact cl_ (Kd.C_below HR0_1.out HB.out));(case side2=>exact HC0_1.out);rintro e w12 ⟨rfl,hb⟩;refine ⟨_,rfl,?_⟩;replace BK579:=bz BK579 hb;replace BK580:=bz BK580 hb;replace HB:=A_ (below_step bb_ hb);(try clear hb);(try clear hb2);(try clear hk);(try clear hi);have hcz13_0 : w12.cell? ⟨gb580,0,none⟩ = some (.int .i64 a1_0):=blk_cell BK580.out 0;have hcz13_1 : w12.cell? ⟨gb580,1,none⟩ = some (.slice A1_1 l1_1.length c1_1):=blk_cell BK580.out 1;have hfz13_0:=blk_frozen BK580.out 0;have hfz13_1:=blk_frozen BK580.out 1)|(go_at_call 61;(with_reducible refine (impl_IsRelation.calls k a1_0 _ _ l1_1 true _ ?side1 ?side2 A5.out).mono ?_);(case side1=>exact cl_ (Kd.C_below HR1_1.out HB.out));(case side2=>exact HC1_1.out);rintro e w14 ⟨rfl,hb⟩;replace BK579:=bz BK579 hb;replace BK580:=bz BK580 hb;replace HB:=A_ (below_step bb_ hb);(try clear hb);(try clear hb2);(try clear hk);(try clear hi);have hcz15_0 : w14.cell? ⟨gb580,0,none⟩ = some (.int .i64 a1_0):=blk_cell BK580.out 0;have hcz15_1 : w14.cell? ⟨gb580,1,none⟩ = some (.slice A1_1 l1_1.length c1_1):=blk_cell BK580.out 1;have hfz15_0:=blk_frozen BK580.out 0;have hfz15_1:=blk_frozen BK580.out 1))
    go_ret2
    exact ⟨_,by first|rfl|(rw [hnl27,Bool.not_not] <;> rfl)|(simp [*,errW_none,errW_some] <;> rfl)|(simp [errW_none,errW_some] <;> rfl)|(simp [*,errW_none,errW_some] <;> rfl),by first|exact Kd.R_nil _ _ _ _ _|exact Kd.N_nil _ _ _ _ _|exact Kd.V_nil _ _ _ _ _|exact Kd.Q_nil _ _ _ _ _|exact Kd.S_nil _ _ _ _ _,bb_⟩
   ·rw [if_neg c7] at H;have c7b0 : decide (6 < a1_0) = false:=decide_eq_false c7;clear c7;replace H:=Option.bind_eq_some_iff.mp H;obtain ⟨t583,A160,H⟩:=H;replace H : (some (t583,(t583 != ([] : List Int) || a1_0 == 0))) = some (r1,r2):=H;have A16:=A_ A160;clear A160;simp only [Option.some.injEq,Prod.mk.injEq] at H
    obtain ⟨rfl,rfl⟩:=H;go_enter Tryd.func23,Tryd.ntmps23
    go_wp2_with (first|((with_reducible refine gate_dst (N:=2) rfl ?_);refine box_event ?hg (N:=2) ?hd (cs:=#[.int .i64 a0_0,.slice A0_1 l0_1.length c0_1]) (t:=26) ?hr ?_;(case hd=>rfl);(case hg=>rfl);(case hr=>first|(go_simp;done)|(go_simp;rfl));intro gb579 hg w17 hbox hb;have BK579:=A_ (hbox);have GW579:=A_ ((by rw [hg];exact (below_size bb_) : w.heap.size ≤ gb579));have GE579:=A_ ((by rw [hg];exact (below_size bb_) : w.heap.size ≤ gb579));replace HB:=A_ (below_step bb_ hb);clear hb hbox hg)|((with_reducible refine gate_dst (N:=3) rfl ?_);refine box_event ?hg (N:=3) ?hd (cs:=#[.int .i64 a1_0,.slice A1_1 l1_1.length c1_1]) (t:=26) ?hr ?_;(case hd=>rfl);(case hg=>rfl);(case hr=>first|(go_simp;done)|(go_simp;rfl));intro gb580 hg w18 hbox hb;have BK580:=A_ (hbox);have GW580:=A_ ((by rw [hg];exact (below_size bb_) : w.heap.size ≤ gb580));have GE580:=A_ ((by rw [hg];exact (below_size bb_) : w.heap.size ≤ gb580));replace HB:=A_ (below_step bb_ hb);have NB579_580:=A_ ((by rw [hg];exact Nat.ne_of_lt (blk_lt (bl_ BK579)) : gb579 ≠ gb580));have NB580_579:=A_ ((by rw [hg];exact Nat.ne_of_gt (blk_lt (bl_ BK579)) : gb580 ≠ gb579));replace BK579:=bz BK579 hb;clear hb hbox hg;have hnb19:=NB579_580.out;have hnc19:=NB580_579.out;have hcz20_0 : w18.cell? ⟨gb579,0,none⟩ = some (.int .i64 a0_0):=blk_cell BK579.out 0;have hcz20_1 : w18.cell? ⟨gb579,1,none⟩ = some (.slice A0_1 l0_1.length c0_1):=blk_cell BK579.out 1;have hfz20_0:=blk_frozen BK579.out 0;have hfz20_1:=blk_frozen BK579.out 1)|((with_reducible refine gate_callee (f:=61) rfl ?_);refine goesL_ (some 8) rfl rfl Tryd.func61 (by kernel_rfl) rfl #[.agg #[.int .i64 a0_0,.slice A0_1 l0_1.length c0_1]] rfl au_ ?_;(with_reducible refine (impl_IsRelation.calls k a0_0 _ _ l0_1 true _ ?side1 ?side2 A3.out).mono ?_);(case side1=>exact cl_ (Kd.C_below HR0_1.out HB.out));(case side2=>exact HC0_1.out);rintro e w21 ⟨rfl,hb⟩;refine ⟨_,rfl,?_⟩;replace BK579:=bz BK579 hb;replace BK580:=bz BK580 hb;replace HB:=A_ (below_step bb_ hb);(try clear hb);(try clear hb2);(try clear hk);(try clear hi);have hcz22_0 : w21.cell? ⟨gb580,0,none⟩ = some (.int .i64 a1_0):=blk_cell BK580.out 0;have hcz22_1 : w21.cell? ⟨gb580,1,none⟩ = some (.slice A1_1 l1_1.length c1_1):=blk_cell BK580.out 1;have hfz22_0:=blk_frozen BK580.out 0;have hfz22_1:=blk_frozen BK580.out 1)|(go_at_call 61;(with_reducible refine (impl_IsRelation.calls k a1_0 _ _ l1_1 true _ ?side1 ?side2 A5.out).mono ?_);(case side1=>exact cl_ (Kd.C_below HR1_1.out HB.out));(case side2=>exact HC1_1.out);rintro e w23 ⟨rfl,hb⟩;replace BK579:=bz BK579 hb;replace BK580:=bz BK580 hb;replace HB:=A_ (below_step bb_ hb);(try clear hb);(try clear hb2);(try clear hk);(try clear hi);have hcz24_0 : w23.cell? ⟨gb580,0,none⟩ = some (.int .i64 a1_0):=blk_cell BK580.out 0;have hcz24_1 : w23.cell? ⟨gb580,1,none⟩ = some (.slice A1_1 l1_1.length c1_1):=blk_cell BK580.out 1;have hfz24_0:=blk_frozen BK580.out 0;have hfz24_1:=blk_frozen BK580.out 1;have hcz25_0 : w23.cell? ⟨gb579,0,none⟩ = some (.int .i64 a0_0):=blk_cell BK579.out 0;have hcz25_1 : w23.cell? ⟨gb579,1,none⟩ = some (.slice A0_1 l0_1.length c0_1):=blk_cell BK579.out 1;have hfz25_0:=blk_frozen BK579.out 0;have hfz25_1:=blk_frozen BK579.out 1)|((with_reducible refine gate_callee (f:=82) rfl ?_);refine goesL_ (some 22) rfl rfl Tryd.func82 (by kernel_rfl) rfl #[.agg #[.int .i64 a0_0,.slice A0_1 l0_1.length c0_1],.agg #[.int .i64 a1_0,.slice A1_1 l1_1.length c1_1]] rfl au_ ?_;(with_reducible refine (impl_Order_pattern.calls k a0_0 _ _ l0_1 a1_0 _ _ l1_1 t583 _ ?side1 ?side2 ?side3 ?side4 A16.out).mono ?_);(case side1=>exact cl_ (Kd.C_below HR0_1.out HB.out));(case side2=>exact HC0_1.out);(case side3=>exact cl_ (Kd.C_below HR1_1.out HB.out));(case side4=>exact HC1_1.out);rintro e w26 ⟨v584,rfl,ho0,hb,hz_⟩;have HZ_:=A_ hz_;clear hz_;refine ⟨_,rfl,?_⟩;have HO585:=A_ (Kd.R_lower ho0 (below_size bb_));replace BK579:=bz BK579 hb;replace BK580:=bz BK580 hb;replace HB:=A_ (below_step bb_ hb);(try clear hb);(try clear hb2);(try clear hk);(try clear hi);(try clear ho0);obtain ⟨Ao27,co27,eo27⟩:=Kd.R_slice HO585.out;subst eo27;(try have hnl27:=HZ_.out _ _ _ rfl);(try clear HZ_)))
    go_ret2
    exact ⟨_,by first|rfl|(rw [hnl27,Bool.not_not] <;> rfl)|(simp [*,errW_none,errW_some] <;> rfl)|(simp [errW_none,errW_some] <;> rfl)|(simp [*,errW_none,errW_some] <;> rfl),by (with_reducible repeat (first|apply Kd.R_alloc|apply Kd.R_drewN|apply Kd.R_drew));exact HO585.out,bb_⟩
  ·replace c6:=Bool.eq_false_iff.mpr c6;subst c6;have H1 : (some (([] : List Int),false)) = some (r1,r2):=by rw [if_neg (show ¬ (false = true) by decide)] at H;exact H
   clear H;have H:=H1;clear H1;simp only [Option.some.injEq,Prod.mk.injEq] at H
   obtain ⟨rfl,rfl⟩:=H;go_enter Tryd.func23,Tryd.ntmps23
   go_wp2_with (first|((with_reducible refine gate_dst (N:=2) rfl ?_);refine box_event ?hg (N:=2) ?hd (cs:=#[.int .i64 a0_0,.slice A0_1 l0_1.length c0_1]) (t:=26) ?hr ?_;(case hd=>rfl);(case hg=>rfl);(case hr=>first|(go_simp;done)|(go_simp;rfl));intro gb579 hg w28 hbox hb;have BK579:=A_ (hbox);have GW579:=A_ ((by rw [hg];exact (below_size bb_) : w.heap.size ≤ gb579));have GE579:=A_ ((by rw [hg];exact (below_size bb_) : w.heap.size ≤ gb579));replace HB:=A_ (below_step bb_ hb);clear hb hbox hg)|((with_reducible refine gate_dst (N:=3) rfl ?_);refine box_event ?hg (N:=3) ?hd (cs:=#[.int .i64 a1_0,.slice A1_1 l1_1.length c1_1]) (t:=26) ?hr ?_;(case hd=>rfl);(case hg=>rfl);(case hr=>first|(go_simp;done)|(go_simp;rfl));intro gb580 hg w29 hbox hb;have BK580:=A_ (hbox);have GW580:=A_ ((by rw [hg];exact (below_size bb_) : w.heap.size ≤ gb580));have GE580:=A_ ((by rw [hg];exact (below_size bb_) : w.heap.size ≤ gb580));replace HB:=A_ (below_step bb_ hb);have NB579_580:=A_ ((by rw [hg];exact Nat.ne_of_lt (blk_lt (bl_ BK579)) : gb579 ≠ gb580));have NB580_579:=A_ ((by rw [hg];exact Nat.ne_of_gt (blk_lt (bl_ BK579)) : gb580 ≠ gb579));replace BK579:=bz BK579 hb;clear hb hbox hg;have hnb30:=NB579_580.out;have hnc30:=NB580_579.out;have hcz31_0 : w29.cell? ⟨gb579,0,none⟩ = some (.int .i64 a0_0):=blk_cell BK579.out 0;have hcz31_1 : w29.cell? ⟨gb579,1,none⟩ = some (.slice A0_1 l0_1.length c0_1):=blk_cell BK579.out 1;have hfz31_0:=blk_frozen BK579.out 0;have hfz31_1:=blk_frozen BK579.out 1)|((with_reducible refine gate_callee (f:=61) rfl ?_);refine goesL_ (some 8) rfl rfl Tryd.func61 (by kernel_rfl) rfl #[.agg #[.int .i64 a0_0,.slice A0_1 l0_1.length c0_1]] rfl au_ ?_;(with_reducible refine (impl_IsRelation.calls k a0_0 _ _ l0_1 true _ ?side1 ?side2 A3.out).mono ?_);(case side1=>exact cl_ (Kd.C_below HR0_1.out HB.out));(case side2=>exact HC0_1.out);rintro e w32 ⟨rfl,hb⟩;refine ⟨_,rfl,?_⟩;replace BK579:=bz BK579 hb;replace BK580:=bz BK580 hb;replace HB:=A_ (below_step bb_ hb);(try clear hb);(try clear hb2);(try clear hk);(try clear hi);have hcz33_0 : w32.cell? ⟨gb580,0,none⟩ = some (.int .i64 a1_0):=blk_cell BK580.out 0;have hcz33_1 : w32.cell? ⟨gb580,1,none⟩ = some (.slice A1_1 l1_1.length c1_1):=blk_cell BK580.out 1;have hfz33_0:=blk_frozen BK580.out 0;have hfz33_1:=blk_frozen BK580.out 1)|(go_at_call 61;(with_reducible refine (impl_IsRelation.calls k a1_0 _ _ l1_1 false _ ?side1 ?side2 A5.out).mono ?_);(case side1=>exact cl_ (Kd.C_below HR1_1.out HB.out));(case side2=>exact HC1_1.out);rintro e w34 ⟨rfl,hb⟩;replace BK579:=bz BK579 hb;replace BK580:=bz BK580 hb;replace HB:=A_ (below_step bb_ hb);(try clear hb);(try clear hb2);(try clear hk);(try clear hi)))
   go_ret2
   exact ⟨_,by first|rfl|(rw [hnl27,Bool.not_not] <;> rfl)|(simp [*,errW_none,errW_some] <;> rfl)|(simp [errW_none,errW_some] <;> rfl)|(simp [*,errW_none,errW_some] <;> rfl),by first|exact Kd.R_nil _ _ _ _ _|exact Kd.N_nil _ _ _ _ _|exact Kd.V_nil _ _ _ _ _|exact Kd.Q_nil _ _ _ _ _|exact Kd.S_nil _ _ _ _ _,bb_⟩
 ·replace c4:=Bool.eq_false_iff.mpr c4;subst c4;have H1 : (some (([] : List Int),false)) = some (r1,r2):=by rw [if_neg (show ¬ (false = true) by decide)] at H;exact H
  clear H;have H:=H1;clear H1;simp only [Option.some.injEq,Prod.mk.injEq] at H
  obtain ⟨rfl,rfl⟩:=H;go_enter Tryd.func23,Tryd.ntmps23
  go_wp2_with (first|((with_reducible refine gate_dst (N:=2) rfl ?_);refine box_event ?hg (N:=2) ?hd (cs:=#[.int .i64 a0_0,.slice A0_1 l0_1.length c0_1]) (t:=26) ?hr ?_;(case hd=>rfl);(case hg=>rfl);(case hr=>first|(go_simp;done)|(go_simp;rfl));intro gb579 hg w35 hbox hb;have BK579:=A_ (hbox);have GW579:=A_ ((by rw [hg];exact (below_size bb_) : w.heap.size ≤ gb579));have GE579:=A_ ((by rw [hg];exact (below_size bb_) : w.heap.size ≤ gb579));replace HB:=A_ (below_step bb_ hb);clear hb hbox hg)|((with_reducible refine gate_dst (N:=3) rfl ?_);refine box_event ?hg (N:=3) ?hd (cs:=#[.int .i64 a1_0,.slice A1_1 l1_1.length c1_1]) (t:=26) ?hr ?_;(case hd=>rfl);(case hg=>rfl);(case hr=>first|(go_simp;done)|(go_simp;rfl));intro gb580 hg w36 hbox hb;have BK580:=A_ (hbox);have GW580:=A_ ((by rw [hg];exact (below_size bb_) : w.heap.size ≤ gb580));have GE580:=A_ ((by rw [hg];exact (below_size bb_) : w.heap.size ≤ gb580));replace HB:=A_ (below_step bb_ hb);have NB579_580:=A_ ((by rw [hg];exact Nat.ne_of_lt (blk_lt (bl_ BK579)) : gb579 ≠ gb580));have NB580_579:=A_ ((by rw [hg];exact Nat.ne_of_gt (blk_lt (bl_ BK579)) : gb580 ≠ gb579));replace BK579:=bz BK579 hb;clear hb hbox hg;have hnb37:=NB579_580.out;have hnc37:=NB580_579.out;have hcz38_0 : w36.cell? ⟨gb579,0,none⟩ = some (.int .i64 a0_0):=blk_cell BK579.out 0;have hcz38_1 : w36.cell? ⟨gb579,1,none⟩ = some (.slice A0_1 l0_1.length c0_1):=blk_cell BK579.out 1;have hfz38_0:=blk_frozen BK579.out 0;have hfz38_1:=blk_frozen BK579.out 1)|((with_reducible refine gate_callee (f:=61) rfl ?_);refine goesL_ (some 8) rfl rfl Tryd.func61 (by kernel_rfl) rfl #[.agg #[.int .i64 a0_0,.slice A0_1 l0_1.length c0_1]] rfl au_ ?_;(with_reducible refine (impl_IsRelation.calls k a0_0 _ _ l0_1 false _ ?side1 ?side2 A3.out).mono ?_);(case side1=>exact cl_ (Kd.C_below HR0_1.out HB.out));(case side2=>exact HC0_1.out);rintro e w39 ⟨rfl,hb⟩;refine ⟨_,rfl,?_⟩;replace BK579:=bz BK579 hb;replace BK580:=bz BK580 hb;replace HB:=A_ (below_step bb_ hb);(try clear hb);(try clear hb2);(try clear hk);(try clear hi)))
  go_ret2
  exact ⟨_,by first|rfl|(rw [hnl27,Bool.not_not] <;> rfl)|(simp [*,errW_none,errW_some] <;> rfl)|(simp [errW_none,errW_some] <;> rfl)|(simp [*,errW_none,errW_some] <;> rfl),by first|exact Kd.R_nil _ _ _ _ _|exact Kd.N_nil _ _ _ _ _|exact Kd.V_nil _ _ _ _ _|exact Kd.Q_nil _ _ _ _ _|exact Kd.S_nil _ _ _ _ _,bb_⟩
def IsS62 (w0 W : World) (g : Nat) (f0 : List Int) (f1 : Int) (f2 : Int) : Prop := ∃ A0 c0, W.heap[g]? = some (.cells #[.slice A0 f0.length c0, .int .i64 f1, .int .u64 f2] 62 (0, 0)) ∧ w0.heap.size ≤ g ∧ Kd.C (Kd.int .u8) w0 A0 f0.length f0
theorem IsS62.grown {w0 W : World} {g : Nat} {f0 : List Int} {f1 : Int} {f2 : Int} {W1 : World} {row : Option Nat} (h : IsS62 w0 W g f0 f1 f2) (hw : W.grownBy W1 row) (hne : some g ≠ row) : IsS62 w0 W1 g f0 f1 f2:=by
 obtain ⟨A0,c0,hb,hg,hr0⟩:=h;exact ⟨A0,c0,blk_grown hb hw hne,hg,hr0⟩
theorem IsS62.below {w0 W : World} {g : Nat} {f0 : List Int} {f1 : Int} {f2 : Int} {W1 : World} (h : IsS62 w0 W g f0 f1 f2) (hw : Below W.heap.size W W1) : IsS62 w0 W1 g f0 f1 f2:=h.grown (grown_of_below hw none) (by simp)
theorem IsS62.drewN {w0 W : World} {g : Nat} {f0 : List Int} {f1 : Int} {f2 : Int} (h : IsS62 w0 W g f0 f1 f2) (m : Nat) : IsS62 w0 (W.drewN m) g f0 f1 f2:=h
theorem IsS62.drew {w0 W : World} {g : Nat} {f0 : List Int} {f1 : Int} {f2 : Int} (h : IsS62 w0 W g f0 f1 f2) : IsS62 w0 W.drew g f0 f1 f2:=h
theorem IsS62.apart {w0 W : World} {g : Nat} {f0 : List Int} {f1 : Int} {f2 : Int} {α : Type} {d : Kd α} {e : Nat} {base : Nat} {ok : Nat → Prop} {v : Value} {xs : List α} (h : IsS62 w0 W g f0 f1 f2) (ho : d.R e W base ok v xs) (ht : ∀ q,q ∈ e :: d.E → q ≠ 62) : d.R e W base (fun k=>ok k ∧ k ≠ g) v xs:=by
 obtain ⟨A0,c0,hb,hg,hr0⟩:=h;exact Kd.R_types ho hb ht
theorem IsS62.own_ne {w0 W : World} {g : Nat} {f0 : List Int} {f1 : Int} {f2 : Int} {α : Type} {d : Kd α} {e : Nat} {base : Nat} {ok : Nat → Prop} {v : Value} {xs : List α} (h : IsS62 w0 W g f0 f1 f2) (ho : d.R e W base ok v xs) (ht : e ≠ 62) : some g ≠ v.ownBlock:=by
 obtain ⟨A0,c0,hb,hg,hr0⟩:=h;exact Kd.R_ne ho hb ht
theorem IsS62.lt {w0 W : World} {g : Nat} {f0 : List Int} {f1 : Int} {f2 : Int} (h : IsS62 w0 W g f0 f1 f2) : g < W.heap.size:=by
 obtain ⟨A0,c0,hb,hg,hr0⟩:=h;exact blk_lt hb
theorem IsS62.ge {w0 W : World} {g : Nat} {f0 : List Int} {f1 : Int} {f2 : Int} (h : IsS62 w0 W g f0 f1 f2) : w0.heap.size ≤ g:=by
 obtain ⟨A0,c0,hb,hg,hr0⟩:=h;exact hg
theorem IsS62.far {w0 W : World} {g : Nat} {f0 : List Int} {f1 : Int} {f2 : Int} {p : Addr} (h : IsS62 w0 W g f0 f1 f2) (hne : g ≠ p.block) (u : Value) : IsS62 w0 (W.setCell p u) g f0 f1 f2:=by
 obtain ⟨A0,c0,hb,hg,hr0⟩:=h;exact ⟨A0,c0,blk_far hb hne u,hg,hr0⟩
theorem cellS62_0 {W : World} {g : Nat} {A0 : Option Addr} {c0 : Nat} {f0 : List Int} {f1 : Int} {f2 : Int} (h : W.heap[g]? = some (.cells #[.slice A0 f0.length c0,.int .i64 f1,.int .u64 f2] 62 (0,0))) : W.cell? ⟨g,0,none⟩ = some (.slice A0 f0.length c0):=(blk_cell h 0).trans rfl
theorem cellS62_1 {W : World} {g : Nat} {A0 : Option Addr} {c0 : Nat} {f0 : List Int} {f1 : Int} {f2 : Int} (h : W.heap[g]? = some (.cells #[.slice A0 f0.length c0,.int .i64 f1,.int .u64 f2] 62 (0,0))) : W.cell? ⟨g,1,none⟩ = some (.int .i64 f1):=(blk_cell h 1).trans rfl
theorem IsS62.set_1 {w0 W : World} {g : Nat} {f0 : List Int} {f1 : Int} {f2 : Int} (h : IsS62 w0 W g f0 f1 f2) (x : Int) : IsS62 w0 (W.setCell ⟨g,1,none⟩ (.int .i64 x)) g f0 x f2:=by
 obtain ⟨A0,c0,hb,hg,hr0⟩:=h;exact ⟨A0,c0,by simpa using blk_set hb 1 (.int .i64 x),hg,hr0⟩
theorem cellS62_2 {W : World} {g : Nat} {A0 : Option Addr} {c0 : Nat} {f0 : List Int} {f1 : Int} {f2 : Int} (h : W.heap[g]? = some (.cells #[.slice A0 f0.length c0,.int .i64 f1,.int .u64 f2] 62 (0,0))) : W.cell? ⟨g,2,none⟩ = some (.int .u64 f2):=(blk_cell h 2).trans rfl
theorem IsS62.set_2 {w0 W : World} {g : Nat} {f0 : List Int} {f1 : Int} {f2 : Int} (h : IsS62 w0 W g f0 f1 f2) (x : Int) : IsS62 w0 (W.setCell ⟨g,2,none⟩ (.int .u64 x)) g f0 f1 x:=by
 obtain ⟨A0,c0,hb,hg,hr0⟩:=h;exact ⟨A0,c0,by simpa using blk_set hb 2 (.int .u64 x),hg,hr0⟩
def spec_l1Cur_next.f (s0_0 : List Int) (s0_1 : Int) (s0_2 : Int) : Option (Int × Int × Int) := if s0_1 < (s0_0.length : Int) then (if 0 ≤ s0_1 then (if (wrap64 (s0_1 + 1)) ≤ (s0_0.length : Int) then (some (wrap64 (rd s0_0 s0_1), wrap64 (s0_1 + 1), IntKind.u64.wrap ((IntKind.u64.wrap ((IntKind.u64.wrap (s0_2 * 6364136223846793005)) + (IntKind.u64.wrap (wrap64 (rd s0_0 s0_1))))) + 1442695040888963407))) else (some (wrap64 (Go.bits .and .u64 ((IntKind.u64.wrap ((IntKind.u64.wrap ((IntKind.u64.wrap (s0_2 * 6364136223846793005)) + (IntKind.u64.wrap (wrap64 (rd s0_0 s0_1))))) + 1442695040888963407)) / 1099511627776) 255), wrap64 (s0_1 + 1), IntKind.u64.wrap ((IntKind.u64.wrap ((IntKind.u64.wrap (s0_2 * 6364136223846793005)) + (IntKind.u64.wrap (wrap64 (rd s0_0 s0_1))))) + 1442695040888963407)))) else (none)) else (if (wrap64 (s0_1 + 1)) ≤ (s0_0.length : Int) then (some (0, wrap64 (s0_1 + 1), IntKind.u64.wrap ((IntKind.u64.wrap ((IntKind.u64.wrap (s0_2 * 6364136223846793005)))) + 1442695040888963407))) else (some (wrap64 (Go.bits .and .u64 ((IntKind.u64.wrap ((IntKind.u64.wrap ((IntKind.u64.wrap (s0_2 * 6364136223846793005)))) + 1442695040888963407)) / 1099511627776) 255), wrap64 (s0_1 + 1), IntKind.u64.wrap ((IntKind.u64.wrap ((IntKind.u64.wrap (s0_2 * 6364136223846793005)))) + 1442695040888963407))))
set_option maxHeartbeats 8000000 in
set_option maxRecDepth 100000 in
theorem spec_l1Cur_next.calls (g : Nat) (s0_0 : List Int) (s0_1 : Int) (s0_2 : Int) (r1 : Int) (r2 : Int) (r3 : Int) (w0 w : World) (hI : IsS62 w0 w g s0_0 s0_1 s0_2) (hB : Below w0.heap.size w0 w) (h : spec_l1Cur_next.f s0_0 s0_1 s0_2 = some (r1,r2,r3)) :
 Calls Tryd.prog 127 #[.pointer (some ⟨g,0,none⟩)] w fun e w'=>e = .returned (.int .i64 r1) ∧ IsS62 w0 w' g s0_0 r2 r3 ∧ Below w0.heap.size w0 w' ∧ KeepBut w w' g none:=by
 have HI0:=A_ hI;have HK:=A_ (KeepBut.refl w g none);have HL:=A_ hB.size;clear hI;have HW0:=A_ hB.size;have HB:=A_ hB;clear hB;have H : (if s0_1 < (s0_0.length : Int) then (if 0 ≤ s0_1 then (if (wrap64 (s0_1 + 1)) ≤ (s0_0.length : Int) then (some (wrap64 (rd s0_0 s0_1),wrap64 (s0_1 + 1),IntKind.u64.wrap ((IntKind.u64.wrap ((IntKind.u64.wrap (s0_2 * 6364136223846793005)) + (IntKind.u64.wrap (wrap64 (rd s0_0 s0_1))))) + 1442695040888963407))) else (some (wrap64 (Go.bits .and .u64 ((IntKind.u64.wrap ((IntKind.u64.wrap ((IntKind.u64.wrap (s0_2 * 6364136223846793005)) + (IntKind.u64.wrap (wrap64 (rd s0_0 s0_1))))) + 1442695040888963407)) / 1099511627776) 255),wrap64 (s0_1 + 1),IntKind.u64.wrap ((IntKind.u64.wrap ((IntKind.u64.wrap (s0_2 * 6364136223846793005)) + (IntKind.u64.wrap (wrap64 (rd s0_0 s0_1))))) + 1442695040888963407)))) else (none)) else (if (wrap64 (s0_1 + 1)) ≤ (s0_0.length : Int) then (some (0,wrap64 (s0_1 + 1),IntKind.u64.wrap ((IntKind.u64.wrap ((IntKind.u64.wrap (s0_2 * 6364136223846793005)))) + 1442695040888963407))) else (some (wrap64 (Go.bits .and .u64 ((IntKind.u64.wrap ((IntKind.u64.wrap ((IntKind.u64.wrap (s0_2 * 6364136223846793005)))) + 1442695040888963407)) / 1099511627776) 255),wrap64 (s0_1 + 1),IntKind.u64.wrap ((IntKind.u64.wrap ((IntKind.u64.wrap (s0_2 * 6364136223846793005)))) + 1442695040888963407))))) = some (r1,r2,r3):=h;clear h;by_cases c2 : s0_1 < (s0_0.length : Int)
 ·rw [if_pos c2] at H;have c2b0 : decide (s0_1 < (s0_0.length : Int)) = true:=decide_eq_true c2;clear c2;by_cases c3 : 0 ≤ s0_1
  ·rw [if_pos c3] at H;have c3b0 : decide (0 ≤ s0_1) = true:=decide_eq_true c3;clear c3;by_cases c4 : (wrap64 (s0_1 + 1)) ≤ (s0_0.length : Int)
   ·rw [if_pos c4] at H;have c4b0 : decide ((wrap64 (s0_1 + 1)) ≤ (s0_0.length : Int)) = true:=decide_eq_true c4;clear c4;simp only [Option.some.injEq,Prod.mk.injEq] at H
    obtain ⟨rfl,rfl,rfl⟩:=H;obtain ⟨ASz5_0,cSz5_0,HGz5,hgz5,HSz5_0⟩:=HI0.out;have hcz5_0:=cellS62_0 HGz5;have hcz5_1:=cellS62_1 HGz5;have hcz5_2:=cellS62_2 HGz5;have hfz5_1:=blk_frozen HGz5 1;have hfz5_2:=blk_frozen HGz5 2;clear HGz5 hgz5;have p101 : 0 ≤ (s0_1 : Int):=of_decide_eq_true (by first|(with_reducible assumption)|assumption);have q101 : s0_1 < (s0_0.length : Int):=of_decide_eq_true (by first|(with_reducible assumption)|assumption);obtain ⟨ad101,e101,hx101_0⟩:=Kd.at_int HSz5_0 s0_1 p101 q101;cases e101
    replace hx101_0:=pw_cell_below HB.out hx101_0;replace p101:=eq_true p101;replace q101:=eq_true q101;go_enter Tryd.func127,Tryd.ntmps127
    go_wp2
    repeat (go_quiet (fail);try go_wp2)
    go_ret
    exact ⟨by first|rfl|(simp [errW_none,errW_some] <;> rfl)|(simp [*,errW_none,errW_some] <;> rfl),by repeat (first|(with_reducible first|exact HI0.out|apply IsS62.alloc|apply IsS62.drewN|apply IsS62.drew|apply IsS62.set_1|apply IsS62.set_2)|exact HI0.out),by repeat (first|(with_reducible first|exact HB.out|apply below_alloc|apply pw_below_drewN|apply below_drew1|refine below_set ?_ (IsS62.ge HI0.out))|exact HB.out),by repeat (first|(with_reducible first|exact HK.out|apply KeepBut.set_|apply keep_drewN|apply keep_drew|apply keep_alloc)|exact HK.out)⟩
   ·rw [if_neg c4] at H;have c4b0 : decide ((wrap64 (s0_1 + 1)) ≤ (s0_0.length : Int)) = false:=decide_eq_false c4;clear c4;simp only [Option.some.injEq,Prod.mk.injEq] at H
    obtain ⟨rfl,rfl,rfl⟩:=H;obtain ⟨ASz6_0,cSz6_0,HGz6,hgz6,HSz6_0⟩:=HI0.out;have hcz6_0:=cellS62_0 HGz6;have hcz6_1:=cellS62_1 HGz6;have hcz6_2:=cellS62_2 HGz6;have hfz6_1:=blk_frozen HGz6 1;have hfz6_2:=blk_frozen HGz6 2;clear HGz6 hgz6;have p101 : 0 ≤ (s0_1 : Int):=of_decide_eq_true (by first|(with_reducible assumption)|assumption);have q101 : s0_1 < (s0_0.length : Int):=of_decide_eq_true (by first|(with_reducible assumption)|assumption);obtain ⟨ad101,e101,hx101_0⟩:=Kd.at_int HSz6_0 s0_1 p101 q101;cases e101
    replace hx101_0:=pw_cell_below HB.out hx101_0;replace p101:=eq_true p101;replace q101:=eq_true q101;go_enter Tryd.func127,Tryd.ntmps127
    go_wp2
    repeat (go_quiet (fail);try go_wp2)
    go_ret
    exact ⟨by first|rfl|(simp [errW_none,errW_some] <;> rfl)|(simp [*,errW_none,errW_some] <;> rfl),by repeat (first|(with_reducible first|exact HI0.out|apply IsS62.alloc|apply IsS62.drewN|apply IsS62.drew|apply IsS62.set_1|apply IsS62.set_2)|exact HI0.out),by repeat (first|(with_reducible first|exact HB.out|apply below_alloc|apply pw_below_drewN|apply below_drew1|refine below_set ?_ (IsS62.ge HI0.out))|exact HB.out),by repeat (first|(with_reducible first|exact HK.out|apply KeepBut.set_|apply keep_drewN|apply keep_drew|apply keep_alloc)|exact HK.out)⟩
  ·rw [if_neg c3] at H;exact absurd H (by simp)
 ·rw [if_neg c2] at H;have c2b0 : decide (s0_1 < (s0_0.length : Int)) = false:=decide_eq_false c2;clear c2;by_cases c7 : (wrap64 (s0_1 + 1)) ≤ (s0_0.length : Int)
  ·rw [if_pos c7] at H;have c7b0 : decide ((wrap64 (s0_1 + 1)) ≤ (s0_0.length : Int)) = true:=decide_eq_true c7;clear c7;simp only [Option.some.injEq,Prod.mk.injEq] at H
   obtain ⟨rfl,rfl,rfl⟩:=H;obtain ⟨ASz8_0,cSz8_0,HGz8,hgz8,HSz8_0⟩:=HI0.out;have hcz8_0:=cellS62_0 HGz8;have hcz8_1:=cellS62_1 HGz8;have hcz8_2:=cellS62_2 HGz8;have hfz8_1:=blk_frozen HGz8 1;have hfz8_2:=blk_frozen HGz8 2;clear HGz8 hgz8;go_enter Tryd.func127,Tryd.ntmps127
   go_wp2
   repeat (go_quiet (fail);try go_wp2)
   go_ret
   exact ⟨by first|rfl|(simp [errW_none,errW_some] <;> rfl)|(simp [*,errW_none,errW_some] <;> rfl),by repeat (first|(with_reducible first|exact HI0.out|apply IsS62.alloc|apply IsS62.drewN|apply IsS62.drew|apply IsS62.set_1|apply IsS62.set_2)|exact HI0.out),by repeat (first|(with_reducible first|exact HB.out|apply below_alloc|apply pw_below_drewN|apply below_drew1|refine below_set ?_ (IsS62.ge HI0.out))|exact HB.out),by repeat (first|(with_reducible first|exact HK.out|apply KeepBut.set_|apply keep_drewN|apply keep_drew|apply keep_alloc)|exact HK.out)⟩
  ·rw [if_neg c7] at H;have c7b0 : decide ((wrap64 (s0_1 + 1)) ≤ (s0_0.length : Int)) = false:=decide_eq_false c7;clear c7;simp only [Option.some.injEq,Prod.mk.injEq] at H
   obtain ⟨rfl,rfl,rfl⟩:=H;obtain ⟨ASz9_0,cSz9_0,HGz9,hgz9,HSz9_0⟩:=HI0.out;have hcz9_0:=cellS62_0 HGz9;have hcz9_1:=cellS62_1 HGz9;have hcz9_2:=cellS62_2 HGz9;have hfz9_1:=blk_frozen HGz9 1;have hfz9_2:=blk_frozen HGz9 2;clear HGz9 hgz9;go_enter Tryd.func127,Tryd.ntmps127
   go_wp2
   repeat (go_quiet (fail);try go_wp2)
   go_ret
   exact ⟨by first|rfl|(simp [errW_none,errW_some] <;> rfl)|(simp [*,errW_none,errW_some] <;> rfl),by repeat (first|(with_reducible first|exact HI0.out|apply IsS62.alloc|apply IsS62.drewN|apply IsS62.drew|apply IsS62.set_1|apply IsS62.set_2)|exact HI0.out),by repeat (first|(with_reducible first|exact HB.out|apply below_alloc|apply pw_below_drewN|apply below_drew1|refine below_set ?_ (IsS62.ge HI0.out))|exact HB.out),by repeat (first|(with_reducible first|exact HK.out|apply KeepBut.set_|apply keep_drewN|apply keep_drew|apply keep_alloc)|exact HK.out)⟩
def spec_l1Cur_pick.f (s0_0 : List Int) (s0_1 : Int) (s0_2 : Int) (a1 : Int) : Option (Int × Int × Int) := if a1 ≤ 1 then (some (0, s0_1, s0_2)) else ((spec_l1Cur_next.f s0_0 s0_1 s0_2).bind fun bt102 => (if a1 > 200 then ((spec_l1Cur_next.f s0_0 bt102.2.1 bt102.2.2).bind fun bt105 => (if a1 = 0 then (none) else (some (Int.tmod (wrap64 ((wrap64 (bt102.1 * 256)) + bt105.1)) a1, bt105.2.1, bt105.2.2)))) else (if a1 = 0 then (none) else (some (Int.tmod bt102.1 a1, bt102.2.1, bt102.2.2)))))
set_option maxHeartbeats 8000000 in
set_option maxRecDepth 100000 in
theorem spec_l1Cur_pick.calls (g : Nat) (s0_0 : List Int) (s0_1 : Int) (s0_2 : Int) (a1 : Int) (r1 : Int) (r2 : Int) (r3 : Int) (w0 w : World) (hI : IsS62 w0 w g s0_0 s0_1 s0_2) (hB : Below w0.heap.size w0 w) (h : spec_l1Cur_pick.f s0_0 s0_1 s0_2 a1 = some (r1,r2,r3)) :
 Calls Tryd.prog 81 #[.pointer (some ⟨g,0,none⟩),.int .i64 a1] w fun e w'=>e = .returned (.int .i64 r1) ∧ IsS62 w0 w' g s0_0 r2 r3 ∧ Below w0.heap.size w0 w' ∧ KeepBut w w' g none:=by
 have HI0:=A_ hI;have HK:=A_ (KeepBut.refl w g none);have HL:=A_ hB.size;clear hI;have HW0:=A_ hB.size;have HB:=A_ hB;clear hB;have H : (if a1 ≤ 1 then (some (0,s0_1,s0_2)) else ((spec_l1Cur_next.f s0_0 s0_1 s0_2).bind fun bt102=>(if a1 > 200 then ((spec_l1Cur_next.f s0_0 bt102.2.1 bt102.2.2).bind fun bt105=>(if a1 = 0 then (none) else (some (Int.tmod (wrap64 ((wrap64 (bt102.1 * 256)) + bt105.1)) a1,bt105.2.1,bt105.2.2)))) else (if a1 = 0 then (none) else (some (Int.tmod bt102.1 a1,bt102.2.1,bt102.2.2)))))) = some (r1,r2,r3):=h;clear h;by_cases c3 : a1 ≤ 1
 ·rw [if_pos c3] at H;have c3b0 : decide (a1 ≤ 1) = true:=decide_eq_true c3;clear c3;simp only [Option.some.injEq,Prod.mk.injEq] at H
  obtain ⟨rfl,rfl,rfl⟩:=H;go_enter Tryd.func81,Tryd.ntmps81
  go_wp2
  go_ret
  exact ⟨by first|rfl|(simp [errW_none,errW_some] <;> rfl)|(simp [*,errW_none,errW_some] <;> rfl),by repeat (first|(with_reducible first|exact HI0.out|apply IsS62.alloc|apply IsS62.drewN|apply IsS62.drew|apply IsS62.set_1|apply IsS62.set_2)|exact HI0.out),by repeat (first|(with_reducible first|exact HB.out|apply below_alloc|apply pw_below_drewN|apply below_drew1|refine below_set ?_ (IsS62.ge HI0.out))|exact HB.out),by repeat (first|(with_reducible first|exact HK.out|apply KeepBut.set_|apply keep_drewN|apply keep_drew|apply keep_alloc)|exact HK.out)⟩
 ·rw [if_neg c3] at H;have c3b0 : decide (a1 ≤ 1) = false:=decide_eq_false c3;clear c3;replace H:=Option.bind_eq_some_iff.mp H;obtain ⟨⟨t102,t103,t104⟩,A40,H⟩:=H;replace H : (if a1 > 200 then ((spec_l1Cur_next.f s0_0 t103 t104).bind fun bt105=>(if a1 = 0 then (none) else (some (Int.tmod (wrap64 ((wrap64 (t102 * 256)) + bt105.1)) a1,bt105.2.1,bt105.2.2)))) else (if a1 = 0 then (none) else (some (Int.tmod t102 a1,t103,t104)))) = some (r1,r2,r3):=H;have A4:=A_ A40;clear A40;by_cases c5 : a1 > 200
  ·rw [if_pos c5] at H;have c5b0 : decide (200 < a1) = true:=decide_eq_true c5;clear c5;replace H:=Option.bind_eq_some_iff.mp H;obtain ⟨⟨t105,t106,t107⟩,A60,H⟩:=H;replace H : (if a1 = 0 then (none) else (some (Int.tmod (wrap64 ((wrap64 (t102 * 256)) + t105)) a1,t106,t107))) = some (r1,r2,r3):=H;have A6:=A_ A60;clear A60;by_cases c7 : a1 = 0
   ·rw [if_pos c7] at H;exact absurd H (by simp)
   ·rw [if_neg c7] at H;have c7b0 : (a1 == 0) = false:=beq_eq_false_iff_ne.mpr c7;have c7b1 : (a1 != 0) = true:=bne_iff_ne.mpr c7;simp only [Option.some.injEq,Prod.mk.injEq] at H
    obtain ⟨rfl,rfl,rfl⟩:=H;go_enter Tryd.func81,Tryd.ntmps81
    go_wp2_with (first|((with_reducible refine gate_callee (f:=127) rfl ?_);refine goesL_ (some 9) rfl rfl Tryd.func127 (by kernel_rfl) rfl #[.pointer (some ⟨g,0,none⟩)] rfl au_ ?_;(with_reducible refine (spec_l1Cur_next.calls g s0_0 s0_1 s0_2 t102 t103 t104 w0 _ ?side1 ?side2 A4.out).mono ?_);(case side1=>repeat (first|(with_reducible first|exact HI0.out|apply IsS62.alloc|apply IsS62.drewN|apply IsS62.drew|apply IsS62.set_1|apply IsS62.set_2)|exact HI0.out));(case side2=>repeat (first|(with_reducible first|exact HB.out|apply below_alloc|apply pw_below_drewN|apply below_drew1|refine below_set ?_ (IsS62.ge HI0.out))|exact HB.out));rintro e w8 ⟨rfl,hi,hb,hk⟩;refine ⟨_,rfl,?_⟩;replace HK:=A_ (KeepBut.trans (by repeat (with_reducible first|exact HK.out|apply KeepBut.set_|apply keep_drewN|apply keep_drew|apply keep_alloc)) hk (.inl rfl));replace HB:=A_ (hb);replace HI0:=A_ (hi);(try clear hb);(try clear hb2);(try clear hk);(try clear hi))|((with_reducible refine gate_callee (f:=127) rfl ?_);refine goesL_ (some 15) rfl rfl Tryd.func127 (by kernel_rfl) rfl #[.pointer (some ⟨g,0,none⟩)] rfl au_ ?_;(with_reducible refine (spec_l1Cur_next.calls g s0_0 t103 t104 t105 t106 t107 w0 _ ?side1 ?side2 A6.out).mono ?_);(case side1=>repeat (first|(with_reducible first|exact HI0.out|apply IsS62.alloc|apply IsS62.drewN|apply IsS62.drew|apply IsS62.set_1|apply IsS62.set_2)|exact HI0.out));(case side2=>repeat (first|(with_reducible first|exact HB.out|apply below_alloc|apply pw_below_drewN|apply below_drew1|refine below_set ?_ (IsS62.ge HI0.out))|exact HB.out));rintro e w9 ⟨rfl,hi,hb,hk⟩;refine ⟨_,rfl,?_⟩;replace HK:=A_ (KeepBut.trans (by repeat (with_reducible first|exact HK.out|apply KeepBut.set_|apply keep_drewN|apply keep_drew|apply keep_alloc)) hk (.inl rfl));replace HB:=A_ (hb);replace HI0:=A_ (hi);(try clear hb);(try clear hb2);(try clear hk);(try clear hi)))
    go_ret
    exact ⟨by first|rfl|(simp [errW_none,errW_some] <;> rfl)|(simp [*,errW_none,errW_some] <;> rfl),by repeat (first|(with_reducible first|exact HI0.out|apply IsS62.alloc|apply IsS62.drewN|apply IsS62.drew|apply IsS62.set_1|apply IsS62.set_2)|exact HI0.out),by repeat (first|(with_reducible first|exact HB.out|apply below_alloc|apply pw_below_drewN|apply below_drew1|refine below_set ?_ (IsS62.ge HI0.out))|exact HB.out),by repeat (first|(with_reducible first|exact HK.out|apply KeepBut.set_|apply keep_drewN|apply keep_drew|apply keep_alloc)|exact HK.out)⟩
  ·rw [if_neg c5] at H;have c5b0 : decide (200 < a1) = false:=decide_eq_false c5;clear c5;by_cases c10 : a1 = 0
   ·rw [if_pos c10] at H;exact absurd H (by simp)
   ·rw [if_neg c10] at H;have c10b0 : (a1 == 0) = false:=beq_eq_false_iff_ne.mpr c10;have c10b1 : (a1 != 0) = true:=bne_iff_ne.mpr c10;simp only [Option.some.injEq,Prod.mk.injEq] at H
    obtain ⟨rfl,rfl,rfl⟩:=H;go_enter Tryd.func81,Tryd.ntmps81
    go_wp2_with (first|((with_reducible refine gate_callee (f:=127) rfl ?_);refine goesL_ (some 9) rfl rfl Tryd.func127 (by kernel_rfl) rfl #[.pointer (some ⟨g,0,none⟩)] rfl au_ ?_;(with_reducible refine (spec_l1Cur_next.calls g s0_0 s0_1 s0_2 t102 t103 t104 w0 _ ?side1 ?side2 A4.out).mono ?_);(case side1=>repeat (first|(with_reducible first|exact HI0.out|apply IsS62.alloc|apply IsS62.drewN|apply IsS62.drew|apply IsS62.set_1|apply IsS62.set_2)|exact HI0.out));(case side2=>repeat (first|(with_reducible first|exact HB.out|apply below_alloc|apply pw_below_drewN|apply below_drew1|refine below_set ?_ (IsS62.ge HI0.out))|exact HB.out));rintro e w11 ⟨rfl,hi,hb,hk⟩;refine ⟨_,rfl,?_⟩;replace HK:=A_ (KeepBut.trans (by repeat (with_reducible first|exact HK.out|apply KeepBut.set_|apply keep_drewN|apply keep_drew|apply keep_alloc)) hk (.inl rfl));replace HB:=A_ (hb);replace HI0:=A_ (hi);(try clear hb);(try clear hb2);(try clear hk);(try clear hi)))
    go_ret
    exact ⟨by first|rfl|(simp [errW_none,errW_some] <;> rfl)|(simp [*,errW_none,errW_some] <;> rfl),by repeat (first|(with_reducible first|exact HI0.out|apply IsS62.alloc|apply IsS62.drewN|apply IsS62.drew|apply IsS62.set_1|apply IsS62.set_2)|exact HI0.out),by repeat (first|(with_reducible first|exact HB.out|apply below_alloc|apply pw_below_drewN|apply below_drew1|refine below_set ?_ (IsS62.ge HI0.out))|exact HB.out),by repeat (first|(with_reducible first|exact HK.out|apply KeepBut.set_|apply keep_drewN|apply keep_drew|apply keep_alloc)|exact HK.out)⟩
def spec_l1Cur_one.f (s0_0 : List Int) (s0_1 : Int) (s0_2 : Int) (a1 : Int) : Option (Bool × Int × Int) := (spec_l1Cur_pick.f s0_0 s0_1 s0_2 a1).bind fun bt108 => (some ((bt108.1 == 0), bt108.2.1, bt108.2.2))
set_option maxHeartbeats 8000000 in
set_option maxRecDepth 100000 in
theorem spec_l1Cur_one.calls (g : Nat) (s0_0 : List Int) (s0_1 : Int) (s0_2 : Int) (a1 : Int) (r1 : Bool) (r2 : Int) (r3 : Int) (w0 w : World) (hI : IsS62 w0 w g s0_0 s0_1 s0_2) (hB : Below w0.heap.size w0 w) (h : spec_l1Cur_one.f s0_0 s0_1 s0_2 a1 = some (r1,r2,r3)) :
 Calls Tryd.prog 58 #[.pointer (some ⟨g,0,none⟩),.int .i64 a1] w fun e w'=>e = .returned (.bool r1) ∧ IsS62 w0 w' g s0_0 r2 r3 ∧ Below w0.heap.size w0 w' ∧ KeepBut w w' g none:=by
 have HI0:=A_ hI;have HK:=A_ (KeepBut.refl w g none);have HL:=A_ hB.size;clear hI;have HW0:=A_ hB.size;have HB:=A_ hB;clear hB;have H : ((spec_l1Cur_pick.f s0_0 s0_1 s0_2 a1).bind fun bt108=>(some ((bt108.1 == 0),bt108.2.1,bt108.2.2))) = some (r1,r2,r3):=h;clear h;replace H:=Option.bind_eq_some_iff.mp H;obtain ⟨⟨t108,t109,t110⟩,A30,H⟩:=H;replace H : (some ((t108 == 0),t109,t110)) = some (r1,r2,r3):=H;have A3:=A_ A30;clear A30;simp only [Option.some.injEq,Prod.mk.injEq] at H
 obtain ⟨rfl,rfl,rfl⟩:=H;go_enter Tryd.func58,Tryd.ntmps58
 go_wp2_with (first|((with_reducible refine gate_callee (f:=81) rfl ?_);refine goesL_ (some 7) rfl rfl Tryd.func81 (by kernel_rfl) rfl #[.pointer (some ⟨g,0,none⟩),.int .i64 a1] rfl au_ ?_;(with_reducible refine (spec_l1Cur_pick.calls g s0_0 s0_1 s0_2 a1 t108 t109 t110 w0 _ ?side1 ?side2 A3.out).mono ?_);(case side1=>repeat (first|(with_reducible first|exact HI0.out|apply IsS62.alloc|apply IsS62.drewN|apply IsS62.drew|apply IsS62.set_1|apply IsS62.set_2)|exact HI0.out));(case side2=>repeat (first|(with_reducible first|exact HB.out|apply below_alloc|apply pw_below_drewN|apply below_drew1|refine below_set ?_ (IsS62.ge HI0.out))|exact HB.out));rintro e w4 ⟨rfl,hi,hb,hk⟩;refine ⟨_,rfl,?_⟩;replace HK:=A_ (KeepBut.trans (by repeat (with_reducible first|exact HK.out|apply KeepBut.set_|apply keep_drewN|apply keep_drew|apply keep_alloc)) hk (.inl rfl));replace HB:=A_ (hb);replace HI0:=A_ (hi);(try clear hb);(try clear hb2);(try clear hk);(try clear hi)))
 go_ret
 exact ⟨by first|rfl|(simp [errW_none,errW_some] <;> rfl)|(simp [*,errW_none,errW_some] <;> rfl),by repeat (first|(with_reducible first|exact HI0.out|apply IsS62.alloc|apply IsS62.drewN|apply IsS62.drew|apply IsS62.set_1|apply IsS62.set_2)|exact HI0.out),by repeat (first|(with_reducible first|exact HB.out|apply below_alloc|apply pw_below_drewN|apply below_drew1|refine below_set ?_ (IsS62.ge HI0.out))|exact HB.out),by repeat (first|(with_reducible first|exact HK.out|apply KeepBut.set_|apply keep_drewN|apply keep_drew|apply keep_alloc)|exact HK.out)⟩
mutual
def spec_l1Cur_relation.l0 : Nat → List Int → Int → Int → Int → List Int → Option (Int × List Int × Int × Int)
 | 0,_,_,_,_,_=>none
 | k + 1,x1000,x1001,x1002,x116000,x116001=>if (x116001.length : Int) < x116000 then (spec_l1Cur_relation.l1 k 0 0 x1000 x1001 x1002 x116000 x116001) else (some (x116000,x116001,x1001,x1002))
def spec_l1Cur_relation.l1 : Nat → Int → Int → List Int → Int → Int → Int → List Int → Option (Int × List Int × Int × Int)
 | 0,_,_,_,_,_,_,_=>none
 | k + 1,x6,x7,x1000,x1001,x1002,x116000,x116001=>if x7 < x116000 then ((spec_l1Cur_one.f x1000 x1001 x1002 4).bind fun bt116=>(if bt116.1 = true then (if 0 ≤ x7 then (spec_l1Cur_relation.l1 k (Go.bits .or .i64 x6 (shl .i64 1 x7)) (wrap64 (x7 + 1)) x1000 bt116.2.1 bt116.2.2 x116000 x116001) else (none)) else (spec_l1Cur_relation.l1 k x6 (wrap64 (x7 + 1)) x1000 bt116.2.1 bt116.2.2 x116000 x116001))) else (if x116001.length < 17592186044416 then (spec_l1Cur_relation.l0 k x1000 x1001 x1002 x116000 (x116001 ++ [x6])) else (none))
end
def spec_l1Cur_relation.f (k : Nat) (s0_0 : List Int) (s0_1 : Int) (s0_2 : Int) (a1 : Int) : Option (Int × List Int × Int × Int) := (spec_l1Cur_pick.f s0_0 s0_1 s0_2 (wrap64 (a1 + 1))).bind fun bt112 => (spec_l1Cur_relation.l0 k s0_0 bt112.2.1 bt112.2.2 bt112.1 ([] : List Int))
set_option maxHeartbeats 8000000 in
set_option maxRecDepth 100000 in
theorem spec_l1Cur_relation.calls (k : Nat) (g : Nat) (s0_0 : List Int) (s0_1 : Int) (s0_2 : Int) (a1 : Int) (r1 : Int) (r2 : List Int) (r3 : Int) (r4 : Int) (w0 w : World) (hI : IsS62 w0 w g s0_0 s0_1 s0_2) (hB : Below w0.heap.size w0 w) (h : spec_l1Cur_relation.f k s0_0 s0_1 s0_2 a1 = some (r1,r2,r3,r4)) :
 Calls Tryd.prog 59 #[.pointer (some ⟨g,0,none⟩),.int .i64 a1] w fun e w'=>∃ v1_ : Value,e = .returned (.agg #[.int .i64 r1,v1_]) ∧ Kd.R (Kd.int .i64) 3 w' w.heap.size (fun _=>True) v1_ r2 ∧ IsS62 w0 w' g s0_0 r3 r4 ∧ Below w0.heap.size w0 w' ∧ KeepBut w w' g none:=by
 have hu26:=Tryd.underlying26;have HI0:=A_ hI;have HK:=A_ (KeepBut.refl w g none);have HL:=A_ hB.size;clear hI;have HW0:=A_ hB.size;have HB:=A_ hB;clear hB;have H : ((spec_l1Cur_pick.f s0_0 s0_1 s0_2 (wrap64 (a1 + 1))).bind fun bt112=>(spec_l1Cur_relation.l0 k s0_0 bt112.2.1 bt112.2.2 bt112.1 ([] : List Int))) = some (r1,r2,r3,r4):=h;clear h;replace H:=Option.bind_eq_some_iff.mp H;obtain ⟨⟨t112,t113,t114⟩,A30,H⟩:=H;replace H : (spec_l1Cur_relation.l0 k s0_0 t113 t114 t112 ([] : List Int)) = some (r1,r2,r3,r4):=H;have A3:=A_ A30;clear A30;have H':=A_ H;clear H;go_enter Tryd.func59,Tryd.ntmps59
 go_wp2_with (first|((with_reducible refine gate_dst (N:=4) rfl ?_);refine box_event ?hg (N:=4) ?hd (cs:=#[.int .i64 0,.slice none 0 0]) (t:=26) ?hr ?_;(case hd=>rfl);(case hg=>rfl);(case hr=>first|(go_simp;done)|(go_simp;rfl));intro gb111 hg w4 hbox hb;replace HB:=A_ (below_step (by repeat (with_reducible first|exact HB.out|apply below_alloc|apply pw_below_drewN|apply below_drew1|refine below_set ?_ (IsS62.ge HI0.out))) hb);have BK111:=A_ (hbox);have GW111:=A_ ((by rw [hg];exact (keep_size (w:=w) (g:=g) (row:=none) (by repeat (with_reducible first|exact HK.out|apply KeepBut.set_|apply keep_drewN|apply keep_drew|apply keep_alloc))) : w.heap.size ≤ gb111));have GE111:=A_ ((Nat.le_trans HW0.out (by rw [hg];exact (keep_size (w:=w) (g:=g) (row:=none) (by repeat (with_reducible first|exact HK.out|apply KeepBut.set_|apply keep_drewN|apply keep_drew|apply keep_alloc))) : w.heap.size ≤ gb111) : w0.heap.size ≤ gb111));replace HK:=A_ (KeepBut.trans (by repeat (with_reducible first|exact HK.out|apply KeepBut.set_|apply keep_drewN|apply keep_drew|apply keep_alloc)) (KeepBut.of_below hb g none) (.inl rfl));have NB0_111:=A_ ((by rw [hg];exact Nat.ne_of_lt (IsS62.lt (show IsS62 w0 _ g s0_0 s0_1 s0_2 from by repeat (first|(with_reducible first|exact HI0.out|apply IsS62.alloc|apply IsS62.drewN|apply IsS62.drew|apply IsS62.set_1|apply IsS62.set_2)|exact HI0.out))) : g ≠ gb111));have NB111_0:=A_ ((by rw [hg];exact Nat.ne_of_gt (IsS62.lt (show IsS62 w0 _ g s0_0 s0_1 s0_2 from by repeat (first|(with_reducible first|exact HI0.out|apply IsS62.alloc|apply IsS62.drewN|apply IsS62.drew|apply IsS62.set_1|apply IsS62.set_2)|exact HI0.out))) : gb111 ≠ g));replace HI0:=A_ (IsS62.below (by repeat (with_reducible first|exact HI0.out|apply IsS62.alloc|apply IsS62.drewN|apply IsS62.drew|apply IsS62.set_1|apply IsS62.set_2)) hb);clear hb hbox hg)|((with_reducible refine gate_callee (f:=81) rfl ?_);refine goesL_ (some 11) rfl rfl Tryd.func81 (by kernel_rfl) rfl #[.pointer (some ⟨g,0,none⟩),.int .i64 (wrap64 (a1 + 1))] rfl au_ ?_;(with_reducible refine (spec_l1Cur_pick.calls g s0_0 s0_1 s0_2 (wrap64 (a1 + 1)) t112 t113 t114 w0 _ ?side1 ?side2 A3.out).mono ?_);(case side1=>repeat (first|(with_reducible first|exact HI0.out|apply IsS62.alloc|apply IsS62.drewN|apply IsS62.drew|apply IsS62.set_1|apply IsS62.set_2|refine IsS62.far ?_ NB0_111.out _)|exact HI0.out));(case side2=>repeat (first|(with_reducible first|exact HB.out|apply below_alloc|apply pw_below_drewN|apply below_drew1|refine below_set ?_ (IsS62.ge HI0.out)|refine below_set ?_ (Aside0.out (by assumption)))|exact HB.out));rintro e w5 ⟨rfl,hi,hb,hk⟩;refine ⟨_,rfl,?_⟩;replace BK111:=A_ (KeepBut.blk hk (g':=gb111) (o:=.cells #[.int .i64 0,.slice none 0 0] 26 (0,0)) (bl_ BK111) NB111_0.out (by simp));replace HK:=A_ (KeepBut.trans (by repeat (with_reducible first|exact HK.out|apply KeepBut.set_|apply keep_drewN|apply keep_drew|apply keep_alloc|refine keep_far ?_ GW111.out _)) hk (.inl rfl));replace HB:=A_ (hb);replace HI0:=A_ (hi);(try clear hb);(try clear hb2);(try clear hk);(try clear hi))|((with_reducible refine gate_dst (N:=5) rfl ?_);refine box_event ?hg (N:=5) ?hd (cs:=#[.int .i64 0,.slice none 0 0]) (t:=26) ?hr ?_;(case hd=>rfl);(case hg=>rfl);(case hr=>first|(go_simp;done)|(go_simp;rfl));intro gb115 hg w6 hbox hb;replace HB:=A_ (below_step (by repeat (with_reducible first|exact HB.out|apply below_alloc|apply pw_below_drewN|apply below_drew1|refine below_set ?_ (IsS62.ge HI0.out)|refine below_set ?_ (Aside0.out (by assumption)))) hb);have BK115:=A_ (hbox);have GW115:=A_ ((by rw [hg];exact (keep_size (w:=w) (g:=g) (row:=none) (by repeat (with_reducible first|exact HK.out|apply KeepBut.set_|apply keep_drewN|apply keep_drew|apply keep_alloc|refine keep_far ?_ GW111.out _))) : w.heap.size ≤ gb115));have GE115:=A_ ((Nat.le_trans HW0.out (by rw [hg];exact (keep_size (w:=w) (g:=g) (row:=none) (by repeat (with_reducible first|exact HK.out|apply KeepBut.set_|apply keep_drewN|apply keep_drew|apply keep_alloc|refine keep_far ?_ GW111.out _))) : w.heap.size ≤ gb115) : w0.heap.size ≤ gb115));replace HK:=A_ (KeepBut.trans (by repeat (with_reducible first|exact HK.out|apply KeepBut.set_|apply keep_drewN|apply keep_drew|apply keep_alloc|refine keep_far ?_ GW111.out _)) (KeepBut.of_below hb g none) (.inl rfl));have NB111_115:=A_ ((by rw [hg];exact Nat.ne_of_lt (blk_lt (bl_ BK111)) : gb111 ≠ gb115));have NB115_111:=A_ ((by rw [hg];exact Nat.ne_of_gt (blk_lt (bl_ BK111)) : gb115 ≠ gb111));replace BK111:=bz BK111 hb;have NB0_115:=A_ ((by rw [hg];exact Nat.ne_of_lt (IsS62.lt (show IsS62 w0 _ g s0_0 t113 t114 from by repeat (first|(with_reducible first|exact HI0.out|apply IsS62.alloc|apply IsS62.drewN|apply IsS62.drew|apply IsS62.set_1|apply IsS62.set_2|refine IsS62.far ?_ NB0_111.out _)|exact HI0.out))) : g ≠ gb115));have NB115_0:=A_ ((by rw [hg];exact Nat.ne_of_gt (IsS62.lt (show IsS62 w0 _ g s0_0 t113 t114 from by repeat (first|(with_reducible first|exact HI0.out|apply IsS62.alloc|apply IsS62.drewN|apply IsS62.drew|apply IsS62.set_1|apply IsS62.set_2|refine IsS62.far ?_ NB0_111.out _)|exact HI0.out))) : gb115 ≠ g));replace HI0:=A_ (IsS62.below (by repeat (with_reducible first|exact HI0.out|apply IsS62.alloc|apply IsS62.drewN|apply IsS62.drew|apply IsS62.set_1|apply IsS62.set_2|refine IsS62.far ?_ NB0_111.out _)) hb);clear hb hbox hg;have hnb7:=NB115_111.out;have hnc7:=NB111_115.out;have hnb8:=NB115_0.out;have hnc8:=NB0_115.out;have hcz9_0 : w6.cell? ⟨gb115,0,none⟩ = some (.int .i64 0):=blk_cell BK115.out 0;have hcz9_1 : w6.cell? ⟨gb115,1,none⟩ = some (.slice none 0 0):=blk_cell BK115.out 1;have hfz9_0:=blk_frozen BK115.out 0;have hfz9_1:=blk_frozen BK115.out 1))
 go_loopg [] k (fun kq w'=>∃ (x1001_1 : Int) (x1002_1 : Int) (x116001_1 : List Int) (u116001 : Value),Aside0 (spec_l1Cur_relation.l0 kq s0_0 x1001_1 x1002_1 t112 x116001_1 = some (r1,r2,r3,r4)) ∧ Aside0 (kq ≤ k) ∧ Aside0 (Kd.R (Kd.int .i64) 3 w' w.heap.size (fun _=>True) u116001 x116001_1) ∧ Aside0 (w'.heap[gb111]? = some (.cells #[.int .i64 0,(.slice none 0 0)] 26 (0,0))) ∧ Aside0 (w'.heap[gb115]? = some (.cells #[.int .i64 t112,u116001] 26 (0,0))) ∧ Aside0 (IsS62 w0 w' g s0_0 x1001_1 x1002_1) ∧ Aside0 (KeepBut w w' g none) ∧ Aside0 (Below w0.heap.size w0 w'))
 case atStart=>exact ⟨(t113),(t114),(([] : List Int)),(.slice none 0 0),H',⟨Nat.le_refl _⟩,⟨by first|exact Kd.R_nil _ _ _ _ _|exact Kd.N_nil _ _ _ _ _|exact Kd.V_nil _ _ _ _ _|exact Kd.Q_nil _ _ _ _ _|exact Kd.S_nil _ _ _ _ _⟩,⟨by (with_reducible repeat (first|refine blk_drewN ?_ _|refine blk_drew ?_|refine blk_alloc ?_ _));refine blk_far ?_ NB111_115.out _;(with_reducible repeat (first|refine blk_drewN ?_ _|refine blk_drew ?_|refine blk_alloc ?_ _));refine blk_far ?_ NB111_115.out _;(with_reducible repeat (first|refine blk_drewN ?_ _|refine blk_drew ?_|refine blk_alloc ?_ _));exact BK111.out⟩,⟨by (with_reducible repeat (first|refine blk_drewN ?_ _|refine blk_drew ?_|refine blk_alloc ?_ _));refine blk_put (cs:=#[.int .i64 t112,.slice none 0 0]) ?_ 1 _ rfl;(with_reducible repeat (first|refine blk_drewN ?_ _|refine blk_drew ?_|refine blk_alloc ?_ _));refine blk_put (cs:=#[.int .i64 0,.slice none 0 0]) ?_ 0 _ rfl;(with_reducible repeat (first|refine blk_drewN ?_ _|refine blk_drew ?_|refine blk_alloc ?_ _));exact BK115.out⟩,⟨by repeat (first|(with_reducible first|exact HI0.out|apply IsS62.alloc|apply IsS62.drewN|apply IsS62.drew|apply IsS62.set_1|apply IsS62.set_2|refine IsS62.far ?_ (Aside0.out (by assumption)) _)|exact HI0.out)⟩,⟨by repeat (first|(with_reducible first|exact HK.out|apply KeepBut.set_|apply keep_drewN|apply keep_drew|apply keep_alloc|refine keep_far ?_ GW111.out _|refine keep_far ?_ GW115.out _)|exact HK.out)⟩,⟨by repeat (first|(with_reducible first|exact HB.out|apply below_alloc|apply pw_below_drewN|apply below_drew1|refine below_set ?_ (IsS62.ge HI0.out)|refine below_set ?_ (Aside0.out (by assumption)))|exact HB.out)⟩⟩
 case round =>
  clear H';try clear p2
  try clear c5
  try clear p6
  try clear c7
  try clear c8
  try clear hcz9_0
  try clear hcz9_1
  try clear hfz9_0
  try clear hfz9_1
  obtain ⟨x1001_1,x1002_1,x116001_1,u116001,HA,HK1,HO_116001,BK111,BK115,HI0,HK,HB⟩:=hrel;cases gk with
  | zero => exact absurd HA.out (by simp [spec_l1Cur_relation.l0])
  | succ k1 =>
   have H:=HA.out;clear HA;simp only [spec_l1Cur_relation.l0] at H
   by_cases c10 : (x116001_1.length : Int) < t112
   ·rw [if_pos c10] at H;have c10b0 : decide ((x116001_1.length : Int) < t112) = true:=decide_eq_true c10;clear c10;have H':=A_ H;clear H;have hnb11:=NB115_111.out;have hnc11:=NB111_115.out;have hnb12:=NB115_0.out;have hnc12:=NB0_115.out;have hcz13_0 : wr.cell? ⟨gb115,0,none⟩ = some (.int .i64 t112):=blk_cell BK115.out 0;have hcz13_1 : wr.cell? ⟨gb115,1,none⟩ = some (u116001):=blk_cell BK115.out 1;have hfz13_0:=blk_frozen BK115.out 0;have hfz13_1:=blk_frozen BK115.out 1;obtain ⟨Ao14,co14,eo14⟩:=Kd.R_slice HO_116001.out;subst eo14;go_wp2
    go_loopg [6,7] k1 (fun kq v6 v7 w'=>∃ (x6_2 : Int) (x7_2 : Int) (x1001_2 : Int) (x1002_2 : Int),v6 = .int .i64 x6_2 ∧ v7 = .int .i64 x7_2 ∧ Aside0 (spec_l1Cur_relation.l1 kq x6_2 x7_2 s0_0 x1001_2 x1002_2 t112 x116001_1 = some (r1,r2,r3,r4)) ∧ Aside0 (kq ≤ k1) ∧ Aside0 (Kd.R (Kd.int .i64) 3 w' w.heap.size (fun _=>True) (.slice Ao14 x116001_1.length co14) x116001_1) ∧ Aside0 (w'.heap[gb111]? = some (.cells #[.int .i64 0,(.slice none 0 0)] 26 (0,0))) ∧ Aside0 (w'.heap[gb115]? = some (.cells #[.int .i64 t112,(.slice Ao14 x116001_1.length co14)] 26 (0,0))) ∧ Aside0 (IsS62 w0 w' g s0_0 x1001_2 x1002_2) ∧ Aside0 (KeepBut w w' g none) ∧ Aside0 (Below w0.heap.size w0 w'))
    case atStart=>exact ⟨(0),(0),(x1001_1),(x1002_1),(by first|rfl|(simp;done)|(simp [*];done)),(by first|rfl|(simp;done)|(simp [*];done)),H',⟨Nat.le_refl _⟩,⟨by (with_reducible repeat (first|apply Kd.R_alloc|apply Kd.R_drewN|apply Kd.R_drew));exact HO_116001.out⟩,⟨bl_ BK111⟩,⟨bl_ BK115⟩,⟨by repeat (first|(with_reducible first|exact HI0.out|apply IsS62.alloc|apply IsS62.drewN|apply IsS62.drew|apply IsS62.set_1|apply IsS62.set_2|refine IsS62.far ?_ (Aside0.out (by assumption)) _)|exact HI0.out)⟩,⟨by repeat (first|(with_reducible first|exact HK.out|apply KeepBut.set_|apply keep_drewN|apply keep_drew|apply keep_alloc|refine keep_far ?_ GW111.out _|refine keep_far ?_ GW115.out _)|exact HK.out)⟩,⟨by repeat (first|(with_reducible first|exact HB.out|apply below_alloc|apply pw_below_drewN|apply below_drew1|refine below_set ?_ (IsS62.ge HI0.out)|refine below_set ?_ (Aside0.out (by assumption)))|exact HB.out)⟩⟩
    case round =>
     clear H';try clear c1
     try clear p2
     try clear c5
     try clear p6
     try clear c7
     try clear c8
     try clear c10
     try clear c10b0
     try clear c11
     try clear c12
     try clear hcz13_0
     try clear hcz13_1
     try clear hcz9_0
     try clear hcz9_1
     try clear hfz13_0
     try clear hfz13_1
     try clear hfz9_0
     try clear hfz9_1
     try clear p2
     try clear p6
     obtain ⟨x6_2,x7_2,x1001_2,x1002_2,rfl,rfl,HA,HK2,HO_116001,BK111,BK115,HI0,HK,HB⟩:=hrel;cases gk with
     | zero=>exact absurd HA.out (by simp [spec_l1Cur_relation.l1])
     | succ k2 =>
      have H:=HA.out;clear HA;simp only [spec_l1Cur_relation.l1] at H
      by_cases c15 : x7_2 < t112
      ·rw [if_pos c15] at H;have c15b0 : decide (x7_2 < t112) = true:=decide_eq_true c15;clear c15;replace H:=Option.bind_eq_some_iff.mp H;obtain ⟨⟨t116,t117,t118⟩,A160,H⟩:=H;replace H : (if t116 = true then (if 0 ≤ x7_2 then (spec_l1Cur_relation.l1 k2 (Go.bits .or .i64 x6_2 (shl .i64 1 x7_2)) (wrap64 (x7_2 + 1)) s0_0 t117 t118 t112 x116001_1) else (none)) else (spec_l1Cur_relation.l1 k2 x6_2 (wrap64 (x7_2 + 1)) s0_0 t117 t118 t112 x116001_1)) = some (r1,r2,r3,r4):=H;have A16:=A_ A160;clear A160;by_cases c17 : t116 = true
       ·subst c17;have H1 : (if 0 ≤ x7_2 then (spec_l1Cur_relation.l1 k2 (Go.bits .or .i64 x6_2 (shl .i64 1 x7_2)) (wrap64 (x7_2 + 1)) s0_0 t117 t118 t112 x116001_1) else (none)) = some (r1,r2,r3,r4):=by rw [if_pos rfl] at H;exact H
        clear H;have H:=H1;clear H1;by_cases c18 : 0 ≤ x7_2
        ·rw [if_pos c18] at H;have c18b0:=eq_true c18;have c18b1 : decide (0 ≤ x7_2) = true:=decide_eq_true c18;clear c18;obtain ⟨ji19,hji19⟩ : ∃ j_ : Int,(shl .i64 1 x7_2) = j_:=⟨_,rfl⟩;replace H : (spec_l1Cur_relation.l1 k2 (Go.bits .or .i64 x6_2 (ji19)) (wrap64 (x7_2 + 1)) s0_0 t117 t118 t112 x116001_1) = some (r1,r2,r3,r4):=by first|(rw [hji19] at H;exact H)|(simp only [hji19] at H ⊢;exact H)
         (try rw [hji19] at A16);have hji19_ : (IntKind.i64.wrap (1 * 2 ^ min x7_2.toNat 64)) = ji19:=hji19;have hji19z : x7_2 ≤ 64 → (IntKind.i64.wrap (1 * 2 ^ x7_2.toNat)) = ji19:=shl_small hji19;have hji19u : (IntKind.i64.wrap (2 ^ min x7_2.toNat 64)) = ji19:=by have h_:=hji19_;rw [Int.one_mul] at h_;exact h_
         have hji19v : x7_2 ≤ 64 → (IntKind.i64.wrap (2 ^ x7_2.toNat)) = ji19:=fun hle_=>by have h_:=hji19z hle_;rw [Int.one_mul] at h_;exact h_
         have hji19y : (wrap64 (1 * 2 ^ min x7_2.toNat 64)) = ji19:=(i64_w _).symm.trans hji19_;have hji19x : x7_2 ≤ 64 → (wrap64 (1 * 2 ^ x7_2.toNat)) = ji19:=fun h_=>(i64_w _).symm.trans (hji19z h_)
         have H':=A_ H;clear H;have hnb20:=NB115_111.out;have hnc20:=NB111_115.out;have hnb21:=NB115_0.out;have hnc21:=NB0_115.out;have hcz22_0 : wr.cell? ⟨gb115,0,none⟩ = some (.int .i64 t112):=blk_cell BK115.out 0;have hcz22_1 : wr.cell? ⟨gb115,1,none⟩ = some (.slice Ao14 x116001_1.length co14):=blk_cell BK115.out 1;have hfz22_0:=blk_frozen BK115.out 0;have hfz22_1:=blk_frozen BK115.out 1;go_wp2_with (first|((with_reducible refine gate_callee (f:=58) rfl ?_);refine goesL_ (some 26) rfl rfl Tryd.func58 (by kernel_rfl) rfl #[.pointer (some ⟨g,0,none⟩),.int .i64 4] rfl au_ ?_;(with_reducible refine (spec_l1Cur_one.calls g s0_0 x1001_2 x1002_2 4 true t117 t118 w0 _ ?side1 ?side2 A16.out).mono ?_);(case side1=>repeat (first|(with_reducible first|exact HI0.out|apply IsS62.alloc|apply IsS62.drewN|apply IsS62.drew|apply IsS62.set_1|apply IsS62.set_2|refine IsS62.far ?_ (Aside0.out (by assumption)) _)|exact HI0.out));(case side2=>repeat (first|(with_reducible first|exact HB.out|apply below_alloc|apply pw_below_drewN|apply below_drew1|refine below_set ?_ (IsS62.ge HI0.out)|refine below_set ?_ (Aside0.out (by assumption)))|exact HB.out));rintro e w23 ⟨rfl,hi,hb,hk⟩;refine ⟨_,rfl,?_⟩;replace HO_116001:=A_ (Kd.R_mono (Kd.R_keep (IsS62.apart (show IsS62 w0 _ g s0_0 x1001_2 x1002_2 from by repeat (first|(with_reducible first|exact HI0.out|apply IsS62.alloc|apply IsS62.drewN|apply IsS62.drew|apply IsS62.set_1|apply IsS62.set_2|refine IsS62.far ?_ (Aside0.out (by assumption)) _)|exact HI0.out)) (rl_ HO_116001) (by decide)) hk (fun _ h=>h.2)) (fun _ h=>h.1));replace BK111:=A_ (KeepBut.blk hk (g':=gb111) (o:=.cells #[.int .i64 0,.slice none 0 0] 26 (0,0)) (bl_ BK111) NB111_0.out (by simp));replace BK115:=A_ (KeepBut.blk hk (g':=gb115) (o:=.cells #[.int .i64 t112,.slice Ao14 x116001_1.length co14] 26 (0,0)) (bl_ BK115) NB115_0.out (by simp));replace HK:=A_ (KeepBut.trans (by repeat (with_reducible first|exact HK.out|apply KeepBut.set_|apply keep_drewN|apply keep_drew|apply keep_alloc|refine keep_far ?_ GW111.out _|refine keep_far ?_ GW115.out _)) hk (.inl rfl));replace HB:=A_ (hb);replace HI0:=A_ (hi);(try clear hb);(try clear hb2);(try clear hk);(try clear hi)))
         go_roundg k2
         case measure=>have:=HK1.out;have:=HK2.out;omega
         case rel=>exact ⟨(Go.bits .or .i64 x6_2 (ji19)),(wrap64 (x7_2 + 1)),(t117),(t118),(by first|rfl|(simp;done)|(simp only [← hji19] <;> (first|rfl|simp))|(simp [*];done)),(by first|rfl|(simp;done)|(simp [*];done)),H',⟨by have:=HK1.out;have:=HK2.out;omega⟩,⟨by (with_reducible repeat (first|apply Kd.R_alloc|apply Kd.R_drewN|apply Kd.R_drew));exact HO_116001.out⟩,⟨bl_ BK111⟩,⟨bl_ BK115⟩,⟨by repeat (first|(with_reducible first|exact HI0.out|apply IsS62.alloc|apply IsS62.drewN|apply IsS62.drew|apply IsS62.set_1|apply IsS62.set_2|refine IsS62.far ?_ (Aside0.out (by assumption)) _)|exact HI0.out)⟩,⟨by repeat (first|(with_reducible first|exact HK.out|apply KeepBut.set_|apply keep_drewN|apply keep_drew|apply keep_alloc|refine keep_far ?_ GW111.out _|refine keep_far ?_ GW115.out _)|exact HK.out)⟩,⟨by repeat (first|(with_reducible first|exact HB.out|apply below_alloc|apply pw_below_drewN|apply below_drew1|refine below_set ?_ (IsS62.ge HI0.out)|refine below_set ?_ (Aside0.out (by assumption)))|exact HB.out)⟩⟩
        ·rw [if_neg c18] at H;exact absurd H (by simp)
       ·replace c17:=Bool.eq_false_iff.mpr c17;subst c17;have H1 : (spec_l1Cur_relation.l1 k2 x6_2 (wrap64 (x7_2 + 1)) s0_0 t117 t118 t112 x116001_1) = some (r1,r2,r3,r4):=by rw [if_neg (show ¬ (false = true) by decide)] at H;exact H
        clear H;have H:=H1;clear H1;have H':=A_ H;clear H;have hnb24:=NB115_111.out;have hnc24:=NB111_115.out;have hnb25:=NB115_0.out;have hnc25:=NB0_115.out;have hcz26_0 : wr.cell? ⟨gb115,0,none⟩ = some (.int .i64 t112):=blk_cell BK115.out 0;have hcz26_1 : wr.cell? ⟨gb115,1,none⟩ = some (.slice Ao14 x116001_1.length co14):=blk_cell BK115.out 1;have hfz26_0:=blk_frozen BK115.out 0;have hfz26_1:=blk_frozen BK115.out 1;go_wp2_with (first|((with_reducible refine gate_callee (f:=58) rfl ?_);refine goesL_ (some 26) rfl rfl Tryd.func58 (by kernel_rfl) rfl #[.pointer (some ⟨g,0,none⟩),.int .i64 4] rfl au_ ?_;(with_reducible refine (spec_l1Cur_one.calls g s0_0 x1001_2 x1002_2 4 false t117 t118 w0 _ ?side1 ?side2 A16.out).mono ?_);(case side1=>repeat (first|(with_reducible first|exact HI0.out|apply IsS62.alloc|apply IsS62.drewN|apply IsS62.drew|apply IsS62.set_1|apply IsS62.set_2|refine IsS62.far ?_ (Aside0.out (by assumption)) _)|exact HI0.out));(case side2=>repeat (first|(with_reducible first|exact HB.out|apply below_alloc|apply pw_below_drewN|apply below_drew1|refine below_set ?_ (IsS62.ge HI0.out)|refine below_set ?_ (Aside0.out (by assumption)))|exact HB.out));rintro e w27 ⟨rfl,hi,hb,hk⟩;refine ⟨_,rfl,?_⟩;replace HO_116001:=A_ (Kd.R_mono (Kd.R_keep (IsS62.apart (show IsS62 w0 _ g s0_0 x1001_2 x1002_2 from by repeat (first|(with_reducible first|exact HI0.out|apply IsS62.alloc|apply IsS62.drewN|apply IsS62.drew|apply IsS62.set_1|apply IsS62.set_2|refine IsS62.far ?_ (Aside0.out (by assumption)) _)|exact HI0.out)) (rl_ HO_116001) (by decide)) hk (fun _ h=>h.2)) (fun _ h=>h.1));replace BK111:=A_ (KeepBut.blk hk (g':=gb111) (o:=.cells #[.int .i64 0,.slice none 0 0] 26 (0,0)) (bl_ BK111) NB111_0.out (by simp));replace BK115:=A_ (KeepBut.blk hk (g':=gb115) (o:=.cells #[.int .i64 t112,.slice Ao14 x116001_1.length co14] 26 (0,0)) (bl_ BK115) NB115_0.out (by simp));replace HK:=A_ (KeepBut.trans (by repeat (with_reducible first|exact HK.out|apply KeepBut.set_|apply keep_drewN|apply keep_drew|apply keep_alloc|refine keep_far ?_ GW111.out _|refine keep_far ?_ GW115.out _)) hk (.inl rfl));replace HB:=A_ (hb);replace HI0:=A_ (hi);(try clear hb);(try clear hb2);(try clear hk);(try clear hi)))
        go_roundg k2
        case measure=>have:=HK1.out;have:=HK2.out;omega
        case rel=>exact ⟨(x6_2),(wrap64 (x7_2 + 1)),(t117),(t118),(by first|rfl|(simp;done)|(simp [*];done)),(by first|rfl|(simp;done)|(simp [*];done)),H',⟨by have:=HK1.out;have:=HK2.out;omega⟩,⟨by (with_reducible repeat (first|apply Kd.R_alloc|apply Kd.R_drewN|apply Kd.R_drew));exact HO_116001.out⟩,⟨bl_ BK111⟩,⟨bl_ BK115⟩,⟨by repeat (first|(with_reducible first|exact HI0.out|apply IsS62.alloc|apply IsS62.drewN|apply IsS62.drew|apply IsS62.set_1|apply IsS62.set_2|refine IsS62.far ?_ (Aside0.out (by assumption)) _)|exact HI0.out)⟩,⟨by repeat (first|(with_reducible first|exact HK.out|apply KeepBut.set_|apply keep_drewN|apply keep_drew|apply keep_alloc|refine keep_far ?_ GW111.out _|refine keep_far ?_ GW115.out _)|exact HK.out)⟩,⟨by repeat (first|(with_reducible first|exact HB.out|apply below_alloc|apply pw_below_drewN|apply below_drew1|refine below_set ?_ (IsS62.ge HI0.out)|refine below_set ?_ (Aside0.out (by assumption)))|exact HB.out)⟩⟩
      ·rw [if_neg c15] at H;have c15b0 : decide (x7_2 < t112) = false:=decide_eq_false c15;clear c15;by_cases c28 : x116001_1.length < 17592186044416
       ·rw [if_pos c28] at H;have LMc28:=A_ c28;clear c28;obtain ⟨y119,hy119⟩ : ∃ y_ : List Int,y_ = (x116001_1 ++ [x6_2]):=⟨_,rfl⟩;replace H : (spec_l1Cur_relation.l0 k2 s0_0 x1001_2 x1002_2 t112 y119) = some (r1,r2,r3,r4):=by first|(rw [hy119];with_reducible exact H)|(have H2_:=(Option.bind_some _ _).symm.trans H;rw [hy119];with_reducible exact H2_)|(have H2_:=(Option.bind_some _ _).symm.trans H;with_reducible exact H2_)|with_reducible exact H|(rw [hy119];exact H)|exact H
        have Ny119:=A_ hy119;clear hy119;have H':=A_ H;clear H;have hnb29:=NB115_111.out;have hnc29:=NB111_115.out;have hnb30:=NB115_0.out;have hnc30:=NB0_115.out;have hcz31_0 : wr.cell? ⟨gb115,0,none⟩ = some (.int .i64 t112):=blk_cell BK115.out 0;have hcz31_1 : wr.cell? ⟨gb115,1,none⟩ = some (.slice Ao14 x116001_1.length co14):=blk_cell BK115.out 1;have hfz31_0:=blk_frozen BK115.out 0;have hfz31_1:=blk_frozen BK115.out 1;go_wp2_with (first|((with_reducible refine gate_builtin (b:=.append) (xs:=#[.tmp 32,.tmp 34]) rfl ?_);at_builtin;refine Kd.R_append (Kd.int .i64) w.heap.size rfl (.tmp 32) (.tmp 34) 24 3 (.int .i64 0) 8 rfl Tryd.underlying24 info3 rfl (by decide) (by omega) (.slice Ao14 x116001_1.length co14) x116001_1 x6_2 [.int .i64 x6_2] (fun _=>True) (fun _=>False) rfl rfl ?aP (fun _ hk=>hk.elim) ?aF ?aO (Below.refl _ _) ?aS ?aL ?_;(case aP=>exact rfl);(case aF=>exact (fun _ _=>trivial));(case aO=>exact (rl_ HO_116001));(case aS=>exact (keep_size (w:=w) (g:=g) (row:=none) (by repeat (with_reducible first|exact HK.out|apply KeepBut.set_|apply keep_drewN|apply keep_drew|apply keep_alloc|refine keep_far ?_ GW111.out _|refine keep_far ?_ GW115.out _))));(case aL=>have:=LMc28.out;omega);intro v120 w32 ho hb hg hat;rw [← Ny119.out] at ho;replace BK111:=A_ (blk_grown (g:=gb111) (o:=.cells #[.int .i64 0,.slice none 0 0] 26 (0,0)) (bl_ BK111) hg (Kd.R_ne HO_116001.out BK111.out (by decide)));replace BK115:=A_ (blk_grown (g:=gb115) (o:=.cells #[.int .i64 t112,.slice Ao14 x116001_1.length co14] 26 (0,0)) (bl_ BK115) hg (Kd.R_ne HO_116001.out BK115.out (by decide)));replace HB:=A_ (below_weaken (by repeat (with_reducible first|exact HB.out|apply below_alloc|apply pw_below_drewN|apply below_drew1|refine below_set ?_ (IsS62.ge HI0.out)|refine below_set ?_ (Aside0.out (by assumption)))) HL.out hb);replace HI0:=A_ (IsS62.grown (by repeat (first|(with_reducible first|exact HI0.out|apply IsS62.alloc|apply IsS62.drewN|apply IsS62.drew|apply IsS62.set_1|apply IsS62.set_2|refine IsS62.far ?_ (Aside0.out (by assumption)) _)|exact HI0.out)) hg (IsS62.own_ne HI0.out HO_116001.out (by decide)));replace HK:=A_ (KeepBut.trans (by repeat (with_reducible first|exact HK.out|apply KeepBut.set_|apply keep_drewN|apply keep_drew|apply keep_alloc|refine keep_far ?_ GW111.out _|refine keep_far ?_ GW115.out _)) (KeepBut.of_grown hg g) (Kd.R_base2 HO_116001.out));have HO121:=A_ (ho);clear HO_116001;clear ho hb hg hat;obtain ⟨Ao33,co33,eo33⟩:=Kd.R_slice HO121.out;subst eo33;have hcz34_0 : w32.cell? ⟨gb115,0,none⟩ = some (.int .i64 t112):=blk_cell BK115.out 0;have hcz34_1 : w32.cell? ⟨gb115,1,none⟩ = some (.slice Ao14 x116001_1.length co14):=blk_cell BK115.out 1;have hfz34_0:=blk_frozen BK115.out 0;have hfz34_1:=blk_frozen BK115.out 1))
        go_roundg k2
        case measure=>have:=HK1.out;have:=HK2.out;omega
        case rel=>exact ⟨(x1001_2),(x1002_2),(y119),(.slice Ao33 y119.length co33),H',⟨by have:=HK1.out;have:=HK2.out;omega⟩,⟨by (with_reducible repeat (first|apply Kd.R_alloc|apply Kd.R_drewN|apply Kd.R_drew));exact Kd.R_mono (Kd.R_far (p:=⟨gb115,1,none⟩) (Kd.R_types HO121.out BK115.out (by decide)) (fun _ hk=>hk.2) (.slice Ao33 y119.length co33)) (fun _ hk=>trivial)⟩,⟨by (with_reducible repeat (first|refine blk_drewN ?_ _|refine blk_drew ?_|refine blk_alloc ?_ _));refine blk_far ?_ NB111_115.out _;(with_reducible repeat (first|refine blk_drewN ?_ _|refine blk_drew ?_|refine blk_alloc ?_ _));exact BK111.out⟩,⟨by (with_reducible repeat (first|refine blk_drewN ?_ _|refine blk_drew ?_|refine blk_alloc ?_ _));refine blk_put (cs:=#[.int .i64 t112,.slice Ao14 x116001_1.length co14]) ?_ 1 _ rfl;(with_reducible repeat (first|refine blk_drewN ?_ _|refine blk_drew ?_|refine blk_alloc ?_ _));exact BK115.out⟩,⟨by repeat (first|(with_reducible first|exact HI0.out|apply IsS62.alloc|apply IsS62.drewN|apply IsS62.drew|apply IsS62.set_1|apply IsS62.set_2|refine IsS62.far ?_ (Aside0.out (by assumption)) _)|exact HI0.out)⟩,⟨by repeat (first|(with_reducible first|exact HK.out|apply KeepBut.set_|apply keep_drewN|apply keep_drew|apply keep_alloc|refine keep_far ?_ GW111.out _|refine keep_far ?_ GW115.out _)|exact HK.out)⟩,⟨by repeat (first|(with_reducible first|exact HB.out|apply below_alloc|apply pw_below_drewN|apply below_drew1|refine below_set ?_ (IsS62.ge HI0.out)|refine below_set ?_ (Aside0.out (by assumption)))|exact HB.out)⟩⟩
       ·rw [if_neg c28] at H;exact absurd H (by simp)
   ·rw [if_neg c10] at H;have c10b0 : decide ((x116001_1.length : Int) < t112) = false:=decide_eq_false c10;clear c10;simp only [Option.some.injEq,Prod.mk.injEq] at H
    obtain ⟨rfl,rfl,rfl,rfl⟩:=H;have hnb35:=NB115_111.out;have hnc35:=NB111_115.out;have hnb36:=NB115_0.out;have hnc36:=NB0_115.out;have hcz37_0 : wr.cell? ⟨gb115,0,none⟩ = some (.int .i64 t112):=blk_cell BK115.out 0;have hcz37_1 : wr.cell? ⟨gb115,1,none⟩ = some (u116001):=blk_cell BK115.out 1;have hfz37_0:=blk_frozen BK115.out 0;have hfz37_1:=blk_frozen BK115.out 1;obtain ⟨Ao38,co38,eo38⟩:=Kd.R_slice HO_116001.out;subst eo38;have hnb39:=NB111_0.out;have hnc39:=NB0_111.out;have hcz40_0 : wr.cell? ⟨gb111,0,none⟩ = some (.int .i64 0):=blk_cell BK111.out 0;have hcz40_1 : wr.cell? ⟨gb111,1,none⟩ = some (.slice none 0 0):=blk_cell BK111.out 1;have hfz40_0:=blk_frozen BK111.out 0;have hfz40_1:=blk_frozen BK111.out 1;go_wp2
    refine bodyPost_ret (results_cell_row rfl _ _ gb111 26 #[.int .i64 t112,.slice Ao38 x116001_1.length co38] (0,0) _ rfl (by (with_reducible repeat (first|refine blk_drewN ?_ _|refine blk_drew ?_|refine blk_alloc ?_ _));refine blk_put (cs:=#[.int .i64 t112,.slice none 0 0]) ?_ 1 _ rfl;(with_reducible repeat (first|refine blk_drewN ?_ _|refine blk_drew ?_|refine blk_alloc ?_ _));refine blk_put (cs:=#[.int .i64 0,.slice none 0 0]) ?_ 0 _ rfl;(with_reducible repeat (first|refine blk_drewN ?_ _|refine blk_drew ?_|refine blk_alloc ?_ _));exact BK111.out) Tryd.underlying26 rfl (by kernel_rfl)) rfl ?_
    exact ⟨_,by first|rfl|(simp [errW_none,errW_some] <;> rfl)|(simp [*,errW_none,errW_some] <;> rfl),by (with_reducible repeat (first|apply Kd.R_alloc|apply Kd.R_drewN|apply Kd.R_drew));exact Kd.R_mono (Kd.R_far (p:=⟨gb111,1,none⟩) (Kd.R_far (p:=⟨gb111,0,none⟩) (Kd.R_types HO_116001.out BK111.out (by decide)) (fun _ hk=>hk.2) (.int .i64 t112)) (fun _ hk=>hk.2) (.slice Ao38 x116001_1.length co38)) (fun _ hk=>trivial),by repeat (first|(with_reducible first|exact HI0.out|apply IsS62.alloc|apply IsS62.drewN|apply IsS62.drew|apply IsS62.set_1|apply IsS62.set_2|refine IsS62.far ?_ (Aside0.out (by assumption)) _)|exact HI0.out),by repeat (first|(with_reducible first|exact HB.out|apply below_alloc|apply pw_below_drewN|apply below_drew1|refine below_set ?_ (IsS62.ge HI0.out)|refine below_set ?_ (Aside0.out (by assumption)))|exact HB.out),by repeat (first|(with_reducible first|exact HK.out|apply KeepBut.set_|apply keep_drewN|apply keep_drew|apply keep_alloc|refine keep_far ?_ GW111.out _|refine keep_far ?_ GW115.out _)|exact HK.out)⟩
def spec_l1In.f (a0 : Int) (a1 : Int) (a2 : Int) : Option (Bool) := if a0 ≥ a1 then (some (decide (a0 ≤ a2))) else (some false)
set_option maxHeartbeats 8000000 in
set_option maxRecDepth 100000 in
theorem spec_l1In.calls (a0 : Int) (a1 : Int) (a2 : Int) (r : Bool) (w : World) (h : spec_l1In.f a0 a1 a2 = some r) :
 Calls Tryd.prog 116 #[.int .i64 a0,.int .i64 a1,.int .i64 a2] w fun e w'=>e = .returned (.bool r) ∧ Drawn0 w w':=by
 have H : (if a0 ≥ a1 then (some (decide (a0 ≤ a2))) else (some false)) = some r:=h;clear h;by_cases c4 : a0 ≥ a1
 ·rw [if_pos c4] at H;have c4b0 : decide (a1 ≤ a0) = true:=decide_eq_true c4;clear c4;obtain rfl:=Option.some.inj H;go_enter Tryd.func116,Tryd.ntmps116
  go_wp2
  go_ret
  exact ⟨by first|rfl|(simp;done)|(simp [*];done),by repeat (first|exact Drawn0.refl _|apply Drawn0.step)⟩
 ·rw [if_neg c4] at H;have c4b0 : decide (a1 ≤ a0) = false:=decide_eq_false c4;clear c4;obtain rfl:=Option.some.inj H;go_enter Tryd.func116,Tryd.ntmps116
  go_wp2
  go_ret
  exact ⟨by first|rfl|(simp;done)|(simp [*];done),by repeat (first|exact Drawn0.refl _|apply Drawn0.step)⟩
def spec_l1All.l0 : Nat → Int → Int → List Int → Int → Int → Option (Bool)
 | 0,_,_,_,_,_=>none
 | k + 1,x1,x2,x9,x10,x11=>if x11 < x10 then (if 0 ≤ x11 then (if x11 < (x9.length : Int) then ((spec_l1In.f (rd x9 x11) x1 x2).bind fun t123=>(if t123 = true then (spec_l1All.l0 k x1 x2 x9 x10 (wrap64 (x11 + 1))) else (some false))) else (none)) else (none)) else (some true)
def spec_l1All.f (k : Nat) (l0 : List Int) (a1 : Int) (a2 : Int) : Option (Bool) := spec_l1All.l0 k a1 a2 l0 (l0.length : Int) 0
set_option maxHeartbeats 8000000 in
set_option maxRecDepth 100000 in
theorem spec_l1All.calls (k : Nat) (A0 : Option Addr) (c0 : Nat) (l0 : List Int) (a1 : Int) (a2 : Int) (r : Bool) (w : World) (hr0 : Kd.C (Kd.int .i64) w A0 l0.length l0) (hc0 : l0.length ≤ c0) (h : spec_l1All.f k l0 a1 a2 = some r) :
 Calls Tryd.prog 117 #[.slice A0 l0.length c0,.int .i64 a1,.int .i64 a2] w fun e w'=>e = .returned (.bool r) ∧ Drawn0 w w':=by
 have HR0:=A_ hr0;have HC0:=A_ hc0;clear hr0 hc0;have H : (spec_l1All.l0 k a1 a2 l0 (l0.length : Int) 0) = some r:=h;clear h;have H':=A_ H;clear H;go_enter Tryd.func117,Tryd.ntmps117
 go_wp2
 go_loopg [11] k (fun kq v11 w'=>∃ (x11_1 : Int),v11 = .int .i64 x11_1 ∧ Aside0 (spec_l1All.l0 kq a1 a2 l0 (l0.length : Int) x11_1 = some r) ∧ Aside0 (kq ≤ k) ∧ Drawn0 w w')
 case atStart=>exact ⟨(0),(by first|rfl|(simp;done)|(simp [*];done)),H',⟨Nat.le_refl _⟩,by repeat (first|exact Drawn0.refl _|apply Drawn0.step)⟩
 case round =>
  clear H';try clear c1
  try clear p2
  obtain ⟨x11_1,rfl,HA,HK1,⟨m1,rfl⟩⟩:=hrel;cases gk with
  | zero => exact absurd HA.out (by simp [spec_l1All.l0])
  | succ k1 =>
   have H:=HA.out;clear HA;simp only [spec_l1All.l0] at H
   by_cases c4 : x11_1 < (l0.length : Int)
   ·rw [if_pos c4] at H;have c4b0 : decide (x11_1 < (l0.length : Int)) = true:=decide_eq_true c4;clear c4;by_cases c5 : 0 ≤ x11_1
    ·rw [if_pos c5] at H;have c5b0 : decide (0 ≤ x11_1) = true:=decide_eq_true c5;clear c5;by_cases c6 : x11_1 < (l0.length : Int)
     ·rw [if_pos c6] at H;have c6b0 : decide (x11_1 < (l0.length : Int)) = true:=decide_eq_true c6;clear c6;replace H:=Option.bind_eq_some_iff.mp H;obtain ⟨t123,A70,H⟩:=H;replace H : (if t123 = true then (spec_l1All.l0 k1 a1 a2 l0 (l0.length : Int) (wrap64 (x11_1 + 1))) else (some false)) = some r:=H;have A7:=A_ A70;clear A70;by_cases c8 : t123 = true
      ·subst c8;have H1 : (spec_l1All.l0 k1 a1 a2 l0 (l0.length : Int) (wrap64 (x11_1 + 1))) = some r:=by rw [if_pos rfl] at H;exact H
       clear H;have H:=H1;clear H1;have H':=A_ H;clear H;have p122 : 0 ≤ (x11_1 : Int):=of_decide_eq_true (by first|(with_reducible assumption)|assumption);have q122 : x11_1 < (l0.length : Int):=of_decide_eq_true (by first|(with_reducible assumption)|assumption);obtain ⟨ad122,e122,hx122_0⟩:=Kd.at_int HR0.out x11_1 p122 q122;cases e122
       replace p122:=eq_true p122;replace q122:=eq_true q122;go_wp2_with (first|((with_reducible refine gate_callee (f:=116) rfl ?_);refine goesL_ (some 18) rfl rfl Tryd.func116 (by kernel_rfl) rfl #[.int .i64 (rd l0 x11_1),.int .i64 a1,.int .i64 a2] rfl au_ ?_;(with_reducible refine (spec_l1In.calls (rd l0 x11_1) a1 a2 true _ A7.out).mono ?_);rintro e w' ⟨rfl,⟨nd,rfl⟩⟩;refine ⟨_,rfl,?_⟩))
       go_roundg k1
       case measure=>have:=HK1.out;omega
       case rel=>exact ⟨(wrap64 (x11_1 + 1)),(by first|rfl|(simp;done)|(simp [*];done)),H',⟨by have:=HK1.out;omega⟩,by repeat (first|exact Drawn0.refl _|apply Drawn0.step)⟩
      ·replace c8:=Bool.eq_false_iff.mpr c8;subst c8;have H1 : (some false) = some r:=by rw [if_neg (show ¬ (false = true) by decide)] at H;exact H
       clear H;have H:=H1;clear H1;obtain rfl:=Option.some.inj H;have p122 : 0 ≤ (x11_1 : Int):=of_decide_eq_true (by first|(with_reducible assumption)|assumption);have q122 : x11_1 < (l0.length : Int):=of_decide_eq_true (by first|(with_reducible assumption)|assumption);obtain ⟨ad122,e122,hx122_0⟩:=Kd.at_int HR0.out x11_1 p122 q122;cases e122
       replace p122:=eq_true p122;replace q122:=eq_true q122;go_wp2_with (first|((with_reducible refine gate_callee (f:=116) rfl ?_);refine goesL_ (some 18) rfl rfl Tryd.func116 (by kernel_rfl) rfl #[.int .i64 (rd l0 x11_1),.int .i64 a1,.int .i64 a2] rfl au_ ?_;(with_reducible refine (spec_l1In.calls (rd l0 x11_1) a1 a2 false _ A7.out).mono ?_);rintro e w' ⟨rfl,⟨nd,rfl⟩⟩;refine ⟨_,rfl,?_⟩))
       go_ret
       exact ⟨by first|rfl|(simp;done)|(simp [*];done),by repeat (first|exact Drawn0.refl _|apply Drawn0.step)⟩
     ·rw [if_neg c6] at H;exact absurd H (by simp)
    ·rw [if_neg c5] at H;exact absurd H (by simp)
   ·rw [if_neg c4] at H;have c4b0 : decide (x11_1 < (l0.length : Int)) = false:=decide_eq_false c4;clear c4;obtain rfl:=Option.some.inj H;go_wp2
    go_ret
    exact ⟨by first|rfl|(simp;done)|(simp [*];done),by repeat (first|exact Drawn0.refl _|apply Drawn0.step)⟩
def spec_orRelation.f (k : Nat) (a0_0 : Int) (l0_1 : List Int) : Option (Bool) := (spec_l1In.f a0_0 0 10).bind fun t125 => (if t125 = true then (if (l0_1.length : Int) = a0_0 then (if 0 ≤ a0_0 then ((spec_l1All.f k l0_1 0 (wrap64 ((shl .i64 1 a0_0) - 1))).bind fun t126 => (some t126)) else (none)) else (some false)) else (some false))
set_option maxHeartbeats 8000000 in
set_option maxRecDepth 100000 in
theorem spec_orRelation.calls (k : Nat) (a0_0 : Int) (A0_1 : Option Addr) (c0_1 : Nat) (l0_1 : List Int) (r : Bool) (w : World) (hr0_1 : Kd.C (Kd.int .i64) w A0_1 l0_1.length l0_1) (hc0_1 : l0_1.length ≤ c0_1) (h : spec_orRelation.f k a0_0 l0_1 = some r) :
 Calls Tryd.prog 63 #[.agg #[.int .i64 a0_0,.slice A0_1 l0_1.length c0_1]] w fun e w'=>e = .returned (.bool r) ∧ Below w.heap.size w w':=by
 have hu26:=Tryd.underlying26;have HR0_1:=A_ hr0_1;have HC0_1:=A_ hc0_1;clear hr0_1 hc0_1;have HB:=A_ (Below.refl w.heap.size w);have H : ((spec_l1In.f a0_0 0 10).bind fun t125=>(if t125 = true then (if (l0_1.length : Int) = a0_0 then (if 0 ≤ a0_0 then ((spec_l1All.f k l0_1 0 (wrap64 ((shl .i64 1 a0_0) - 1))).bind fun t126=>(some t126)) else (none)) else (some false)) else (some false))) = some r:=h;clear h;replace H:=Option.bind_eq_some_iff.mp H;obtain ⟨t125,A20,H⟩:=H;replace H : (if t125 = true then (if (l0_1.length : Int) = a0_0 then (if 0 ≤ a0_0 then ((spec_l1All.f k l0_1 0 (wrap64 ((shl .i64 1 a0_0) - 1))).bind fun t126=>(some t126)) else (none)) else (some false)) else (some false)) = some r:=H;have A2:=A_ A20;clear A20;by_cases c3 : t125 = true
 ·subst c3;have H1 : (if (l0_1.length : Int) = a0_0 then (if 0 ≤ a0_0 then ((spec_l1All.f k l0_1 0 (wrap64 ((shl .i64 1 a0_0) - 1))).bind fun t126=>(some t126)) else (none)) else (some false)) = some r:=by rw [if_pos rfl] at H;exact H
  clear H;have H:=H1;clear H1;by_cases c4 : (l0_1.length : Int) = a0_0
  ·rw [if_pos c4] at H;have c4b0 : ((l0_1.length : Int) == a0_0) = true:=beq_iff_eq.mpr c4;have c4b1 : ((l0_1.length : Int) != a0_0) = false:=bne_eq_false_iff_eq.mpr c4;clear c4;by_cases c5 : 0 ≤ a0_0
   ·rw [if_pos c5] at H;have c5b0:=eq_true c5;have c5b1 : decide (0 ≤ a0_0) = true:=decide_eq_true c5;clear c5;obtain ⟨ji6,hji6⟩ : ∃ j_ : Int,(shl .i64 1 a0_0) = j_:=⟨_,rfl⟩;replace H : ((spec_l1All.f k l0_1 0 (wrap64 ((ji6) - 1))).bind fun t126=>(some t126)) = some r:=by first|(rw [hji6] at H;exact H)|(simp only [hji6] at H ⊢;exact H)
    (try rw [hji6] at A2);have hji6_ : (IntKind.i64.wrap (1 * 2 ^ min a0_0.toNat 64)) = ji6:=hji6;have hji6z : a0_0 ≤ 64 → (IntKind.i64.wrap (1 * 2 ^ a0_0.toNat)) = ji6:=shl_small hji6;have hji6u : (IntKind.i64.wrap (2 ^ min a0_0.toNat 64)) = ji6:=by have h_:=hji6_;rw [Int.one_mul] at h_;exact h_
    have hji6v : a0_0 ≤ 64 → (IntKind.i64.wrap (2 ^ a0_0.toNat)) = ji6:=fun hle_=>by have h_:=hji6z hle_;rw [Int.one_mul] at h_;exact h_
    have hji6y : (wrap64 (1 * 2 ^ min a0_0.toNat 64)) = ji6:=(i64_w _).symm.trans hji6_;have hji6x : a0_0 ≤ 64 → (wrap64 (1 * 2 ^ a0_0.toNat)) = ji6:=fun h_=>(i64_w _).symm.trans (hji6z h_)
    replace H:=Option.bind_eq_some_iff.mp H;obtain ⟨t126,A70,H⟩:=H;replace H : (some t126) = some r:=H;have A7:=A_ A70;clear A70;obtain rfl:=Option.some.inj H;go_enter Tryd.func63,Tryd.ntmps63
    go_wp2_with (first|((with_reducible refine gate_dst (N:=1) rfl ?_);(try (refine gate_guard (by rfl) ?_;dsimp only));refine box_event ?hg (N:=1) ?hd (cs:=#[.int .i64 a0_0,.slice A0_1 l0_1.length c0_1]) (t:=26) ?hr ?_;(case hd=>rfl);(case hg=>rfl);(case hr=>first|(go_simp;done)|(go_simp;rfl));intro gb124 hg w8 hbox hb;have BK124:=A_ (hbox);have GW124:=A_ ((by rw [hg];exact (below_size bb_) : w.heap.size ≤ gb124));have GE124:=A_ ((by rw [hg];exact (below_size bb_) : w.heap.size ≤ gb124));replace HB:=A_ (below_step bb_ hb);clear hb hbox hg;have hcz9_0 : w8.cell? ⟨gb124,0,none⟩ = some (.int .i64 a0_0):=blk_cell BK124.out 0;have hcz9_1 : w8.cell? ⟨gb124,1,none⟩ = some (.slice A0_1 l0_1.length c0_1):=blk_cell BK124.out 1;have hfz9_0:=blk_frozen BK124.out 0;have hfz9_1:=blk_frozen BK124.out 1)|(go_at_call 116;(with_reducible refine (spec_l1In.calls a0_0 0 10 true _ A2.out).mono ?_);rintro e w' ⟨rfl,⟨nd,rfl⟩⟩;(try first|exact ⟨rfl,_,World.drewN_drewN _ _ _⟩|exact ⟨rfl,_,Eq.trans (World.drewN_drewN _ _ _) (congrArg (World.drewN _) (Nat.add_assoc _ _ _))⟩))|(go_at_call 117;(with_reducible refine (spec_l1All.calls k _ _ l0_1 0 (wrap64 ((ji6) - 1)) t126 _ ?side1 ?side2 A7.out).mono ?_);(case side1=>exact cl_ (Kd.C_below HR0_1.out bb_));(case side2=>exact HC0_1.out);rintro e w' ⟨rfl,⟨nd,rfl⟩⟩;(try first|exact ⟨rfl,_,World.drewN_drewN _ _ _⟩|exact ⟨rfl,_,Eq.trans (World.drewN_drewN _ _ _) (congrArg (World.drewN _) (Nat.add_assoc _ _ _))⟩)))
    repeat (go_quiet (first|((with_reducible refine gate_dst (N:=1) rfl ?_);(try (refine gate_guard (by rfl) ?_;dsimp only));refine box_event ?hg (N:=1) ?hd (cs:=#[.int .i64 a0_0,.slice A0_1 l0_1.length c0_1]) (t:=26) ?hr ?_;(case hd=>rfl);(case hg=>rfl);(case hr=>first|(go_simp;done)|(go_simp;rfl));intro gb124 hg w8 hbox hb;have BK124:=A_ (hbox);have GW124:=A_ ((by rw [hg];exact (below_size bb_) : w.heap.size ≤ gb124));have GE124:=A_ ((by rw [hg];exact (below_size bb_) : w.heap.size ≤ gb124));replace HB:=A_ (below_step bb_ hb);clear hb hbox hg;have hcz9_0 : w8.cell? ⟨gb124,0,none⟩ = some (.int .i64 a0_0):=blk_cell BK124.out 0;have hcz9_1 : w8.cell? ⟨gb124,1,none⟩ = some (.slice A0_1 l0_1.length c0_1):=blk_cell BK124.out 1;have hfz9_0:=blk_frozen BK124.out 0;have hfz9_1:=blk_frozen BK124.out 1)|(go_at_call 116;(with_reducible refine (spec_l1In.calls a0_0 0 10 true _ A2.out).mono ?_);rintro e w' ⟨rfl,⟨nd,rfl⟩⟩;(try first|exact ⟨rfl,_,World.drewN_drewN _ _ _⟩|exact ⟨rfl,_,Eq.trans (World.drewN_drewN _ _ _) (congrArg (World.drewN _) (Nat.add_assoc _ _ _))⟩))|(go_at_call 117;(with_reducible refine (spec_l1All.calls k _ _ l0_1 0 (wrap64 ((ji6) - 1)) t126 _ ?side1 ?side2 A7.out).mono ?_);(case side1=>exact cl_ (Kd.C_below HR0_1.out bb_));(case side2=>exact HC0_1.out);rintro e w' ⟨rfl,⟨nd,rfl⟩⟩;(try first|exact ⟨rfl,_,World.drewN_drewN _ _ _⟩|exact ⟨rfl,_,Eq.trans (World.drewN_drewN _ _ _) (congrArg (World.drewN _) (Nat.add_assoc _ _ _))⟩)));try go_wp2_with (first|((with_reducible refine gate_dst (N:=1) rfl ?_);(try (refine gate_guard (by rfl) ?_;dsimp only));refine box_event ?hg (N:=1) ?hd (cs:=#[.int .i64 a0_0,.slice A0_1 l0_1.length c0_1]) (t:=26) ?hr ?_;(case hd=>rfl);(case hg=>rfl);(case hr=>first|(go_simp;done)|(go_simp;rfl));intro gb124 hg w8 hbox hb;have BK124:=A_ (hbox);have GW124:=A_ ((by rw [hg];exact (below_size bb_) : w.heap.size ≤ gb124));have GE124:=A_ ((by rw [hg];exact (below_size bb_) : w.heap.size ≤ gb124));replace HB:=A_ (below_step bb_ hb);clear hb hbox hg;have hcz9_0 : w8.cell? ⟨gb124,0,none⟩ = some (.int .i64 a0_0):=blk_cell BK124.out 0;have hcz9_1 : w8.cell? ⟨gb124,1,none⟩ = some (.slice A0_1 l0_1.length c0_1):=blk_cell BK124.out 1;have hfz9_0:=blk_frozen BK124.out 0;have hfz9_1:=blk_frozen BK124.out 1)|(go_at_call 116;(with_reducible refine (spec_l1In.calls a0_0 0 10 true _ A2.out).mono ?_);rintro e w' ⟨rfl,⟨nd,rfl⟩⟩;(try first|exact ⟨rfl,_,World.drewN_drewN _ _ _⟩|exact ⟨rfl,_,Eq.trans (World.drewN_drewN _ _ _) (congrArg (World.drewN _) (Nat.add_assoc _ _ _))⟩))|(go_at_call 117;(with_reducible refine (spec_l1All.calls k _ _ l0_1 0 (wrap64 ((ji6) - 1)) t126 _ ?side1 ?side2 A7.out).mono ?_);(case side1=>exact cl_ (Kd.C_below HR0_1.out bb_));(case side2=>exact HC0_1.out);rintro e w' ⟨rfl,⟨nd,rfl⟩⟩;(try first|exact ⟨rfl,_,World.drewN_drewN _ _ _⟩|exact ⟨rfl,_,Eq.trans (World.drewN_drewN _ _ _) (congrArg (World.drewN _) (Nat.add_assoc _ _ _))⟩))))
    go_ret
    exact ⟨by first|rfl|(simp [errW_none,errW_some] <;> rfl)|(simp only [← hji6];first|rfl|(simp [errW_none,errW_some] <;> rfl))|(simp [*,errW_none,errW_some] <;> rfl),bb_⟩
   ·rw [if_neg c5] at H;exact absurd H (by simp)
  ·rw [if_neg c4] at H;have c4b0 : ((l0_1.length : Int) == a0_0) = false:=beq_eq_false_iff_ne.mpr c4;have c4b1 : ((l0_1.length : Int) != a0_0) = true:=bne_iff_ne.mpr c4;obtain rfl:=Option.some.inj H;go_enter Tryd.func63,Tryd.ntmps63
   go_wp2_with (first|((with_reducible refine gate_dst (N:=1) rfl ?_);(try (refine gate_guard (by rfl) ?_;dsimp only));refine box_event ?hg (N:=1) ?hd (cs:=#[.int .i64 a0_0,.slice A0_1 l0_1.length c0_1]) (t:=26) ?hr ?_;(case hd=>rfl);(case hg=>rfl);(case hr=>first|(go_simp;done)|(go_simp;rfl));intro gb124 hg w10 hbox hb;have BK124:=A_ (hbox);have GW124:=A_ ((by rw [hg];exact (below_size bb_) : w.heap.size ≤ gb124));have GE124:=A_ ((by rw [hg];exact (below_size bb_) : w.heap.size ≤ gb124));replace HB:=A_ (below_step bb_ hb);clear hb hbox hg;have hcz11_0 : w10.cell? ⟨gb124,0,none⟩ = some (.int .i64 a0_0):=blk_cell BK124.out 0;have hcz11_1 : w10.cell? ⟨gb124,1,none⟩ = some (.slice A0_1 l0_1.length c0_1):=blk_cell BK124.out 1;have hfz11_0:=blk_frozen BK124.out 0;have hfz11_1:=blk_frozen BK124.out 1)|(go_at_call 116;(with_reducible refine (spec_l1In.calls a0_0 0 10 true _ A2.out).mono ?_);rintro e w' ⟨rfl,⟨nd,rfl⟩⟩;(try first|exact ⟨rfl,_,World.drewN_drewN _ _ _⟩|exact ⟨rfl,_,Eq.trans (World.drewN_drewN _ _ _) (congrArg (World.drewN _) (Nat.add_assoc _ _ _))⟩)))
   repeat (go_quiet (first|((with_reducible refine gate_dst (N:=1) rfl ?_);(try (refine gate_guard (by rfl) ?_;dsimp only));refine box_event ?hg (N:=1) ?hd (cs:=#[.int .i64 a0_0,.slice A0_1 l0_1.length c0_1]) (t:=26) ?hr ?_;(case hd=>rfl);(case hg=>rfl);(case hr=>first|(go_simp;done)|(go_simp;rfl));intro gb124 hg w10 hbox hb;have BK124:=A_ (hbox);have GW124:=A_ ((by rw [hg];exact (below_size bb_) : w.heap.size ≤ gb124));have GE124:=A_ ((by rw [hg];exact (below_size bb_) : w.heap.size ≤ gb124));replace HB:=A_ (below_step bb_ hb);clear hb hbox hg;have hcz11_0 : w10.cell? ⟨gb124,0,none⟩ = some (.int .i64 a0_0):=blk_cell BK124.out 0;have hcz11_1 : w10.cell? ⟨gb124,1,none⟩ = some (.slice A0_1 l0_1.length c0_1):=blk_cell BK124.out 1;have hfz11_0:=blk_frozen BK124.out 0;have hfz11_1:=blk_frozen BK124.out 1)|(go_at_call 116;(with_reducible refine (spec_l1In.calls a0_0 0 10 true _ A2.out).mono ?_);rintro e w' ⟨rfl,⟨nd,rfl⟩⟩;(try first|exact ⟨rfl,_,World.drewN_drewN _ _ _⟩|exact ⟨rfl,_,Eq.trans (World.drewN_drewN _ _ _) (congrArg (World.drewN _) (Nat.add_assoc _ _ _))⟩)));try go_wp2_with (first|((with_reducible refine gate_dst (N:=1) rfl ?_);(try (refine gate_guard (by rfl) ?_;dsimp only));refine box_event ?hg (N:=1) ?hd (cs:=#[.int .i64 a0_0,.slice A0_1 l0_1.length c0_1]) (t:=26) ?hr ?_;(case hd=>rfl);(case hg=>rfl);(case hr=>first|(go_simp;done)|(go_simp;rfl));intro gb124 hg w10 hbox hb;have BK124:=A_ (hbox);have GW124:=A_ ((by rw [hg];exact (below_size bb_) : w.heap.size ≤ gb124));have GE124:=A_ ((by rw [hg];exact (below_size bb_) : w.heap.size ≤ gb124));replace HB:=A_ (below_step bb_ hb);clear hb hbox hg;have hcz11_0 : w10.cell? ⟨gb124,0,none⟩ = some (.int .i64 a0_0):=blk_cell BK124.out 0;have hcz11_1 : w10.cell? ⟨gb124,1,none⟩ = some (.slice A0_1 l0_1.length c0_1):=blk_cell BK124.out 1;have hfz11_0:=blk_frozen BK124.out 0;have hfz11_1:=blk_frozen BK124.out 1)|(go_at_call 116;(with_reducible refine (spec_l1In.calls a0_0 0 10 true _ A2.out).mono ?_);rintro e w' ⟨rfl,⟨nd,rfl⟩⟩;(try first|exact ⟨rfl,_,World.drewN_drewN _ _ _⟩|exact ⟨rfl,_,Eq.trans (World.drewN_drewN _ _ _) (congrArg (World.drewN _) (Nat.add_assoc _ _ _))⟩))))
   go_ret
   exact ⟨by first|rfl|(simp [errW_none,errW_some] <;> rfl)|(simp [*,errW_none,errW_some] <;> rfl),bb_⟩
 ·replace c3:=Bool.eq_false_iff.mpr c3;subst c3;have H1 : (some false) = some r:=by rw [if_neg (show ¬ (false = true) by decide)] at H;exact H
  clear H;have H:=H1;clear H1;obtain rfl:=Option.some.inj H;go_enter Tryd.func63,Tryd.ntmps63
  go_wp2_with (first|((with_reducible refine gate_dst (N:=1) rfl ?_);(try (refine gate_guard (by rfl) ?_;dsimp only));refine box_event ?hg (N:=1) ?hd (cs:=#[.int .i64 a0_0,.slice A0_1 l0_1.length c0_1]) (t:=26) ?hr ?_;(case hd=>rfl);(case hg=>rfl);(case hr=>first|(go_simp;done)|(go_simp;rfl));intro gb124 hg w12 hbox hb;have BK124:=A_ (hbox);have GW124:=A_ ((by rw [hg];exact (below_size bb_) : w.heap.size ≤ gb124));have GE124:=A_ ((by rw [hg];exact (below_size bb_) : w.heap.size ≤ gb124));replace HB:=A_ (below_step bb_ hb);clear hb hbox hg;have hcz13_0 : w12.cell? ⟨gb124,0,none⟩ = some (.int .i64 a0_0):=blk_cell BK124.out 0;have hcz13_1 : w12.cell? ⟨gb124,1,none⟩ = some (.slice A0_1 l0_1.length c0_1):=blk_cell BK124.out 1;have hfz13_0:=blk_frozen BK124.out 0;have hfz13_1:=blk_frozen BK124.out 1)|(go_at_call 116;(with_reducible refine (spec_l1In.calls a0_0 0 10 false _ A2.out).mono ?_);rintro e w' ⟨rfl,⟨nd,rfl⟩⟩;(try first|exact ⟨rfl,_,World.drewN_drewN _ _ _⟩|exact ⟨rfl,_,Eq.trans (World.drewN_drewN _ _ _) (congrArg (World.drewN _) (Nat.add_assoc _ _ _))⟩)))
  repeat (go_quiet (first|((with_reducible refine gate_dst (N:=1) rfl ?_);(try (refine gate_guard (by rfl) ?_;dsimp only));refine box_event ?hg (N:=1) ?hd (cs:=#[.int .i64 a0_0,.slice A0_1 l0_1.length c0_1]) (t:=26) ?hr ?_;(case hd=>rfl);(case hg=>rfl);(case hr=>first|(go_simp;done)|(go_simp;rfl));intro gb124 hg w12 hbox hb;have BK124:=A_ (hbox);have GW124:=A_ ((by rw [hg];exact (below_size bb_) : w.heap.size ≤ gb124));have GE124:=A_ ((by rw [hg];exact (below_size bb_) : w.heap.size ≤ gb124));replace HB:=A_ (below_step bb_ hb);clear hb hbox hg;have hcz13_0 : w12.cell? ⟨gb124,0,none⟩ = some (.int .i64 a0_0):=blk_cell BK124.out 0;have hcz13_1 : w12.cell? ⟨gb124,1,none⟩ = some (.slice A0_1 l0_1.length c0_1):=blk_cell BK124.out 1;have hfz13_0:=blk_frozen BK124.out 0;have hfz13_1:=blk_frozen BK124.out 1)|(go_at_call 116;(with_reducible refine (spec_l1In.calls a0_0 0 10 false _ A2.out).mono ?_);rintro e w' ⟨rfl,⟨nd,rfl⟩⟩;(try first|exact ⟨rfl,_,World.drewN_drewN _ _ _⟩|exact ⟨rfl,_,Eq.trans (World.drewN_drewN _ _ _) (congrArg (World.drewN _) (Nat.add_assoc _ _ _))⟩)));try go_wp2_with (first|((with_reducible refine gate_dst (N:=1) rfl ?_);(try (refine gate_guard (by rfl) ?_;dsimp only));refine box_event ?hg (N:=1) ?hd (cs:=#[.int .i64 a0_0,.slice A0_1 l0_1.length c0_1]) (t:=26) ?hr ?_;(case hd=>rfl);(case hg=>rfl);(case hr=>first|(go_simp;done)|(go_simp;rfl));intro gb124 hg w12 hbox hb;have BK124:=A_ (hbox);have GW124:=A_ ((by rw [hg];exact (below_size bb_) : w.heap.size ≤ gb124));have GE124:=A_ ((by rw [hg];exact (below_size bb_) : w.heap.size ≤ gb124));replace HB:=A_ (below_step bb_ hb);clear hb hbox hg;have hcz13_0 : w12.cell? ⟨gb124,0,none⟩ = some (.int .i64 a0_0):=blk_cell BK124.out 0;have hcz13_1 : w12.cell? ⟨gb124,1,none⟩ = some (.slice A0_1 l0_1.length c0_1):=blk_cell BK124.out 1;have hfz13_0:=blk_frozen BK124.out 0;have hfz13_1:=blk_frozen BK124.out 1)|(go_at_call 116;(with_reducible refine (spec_l1In.calls a0_0 0 10 false _ A2.out).mono ?_);rintro e w' ⟨rfl,⟨nd,rfl⟩⟩;(try first|exact ⟨rfl,_,World.drewN_drewN _ _ _⟩|exact ⟨rfl,_,Eq.trans (World.drewN_drewN _ _ _) (congrArg (World.drewN _) (Nat.add_assoc _ _ _))⟩))))
  go_ret
  exact ⟨by first|rfl|(simp [errW_none,errW_some] <;> rfl)|(simp [*,errW_none,errW_some] <;> rfl),bb_⟩
def spec_l1Own.f (l0 : List Int) : Option (List Int) := (some (([] : List Int) : List Int)).bind fun y127 => (if y127.length + l0.length < 17592186044416 then (some (y127 ++ l0)) else (none))
set_option maxHeartbeats 8000000 in
set_option maxRecDepth 100000 in
theorem spec_l1Own.calls (A0 : Option Addr) (c0 : Nat) (l0 : List Int) (r : List Int) (w : World) (hr0 : Kd.C (Kd.int .i64) w A0 l0.length l0) (hc0 : l0.length ≤ c0) (h : spec_l1Own.f l0 = some r) :
 Calls Tryd.prog 64 #[.slice A0 l0.length c0] w fun e w'=>∃ v0_ : Value,e = .returned (v0_) ∧ Kd.R (Kd.int .i64) 3 w' w.heap.size (fun _=>True) v0_ r ∧ Below w.heap.size w w':=by
 have HR0:=A_ hr0;have HC0:=A_ hc0;clear hr0 hc0;have HB:=A_ (Below.refl w.heap.size w);have H : ((some (([] : List Int) : List Int)).bind fun y127=>(if y127.length + l0.length < 17592186044416 then (some (y127 ++ l0)) else (none))) = some r:=h;clear h;obtain ⟨y127,hy127⟩ : ∃ y_ : List Int,y_ = (([] : List Int)):=⟨_,rfl⟩;replace H : (if y127.length + l0.length < 17592186044416 then (some (y127 ++ l0)) else (none)) = some r:=by first|(rw [hy127];with_reducible exact H)|(have H2_:=(Option.bind_some _ _).symm.trans H;rw [hy127];with_reducible exact H2_)|(have H2_:=(Option.bind_some _ _).symm.trans H;with_reducible exact H2_)|with_reducible exact H|(rw [hy127];exact H)|exact H
 have Ny127:=A_ hy127;clear hy127;by_cases c2 : y127.length + l0.length < 17592186044416
 ·rw [if_pos c2] at H;have LMc2:=A_ c2;clear c2;obtain ⟨y130,hy130⟩ : ∃ y_ : List Int,y_ = (y127 ++ l0):=⟨_,rfl⟩;replace H : (some y130) = some r:=by first|(rw [hy130];with_reducible exact H)|(have H2_:=(Option.bind_some _ _).symm.trans H;rw [hy130];with_reducible exact H2_)|(have H2_:=(Option.bind_some _ _).symm.trans H;with_reducible exact H2_)|with_reducible exact H|(rw [hy130];exact H)|exact H
  have Ny130:=A_ hy130;clear hy130;obtain rfl:=Option.some.inj H;go_enter Tryd.func64,Tryd.ntmps64
  go_wp2_with (first|((with_reducible refine gate_dst (N:=3) rfl ?_);refine Kd.R_lit (Kd.int .i64) _ 3 ?hg (N:=3) ?hd (xs:=([] : List Int)) (inner:=[]) (ok:=fun _=>True) (okp:=fun _=>True) ?hr ?hp (fun _ hk=>hk) trivial (Below.refl _ _) (Nat.le_refl _) (by simp) ?_;(case hd=>rfl);(case hg=>rfl);(case hr=>first|(go_simp;done)|(go_simp;rfl));(case hp=>exact (Reps.none _ _));intro v128 w3 ho4 hb hg_ hnew_;clear hg_ hnew_;(first|rw [← Ny127.out] at ho4|(simp only [Int.reduceToNat] at ho4;rw [← Ny127.out] at ho4));have HO129:=A_ (Kd.R_lower ho4 (below_size bb_));replace HB:=A_ (below_step bb_ hb);clear hb ho4)|((with_reducible refine gate_builtin (b:=.append) (xs:=#[.tmp 3,.tmp 4]) rfl ?_);at_builtin;refine Kd.R_append_rows (Kd.int .i64) (w0:=w) w.heap.size rfl (.tmp 3) (.tmp 4) 24 3 (.int .i64 0) 8 rfl Tryd.underlying24 info3 rfl (by decide) (by omega) v128 y127 l0 _ _ _ (fun _=>True) (fun _=>False) rfl rfl ?aO ?aR (fun _ _ h=>h) (fun _ h=>h.elim) ?aF ?aB ?aS ?aL ?_;(case aR=>exact cl_ (Kd.C_below HR0.out HB.out));(case aB=>exact bb_);(case aF=>exact (fun _ _=>trivial));(case aO=>exact (rl_ HO129));(case aS=>exact (below_size bb_));(case aL=>have:=LMc2.out;omega);intro v131 w5 ho hb hg hat;rw [← Ny130.out] at ho;replace HB:=A_ (hb);have HO132:=A_ (ho);clear HO129;clear ho hb hg hat))
  go_ret
  exact ⟨_,by first|rfl|(simp [errW_none,errW_some] <;> rfl)|(simp [*,errW_none,errW_some] <;> rfl),by (with_reducible repeat (first|apply Kd.R_alloc|apply Kd.R_drewN|apply Kd.R_drew));exact HO132.out,bb_⟩
 ·rw [if_neg c2] at H;exact absurd H (by simp)
def spec_orHas.f (a0 : Int) (a1 : Int) : Option (Bool) := if 0 ≤ a1 then (some ((Int.tmod (shr .i64 a0 a1) 2) == 1)) else (none)
set_option maxHeartbeats 8000000 in
set_option maxRecDepth 100000 in
theorem spec_orHas.calls (a0 : Int) (a1 : Int) (r : Bool) (w : World) (h : spec_orHas.f a0 a1 = some r) :
 Calls Tryd.prog 65 #[.int .i64 a0,.int .i64 a1] w fun e w'=>e = .returned (.bool r) ∧ Drawn0 w w':=by
 have H : (if 0 ≤ a1 then (some ((Int.tmod (shr .i64 a0 a1) 2) == 1)) else (none)) = some r:=h;clear h;by_cases c3 : 0 ≤ a1
 ·rw [if_pos c3] at H;have c3b0:=eq_true c3;have c3b1 : decide (0 ≤ a1) = true:=decide_eq_true c3;clear c3;obtain ⟨ji4,hji4⟩ : ∃ j_ : Int,(shr .i64 a0 a1) = j_:=⟨_,rfl⟩;replace H : (some ((Int.tmod (ji4) 2) == 1)) = some r:=by first|(rw [hji4] at H;exact H)|(simp only [hji4] at H ⊢;exact H)
  have hji4_ : (a0 / 2 ^ min a1.toNat 64) = ji4:=hji4;have hji4z : a1 ≤ 64 → (a0 / 2 ^ a1.toNat) = ji4:=shr_small hji4;obtain rfl:=Option.some.inj H;go_enter Tryd.func65,Tryd.ntmps65
  go_wp2
  go_ret
  exact ⟨by first|rfl|(simp;done)|(simp only [← hji4] <;> (first|rfl|simp))|(simp [*];done),by repeat (first|exact Drawn0.refl _|apply Drawn0.step)⟩
 ·rw [if_neg c3] at H;exact absurd H (by simp)
end Go.Proofs.YtfjpilcmjabikaaDoor.P

