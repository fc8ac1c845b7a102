/- A part of the proof that the law FnExactStairOf holds at every input. Written by wip/pack.py: the kit's printed words that are used, the functions' walks as wip/gen.py prints them, and hand proofs. -/
import Derived.Test.YtimjblnglhmakaaDoorKFnExactStairOf0
namespace Go.Proofs.YtimjblnglhmakaaDoor.P
open Go.RowKit Go.Proofs.YtimjblnglhmakaaDoorW.PrintWords Go.Proofs.YtimjblnglhmakaaDoorW.PrintLast Go.Proofs.YtimjblnglhmakaaDoorW.PrintMore
open Bool renaming true → T, false → F
open List renaming setIfInBounds_toArray → L_, set_cons_zero → M_, set_cons_succ → N_, map_toArray → P_, map_cons → Q_, map_nil → R_, length_drop → S_, length_take → U_
open Aside0 renaming mk → A_
attribute [local go_sem] max2_int min2_int max_two min_two max_three min_three max_four min_four
set_option linter.unusedVariables false
set_option linter.unusedSimpArgs false
attribute [local go_sem] fldOrder_0 fldOrder_1
def spec_seGood.f (k : Nat) (a0_0 : Int) (l0_1 : List Int) : Option (Bool) := (spec_ThreeOneOf.f k a0_0 l0_1).bind fun bt166 => ((spec_orGood.f k a0_0 l0_1).bind fun t170 => (if t170 = true then (if bt166.2 = true then (some false) else ((spec_seTwoTwo.f k a0_0 l0_1).bind fun t171 => (some (!t171)))) else (some false)))
set_option maxHeartbeats 8000000 in
set_option maxRecDepth 100000 in
theorem spec_seGood.calls (k : Nat) (a0_0 : Int) (A0_1 : Option Addr) (c0_1 : Nat) (l0_1 : List Int) (r : Bool) (w : World) (hr0_1 : Kd.C (Kd.int .i64) w A0_1 l0_1.length l0_1) (hc0_1 : l0_1.length ≤ c0_1) (h : spec_seGood.f k a0_0 l0_1 = some r) :
 Calls Tryd.prog 105 #[.agg #[.int .i64 a0_0,.slice A0_1 l0_1.length c0_1]] w fun e w'=>e = .returned (.bool r) ∧ Below w.heap.size w w':=by
 have hu28:=Tryd.underlying28;have HR0_1:=A_ hr0_1;have HC0_1:=A_ hc0_1;clear hr0_1 hc0_1;have HB:=A_ (Below.refl w.heap.size w);have H : ((spec_ThreeOneOf.f k a0_0 l0_1).bind fun bt166=>((spec_orGood.f k a0_0 l0_1).bind fun t170=>(if t170 = true then (if bt166.2 = true then (some false) else ((spec_seTwoTwo.f k a0_0 l0_1).bind fun t171=>(some (!t171)))) else (some false)))) = some r:=h;clear h;replace H:=Option.bind_eq_some_iff.mp H;obtain ⟨⟨t166,t169⟩,A20,H⟩:=H;replace H : ((spec_orGood.f k a0_0 l0_1).bind fun t170=>(if t170 = true then (if t169 = true then (some false) else ((spec_seTwoTwo.f k a0_0 l0_1).bind fun t171=>(some (!t171)))) else (some false))) = some r:=H;have A2:=A_ A20;clear A20;replace H:=Option.bind_eq_some_iff.mp H;obtain ⟨t170,A30,H⟩:=H;replace H : (if t170 = true then (if t169 = true then (some false) else ((spec_seTwoTwo.f k a0_0 l0_1).bind fun t171=>(some (!t171)))) else (some false)) = some r:=H;have A3:=A_ A30;clear A30;by_cases c4 : t170 = true
 ·subst c4;have H1 : (if t169 = true then (some false) else ((spec_seTwoTwo.f k a0_0 l0_1).bind fun t171=>(some (!t171)))) = some r:=by rw [if_pos rfl] at H;exact H
  clear H;have H:=H1;clear H1;by_cases c5 : t169 = true
  ·subst c5;have H1 : (some false) = some r:=by rw [if_pos rfl] at H;exact H
   clear H;have H:=H1;clear H1;obtain rfl:=Option.some.inj H;go_enter Tryd.func105,Tryd.ntmps105
   go_wp2_with (first|((with_reducible refine gate_dst (N:=1) rfl ?_);refine box_event ?hg (N:=1) ?hd (cs:=#[.int .i64 a0_0,.slice A0_1 l0_1.length c0_1]) (t:=28) ?hr ?_;(case hd=>rfl);(case hg=>rfl);(case hr=>first|(go_simp;done)|(go_simp;rfl));intro gb165 hg w6 hbox hb;have BK165:=A_ (hbox);have GW165:=A_ ((by rw [hg];exact (below_size bb_) : w.heap.size ≤ gb165));have GE165:=A_ ((by rw [hg];exact (below_size bb_) : w.heap.size ≤ gb165));replace HB:=A_ (below_step bb_ hb);clear hb hbox hg;have hcz7_0 : w6.cell? ⟨gb165,0,none⟩ = some (.int .i64 a0_0):=blk_cell BK165.out 0;have hcz7_1 : w6.cell? ⟨gb165,1,none⟩ = some (.slice A0_1 l0_1.length c0_1):=blk_cell BK165.out 1;have hfz7_0:=blk_frozen BK165.out 0;have hfz7_1:=blk_frozen BK165.out 1)|((with_reducible refine gate_callee (f:=185) rfl ?_);refine goesL_ (some 7) rfl rfl Tryd.func185 (by kernel_rfl) rfl #[.agg #[.int .i64 a0_0,.slice A0_1 l0_1.length c0_1]] rfl au_ ?_;(with_reducible refine (spec_ThreeOneOf.calls k a0_0 _ _ l0_1 t166 true _ ?side1 ?side2 A2.out).mono ?_);(case side1=>exact cl_ (Kd.C_below HR0_1.out HB.out));(case side2=>exact HC0_1.out);rintro e w8 ⟨v167,rfl,ho0,hb⟩;refine ⟨_,rfl,?_⟩;have HO168:=A_ (Kd.R_lower ho0 (below_size bb_));replace BK165:=bz BK165 hb;replace HB:=A_ (below_step bb_ hb);(try clear hb);(try clear hb2);(try clear hk);(try clear hi);(try clear ho0);have hcz9_0 : w8.cell? ⟨gb165,0,none⟩ = some (.int .i64 a0_0):=blk_cell BK165.out 0;have hcz9_1 : w8.cell? ⟨gb165,1,none⟩ = some (.slice A0_1 l0_1.length c0_1):=blk_cell BK165.out 1;have hfz9_0:=blk_frozen BK165.out 0;have hfz9_1:=blk_frozen BK165.out 1)|((with_reducible refine gate_callee (f:=142) rfl ?_);refine goesL_ (some 11) rfl rfl Tryd.func142 (by kernel_rfl) rfl #[.agg #[.int .i64 a0_0,.slice A0_1 l0_1.length c0_1]] rfl au_ ?_;(with_reducible refine (spec_orGood.calls k a0_0 _ _ l0_1 true _ ?side1 ?side2 A3.out).mono ?_);(case side1=>exact cl_ (Kd.C_below HR0_1.out HB.out));(case side2=>exact HC0_1.out);rintro e w10 ⟨rfl,hb⟩;refine ⟨_,rfl,?_⟩;replace HO168:=rb_ HO168 hb;replace BK165:=bz BK165 hb;replace HB:=A_ (below_step bb_ hb);(try clear hb);(try clear hb2);(try clear hk);(try clear hi)))
   go_ret
   exact ⟨by first|rfl|(simp [errW_none,errW_some] <;> rfl)|(simp [*,errW_none,errW_some] <;> rfl),bb_⟩
  ·replace c5:=Bool.eq_false_iff.mpr c5;subst c5;have H1 : ((spec_seTwoTwo.f k a0_0 l0_1).bind fun t171=>(some (!t171))) = some r:=by rw [if_neg (show ¬ (false = true) by decide)] at H;exact H
   clear H;have H:=H1;clear H1;replace H:=Option.bind_eq_some_iff.mp H;obtain ⟨t171,A110,H⟩:=H;replace H : (some (!t171)) = some r:=H;have A11:=A_ A110;clear A110;obtain rfl:=Option.some.inj H;go_enter Tryd.func105,Tryd.ntmps105
   go_wp2_with (first|((with_reducible refine gate_dst (N:=1) rfl ?_);refine box_event ?hg (N:=1) ?hd (cs:=#[.int .i64 a0_0,.slice A0_1 l0_1.length c0_1]) (t:=28) ?hr ?_;(case hd=>rfl);(case hg=>rfl);(case hr=>first|(go_simp;done)|(go_simp;rfl));intro gb165 hg w12 hbox hb;have BK165:=A_ (hbox);have GW165:=A_ ((by rw [hg];exact (below_size bb_) : w.heap.size ≤ gb165));have GE165:=A_ ((by rw [hg];exact (below_size bb_) : w.heap.size ≤ gb165));replace HB:=A_ (below_step bb_ hb);clear hb hbox hg;have hcz13_0 : w12.cell? ⟨gb165,0,none⟩ = some (.int .i64 a0_0):=blk_cell BK165.out 0;have hcz13_1 : w12.cell? ⟨gb165,1,none⟩ = some (.slice A0_1 l0_1.length c0_1):=blk_cell BK165.out 1;have hfz13_0:=blk_frozen BK165.out 0;have hfz13_1:=blk_frozen BK165.out 1)|((with_reducible refine gate_callee (f:=185) rfl ?_);refine goesL_ (some 7) rfl rfl Tryd.func185 (by kernel_rfl) rfl #[.agg #[.int .i64 a0_0,.slice A0_1 l0_1.length c0_1]] rfl au_ ?_;(with_reducible refine (spec_ThreeOneOf.calls k a0_0 _ _ l0_1 t166 false _ ?side1 ?side2 A2.out).mono ?_);(case side1=>exact cl_ (Kd.C_below HR0_1.out HB.out));(case side2=>exact HC0_1.out);rintro e w14 ⟨v167,rfl,ho0,hb⟩;refine ⟨_,rfl,?_⟩;have HO168:=A_ (Kd.R_lower ho0 (below_size bb_));replace BK165:=bz BK165 hb;replace HB:=A_ (below_step bb_ hb);(try clear hb);(try clear hb2);(try clear hk);(try clear hi);(try clear ho0);have hcz15_0 : w14.cell? ⟨gb165,0,none⟩ = some (.int .i64 a0_0):=blk_cell BK165.out 0;have hcz15_1 : w14.cell? ⟨gb165,1,none⟩ = some (.slice A0_1 l0_1.length c0_1):=blk_cell BK165.out 1;have hfz15_0:=blk_frozen BK165.out 0;have hfz15_1:=blk_frozen BK165.out 1)|((with_reducible refine gate_callee (f:=142) rfl ?_);refine goesL_ (some 11) rfl rfl Tryd.func142 (by kernel_rfl) rfl #[.agg #[.int .i64 a0_0,.slice A0_1 l0_1.length c0_1]] rfl au_ ?_;(with_reducible refine (spec_orGood.calls k a0_0 _ _ l0_1 true _ ?side1 ?side2 A3.out).mono ?_);(case side1=>exact cl_ (Kd.C_below HR0_1.out HB.out));(case side2=>exact HC0_1.out);rintro e w16 ⟨rfl,hb⟩;refine ⟨_,rfl,?_⟩;replace HO168:=rb_ HO168 hb;replace BK165:=bz BK165 hb;replace HB:=A_ (below_step bb_ hb);(try clear hb);(try clear hb2);(try clear hk);(try clear hi);have hcz17_0 : w16.cell? ⟨gb165,0,none⟩ = some (.int .i64 a0_0):=blk_cell BK165.out 0;have hcz17_1 : w16.cell? ⟨gb165,1,none⟩ = some (.slice A0_1 l0_1.length c0_1):=blk_cell BK165.out 1;have hfz17_0:=blk_frozen BK165.out 0;have hfz17_1:=blk_frozen BK165.out 1)|(go_at_call 186;(with_reducible refine (spec_seTwoTwo.calls k a0_0 _ _ l0_1 t171 _ ?side1 ?side2 A11.out).mono ?_);(case side1=>exact cl_ (Kd.C_below HR0_1.out HB.out));(case side2=>exact HC0_1.out);rintro e w18 ⟨rfl,hb⟩;replace HO168:=rb_ HO168 hb;replace BK165:=bz BK165 hb;replace HB:=A_ (below_step bb_ hb);(try clear hb);(try clear hb2);(try clear hk);(try clear hi)))
   go_ret
   exact ⟨by first|rfl|(simp [errW_none,errW_some] <;> rfl)|(simp [*,errW_none,errW_some] <;> rfl),bb_⟩
 ·replace c4:=Bool.eq_false_iff.mpr c4;subst c4;have H1 : (some false) = some r:=by rw [if_neg (show ¬ (false = true) by decide)] at H;exact H
  clear H;have H:=H1;clear H1;obtain rfl:=Option.some.inj H;go_enter Tryd.func105,Tryd.ntmps105
  go_wp2_with (first|((with_reducible refine gate_dst (N:=1) rfl ?_);refine box_event ?hg (N:=1) ?hd (cs:=#[.int .i64 a0_0,.slice A0_1 l0_1.length c0_1]) (t:=28) ?hr ?_;(case hd=>rfl);(case hg=>rfl);(case hr=>first|(go_simp;done)|(go_simp;rfl));intro gb165 hg w19 hbox hb;have BK165:=A_ (hbox);have GW165:=A_ ((by rw [hg];exact (below_size bb_) : w.heap.size ≤ gb165));have GE165:=A_ ((by rw [hg];exact (below_size bb_) : w.heap.size ≤ gb165));replace HB:=A_ (below_step bb_ hb);clear hb hbox hg;have hcz20_0 : w19.cell? ⟨gb165,0,none⟩ = some (.int .i64 a0_0):=blk_cell BK165.out 0;have hcz20_1 : w19.cell? ⟨gb165,1,none⟩ = some (.slice A0_1 l0_1.length c0_1):=blk_cell BK165.out 1;have hfz20_0:=blk_frozen BK165.out 0;have hfz20_1:=blk_frozen BK165.out 1)|((with_reducible refine gate_callee (f:=185) rfl ?_);refine goesL_ (some 7) rfl rfl Tryd.func185 (by kernel_rfl) rfl #[.agg #[.int .i64 a0_0,.slice A0_1 l0_1.length c0_1]] rfl au_ ?_;(with_reducible refine (spec_ThreeOneOf.calls k a0_0 _ _ l0_1 t166 t169 _ ?side1 ?side2 A2.out).mono ?_);(case side1=>exact cl_ (Kd.C_below HR0_1.out HB.out));(case side2=>exact HC0_1.out);rintro e w21 ⟨v167,rfl,ho0,hb⟩;refine ⟨_,rfl,?_⟩;have HO168:=A_ (Kd.R_lower ho0 (below_size bb_));replace BK165:=bz BK165 hb;replace HB:=A_ (below_step bb_ hb);(try clear hb);(try clear hb2);(try clear hk);(try clear hi);(try clear ho0);have hcz22_0 : w21.cell? ⟨gb165,0,none⟩ = some (.int .i64 a0_0):=blk_cell BK165.out 0;have hcz22_1 : w21.cell? ⟨gb165,1,none⟩ = some (.slice A0_1 l0_1.length c0_1):=blk_cell BK165.out 1;have hfz22_0:=blk_frozen BK165.out 0;have hfz22_1:=blk_frozen BK165.out 1)|((with_reducible refine gate_callee (f:=142) rfl ?_);refine goesL_ (some 11) rfl rfl Tryd.func142 (by kernel_rfl) rfl #[.agg #[.int .i64 a0_0,.slice A0_1 l0_1.length c0_1]] rfl au_ ?_;(with_reducible refine (spec_orGood.calls k a0_0 _ _ l0_1 false _ ?side1 ?side2 A3.out).mono ?_);(case side1=>exact cl_ (Kd.C_below HR0_1.out HB.out));(case side2=>exact HC0_1.out);rintro e w23 ⟨rfl,hb⟩;refine ⟨_,rfl,?_⟩;replace HO168:=rb_ HO168 hb;replace BK165:=bz BK165 hb;replace HB:=A_ (below_step bb_ hb);(try clear hb);(try clear hb2);(try clear hk);(try clear hi)))
  go_ret
  exact ⟨by first|rfl|(simp [errW_none,errW_some] <;> rfl)|(simp [*,errW_none,errW_some] <;> rfl),bb_⟩
def spec_seMany.f (k : Nat) (a0 : Int) : Option (Int) := (spec_orList.f k a0).bind fun t172 => (some (t172.length : Int))
set_option maxHeartbeats 8000000 in
set_option maxRecDepth 100000 in
theorem spec_seMany.calls (k : Nat) (a0 : Int) (r : Int) (w : World) (h : spec_seMany.f k a0 = some r) :
 Calls Tryd.prog 110 #[.int .i64 a0] w fun e w'=>e = .returned (.int .i64 r) ∧ Below w.heap.size w w':=by
 have HB:=A_ (Below.refl w.heap.size w);have H : ((spec_orList.f k a0).bind fun t172=>(some (t172.length : Int))) = some r:=h;clear h;replace H:=Option.bind_eq_some_iff.mp H;obtain ⟨t172,A20,H⟩:=H;replace H : (some (t172.length : Int)) = some r:=H;have A2:=A_ A20;clear A20;obtain rfl:=Option.some.inj H;go_enter Tryd.func110,Tryd.ntmps110
 go_wp2_with (first|((with_reducible refine gate_callee (f:=191) rfl ?_);refine goesL_ (some 4) rfl rfl Tryd.func191 (by kernel_rfl) rfl #[.int .i64 a0] rfl au_ ?_;(with_reducible refine (spec_orList.calls k a0 t172 _ A2.out).mono ?_);rintro e w3 ⟨v173,rfl,ho0,hb⟩;refine ⟨_,rfl,?_⟩;have HO174:=A_ (Kd.R_lower ho0 (below_size bb_));replace HB:=A_ (below_step bb_ hb);(try clear hb);(try clear hb2);(try clear hk);(try clear hi);(try clear ho0);obtain ⟨Ao4,co4,eo4⟩:=Kd.R_slice HO174.out;subst eo4))
 go_ret
 exact ⟨by first|rfl|(simp [errW_none,errW_some] <;> rfl)|(simp [*,errW_none,errW_some] <;> rfl),bb_⟩
def spec_l1Own.f (l0 : List Int) : Option (List Int) := (some (([] : List Int) : List Int)).bind fun y175 => (if y175.length + l0.length < 17592186044416 then (some (y175 ++ l0)) else (none))
set_option maxHeartbeats 8000000 in
set_option maxRecDepth 100000 in
theorem spec_l1Own.calls (A0 : Option Addr) (c0 : Nat) (l0 : List Int) (r : List Int) (w : World) (hr0 : Kd.C (Kd.int .i64) w A0 l0.length l0) (hc0 : l0.length ≤ c0) (h : spec_l1Own.f l0 = some r) :
 Calls Tryd.prog 202 #[.slice A0 l0.length c0] w fun e w'=>∃ v0_ : Value,e = .returned (v0_) ∧ Kd.R (Kd.int .i64) 3 w' w.heap.size (fun _=>True) v0_ r ∧ Below w.heap.size w w':=by
 have HR0:=A_ hr0;have HC0:=A_ hc0;clear hr0 hc0;have HB:=A_ (Below.refl w.heap.size w);have H : ((some (([] : List Int) : List Int)).bind fun y175=>(if y175.length + l0.length < 17592186044416 then (some (y175 ++ l0)) else (none))) = some r:=h;clear h;obtain ⟨y175,hy175⟩ : ∃ y_ : List Int,y_ = (([] : List Int)):=⟨_,rfl⟩;replace H : (if y175.length + l0.length < 17592186044416 then (some (y175 ++ l0)) else (none)) = some r:=by first|(rw [hy175];with_reducible exact H)|(have H2_:=(Option.bind_some _ _).symm.trans H;rw [hy175];with_reducible exact H2_)|(have H2_:=(Option.bind_some _ _).symm.trans H;with_reducible exact H2_)|with_reducible exact H|(rw [hy175];exact H)|exact H
 have Ny175:=A_ hy175;clear hy175;by_cases c2 : y175.length + l0.length < 17592186044416
 ·rw [if_pos c2] at H;have LMc2:=A_ c2;clear c2;obtain ⟨y178,hy178⟩ : ∃ y_ : List Int,y_ = (y175 ++ l0):=⟨_,rfl⟩;replace H : (some y178) = some r:=by first|(rw [hy178];with_reducible exact H)|(have H2_:=(Option.bind_some _ _).symm.trans H;rw [hy178];with_reducible exact H2_)|(have H2_:=(Option.bind_some _ _).symm.trans H;with_reducible exact H2_)|with_reducible exact H|(rw [hy178];exact H)|exact H
  have Ny178:=A_ hy178;clear hy178;obtain rfl:=Option.some.inj H;go_enter Tryd.func202,Tryd.ntmps202
  go_wp2_with (first|((with_reducible refine gate_dst (N:=3) rfl ?_);refine Kd.R_lit (Kd.int .i64) _ 3 ?hg (N:=3) ?hd (xs:=([] : List Int)) (inner:=[]) (ok:=fun _=>True) (okp:=fun _=>True) ?hr ?hp (fun _ hk=>hk) trivial (Below.refl _ _) (Nat.le_refl _) (by simp) ?_;(case hd=>rfl);(case hg=>rfl);(case hr=>first|(go_simp;done)|(go_simp;rfl));(case hp=>exact (Reps.none _ _));intro v176 w3 ho4 hb hg_ hnew_;clear hg_ hnew_;(first|rw [← Ny175.out] at ho4|(simp only [Int.reduceToNat] at ho4;rw [← Ny175.out] at ho4));have HO177:=A_ (Kd.R_lower ho4 (below_size bb_));replace HB:=A_ (below_step bb_ hb);clear hb ho4)|((with_reducible refine gate_builtin (b:=.append) (xs:=#[.tmp 3,.tmp 4]) rfl ?_);at_builtin;refine Kd.R_append_rows (Kd.int .i64) (w0:=w) w.heap.size rfl (.tmp 3) (.tmp 4) 22 3 (.int .i64 0) 8 rfl Tryd.underlying22 info3 rfl (by decide) (by omega) v176 y175 l0 _ _ _ (fun _=>True) (fun _=>False) rfl rfl ?aO ?aR (fun _ _ h=>h) (fun _ h=>h.elim) ?aF ?aB ?aS ?aL ?_;(case aR=>exact cl_ (Kd.C_below HR0.out HB.out));(case aB=>exact bb_);(case aF=>exact (fun _ _=>trivial));(case aO=>exact (rl_ HO177));(case aS=>exact (below_size bb_));(case aL=>have:=LMc2.out;omega);intro v179 w5 ho hb hg hat;rw [← Ny178.out] at ho;replace HB:=A_ (hb);have HO180:=A_ (ho);clear HO177;clear ho hb hg hat))
  go_ret
  exact ⟨_,by first|rfl|(simp [errW_none,errW_some] <;> rfl)|(simp [*,errW_none,errW_some] <;> rfl),by (with_reducible repeat (first|apply Kd.R_alloc|apply Kd.R_drewN|apply Kd.R_drew));exact HO180.out,bb_⟩
 ·rw [if_neg c2] at H;exact absurd H (by simp)
def spec_seBefore.f (k : Nat) (a0_0 : Int) (l0_1 : List Int) (a1 : Int) (a2 : Int) : Option (Bool) := (spec_orBelow.f k a0_0 l0_1 a1).bind fun t182 => ((spec_seMany.f k t182).bind fun t183 => ((spec_orBelow.f k a0_0 l0_1 a2).bind fun t184 => ((spec_seMany.f k t184).bind fun t185 => (if 0 ≤ a1 then (if a1 < (l0_1.length : Int) then ((spec_seMany.f k (rd l0_1 a1)).bind fun t187 => (if 0 ≤ a2 then (if a2 < (l0_1.length : Int) then ((spec_seMany.f k (rd l0_1 a2)).bind fun t189 => (if t183 = t185 then (if t187 = t189 then (some (decide (a1 < a2))) else (some (decide (t187 > t189)))) else (some (decide (t183 < t185))))) else (none)) else (none))) else (none)) else (none)))))
def spec_seBefore.T1 : Bool × List (List Nat × List Nat) := (true, [([], []), ([], []), ([0, 1], [0, 1]), ([2, 2], [2]), ([], []), ([], []), ([4, 5, 3], [4, 5]), ([6, 6], [6]), ([3, 7, 0, 1, 2, 3], [3]), ([7, 8, 0, 1, 2, 3, 4, 5, 6, 7, 8], [7])])
def spec_seBefore.B1 : List Nat := [0, 0, 3, 7, 0, 0, 63, 127, 255, 511]
theorem spec_seBefore.tab1 : rtab .any (opsOf Tryd.f229 1) = spec_seBefore.T1:=by kernel_rfl
theorem spec_seBefore.bits1 : waitsOk spec_seBefore.T1.2 spec_seBefore.B1 = true:=by kernel_rfl
def spec_seBefore.T2 : Bool × List (List Nat × List Nat) := (true, [([], []), ([0], [0]), ([], []), ([1, 2], [1, 2]), ([3], [3]), ([4], [4]), ([], []), ([6], [6]), ([], []), ([7, 8], [7, 8]), ([9], [9]), ([10, 5], [10]), ([5, 11, 0, 1, 2, 3, 4, 5], [5]), ([11, 12, 0, 1, 2, 3, 4, 5, 6, 7, 8, 9, 10, 11, 12], [11])])
def spec_seBefore.B2 : List Nat := [0, 1, 0, 7, 15, 31, 0, 64, 0, 448, 960, 2047, 4095, 8191]
theorem spec_seBefore.tab2 : rtab .any (opsOf Tryd.f229 2) = spec_seBefore.T2:=by kernel_rfl
theorem spec_seBefore.bits2 : waitsOk spec_seBefore.T2.2 spec_seBefore.B2 = true:=by kernel_rfl
set_option maxHeartbeats 8000000 in
set_option maxRecDepth 100000 in
theorem spec_seBefore.calls (k : Nat) (a0_0 : Int) (A0_1 : Option Addr) (c0_1 : Nat) (l0_1 : List Int) (a1 : Int) (a2 : Int) (r : Bool) (w : World) (hr0_1 : Kd.C (Kd.int .i64) w A0_1 l0_1.length l0_1) (hc0_1 : l0_1.length ≤ c0_1) (h : spec_seBefore.f k a0_0 l0_1 a1 a2 = some r) :
 Calls Tryd.prog 229 #[.agg #[.int .i64 a0_0,.slice A0_1 l0_1.length c0_1],.int .i64 a1,.int .i64 a2] w fun e w'=>e = .returned (.bool r) ∧ Below w.heap.size w w':=by
 have hu28:=Tryd.underlying28;have HR0_1:=A_ hr0_1;have HC0_1:=A_ hc0_1;clear hr0_1 hc0_1;have HB:=A_ (Below.refl w.heap.size w);have H : ((spec_orBelow.f k a0_0 l0_1 a1).bind fun t182=>((spec_seMany.f k t182).bind fun t183=>((spec_orBelow.f k a0_0 l0_1 a2).bind fun t184=>((spec_seMany.f k t184).bind fun t185=>(if 0 ≤ a1 then (if a1 < (l0_1.length : Int) then ((spec_seMany.f k (rd l0_1 a1)).bind fun t187=>(if 0 ≤ a2 then (if a2 < (l0_1.length : Int) then ((spec_seMany.f k (rd l0_1 a2)).bind fun t189=>(if t183 = t185 then (if t187 = t189 then (some (decide (a1 < a2))) else (some (decide (t187 > t189)))) else (some (decide (t183 < t185))))) else (none)) else (none))) else (none)) else (none)))))) = some r:=h;clear h;replace H:=Option.bind_eq_some_iff.mp H;obtain ⟨t182,A40,H⟩:=H;replace H : ((spec_seMany.f k t182).bind fun t183=>((spec_orBelow.f k a0_0 l0_1 a2).bind fun t184=>((spec_seMany.f k t184).bind fun t185=>(if 0 ≤ a1 then (if a1 < (l0_1.length : Int) then ((spec_seMany.f k (rd l0_1 a1)).bind fun t187=>(if 0 ≤ a2 then (if a2 < (l0_1.length : Int) then ((spec_seMany.f k (rd l0_1 a2)).bind fun t189=>(if t183 = t185 then (if t187 = t189 then (some (decide (a1 < a2))) else (some (decide (t187 > t189)))) else (some (decide (t183 < t185))))) else (none)) else (none))) else (none)) else (none))))) = some r:=H;have A4:=A_ A40;clear A40;replace H:=Option.bind_eq_some_iff.mp H;obtain ⟨t183,A50,H⟩:=H;replace H : ((spec_orBelow.f k a0_0 l0_1 a2).bind fun t184=>((spec_seMany.f k t184).bind fun t185=>(if 0 ≤ a1 then (if a1 < (l0_1.length : Int) then ((spec_seMany.f k (rd l0_1 a1)).bind fun t187=>(if 0 ≤ a2 then (if a2 < (l0_1.length : Int) then ((spec_seMany.f k (rd l0_1 a2)).bind fun t189=>(if t183 = t185 then (if t187 = t189 then (some (decide (a1 < a2))) else (some (decide (t187 > t189)))) else (some (decide (t183 < t185))))) else (none)) else (none))) else (none)) else (none)))) = some r:=H;have A5:=A_ A50;clear A50;replace H:=Option.bind_eq_some_iff.mp H;obtain ⟨t184,A60,H⟩:=H;replace H : ((spec_seMany.f k t184).bind fun t185=>(if 0 ≤ a1 then (if a1 < (l0_1.length : Int) then ((spec_seMany.f k (rd l0_1 a1)).bind fun t187=>(if 0 ≤ a2 then (if a2 < (l0_1.length : Int) then ((spec_seMany.f k (rd l0_1 a2)).bind fun t189=>(if t183 = t185 then (if t187 = t189 then (some (decide (a1 < a2))) else (some (decide (t187 > t189)))) else (some (decide (t183 < t185))))) else (none)) else (none))) else (none)) else (none))) = some r:=H;have A6:=A_ A60;clear A60;replace H:=Option.bind_eq_some_iff.mp H;obtain ⟨t185,A70,H⟩:=H;replace H : (if 0 ≤ a1 then (if a1 < (l0_1.length : Int) then ((spec_seMany.f k (rd l0_1 a1)).bind fun t187=>(if 0 ≤ a2 then (if a2 < (l0_1.length : Int) then ((spec_seMany.f k (rd l0_1 a2)).bind fun t189=>(if t183 = t185 then (if t187 = t189 then (some (decide (a1 < a2))) else (some (decide (t187 > t189)))) else (some (decide (t183 < t185))))) else (none)) else (none))) else (none)) else (none)) = some r:=H;have A7:=A_ A70;clear A70;by_cases c8 : 0 ≤ a1
 ·rw [if_pos c8] at H;have c8b0 : decide (0 ≤ a1) = true:=decide_eq_true c8;clear c8;by_cases c9 : a1 < (l0_1.length : Int)
  ·rw [if_pos c9] at H;have c9b0 : decide (a1 < (l0_1.length : Int)) = true:=decide_eq_true c9;clear c9;replace H:=Option.bind_eq_some_iff.mp H;obtain ⟨t187,A100,H⟩:=H;replace H : (if 0 ≤ a2 then (if a2 < (l0_1.length : Int) then ((spec_seMany.f k (rd l0_1 a2)).bind fun t189=>(if t183 = t185 then (if t187 = t189 then (some (decide (a1 < a2))) else (some (decide (t187 > t189)))) else (some (decide (t183 < t185))))) else (none)) else (none)) = some r:=H;have A10:=A_ A100;clear A100;by_cases c11 : 0 ≤ a2
   ·rw [if_pos c11] at H;have c11b0 : decide (0 ≤ a2) = true:=decide_eq_true c11;clear c11;by_cases c12 : a2 < (l0_1.length : Int)
    ·rw [if_pos c12] at H;have c12b0 : decide (a2 < (l0_1.length : Int)) = true:=decide_eq_true c12;clear c12;replace H:=Option.bind_eq_some_iff.mp H;obtain ⟨t189,A130,H⟩:=H;replace H : (if t183 = t185 then (if t187 = t189 then (some (decide (a1 < a2))) else (some (decide (t187 > t189)))) else (some (decide (t183 < t185)))) = some r:=H;have A13:=A_ A130;clear A130;by_cases c14 : t183 = t185
     ·rw [if_pos c14] at H;have c14b0 : (t183 == t185) = true:=beq_iff_eq.mpr c14;have c14b1 : (t183 != t185) = false:=bne_eq_false_iff_eq.mpr c14;clear c14;by_cases c15 : t187 = t189
      ·rw [if_pos c15] at H;have c15b0 : (t187 == t189) = true:=beq_iff_eq.mpr c15;have c15b1 : (t187 != t189) = false:=bne_eq_false_iff_eq.mpr c15;clear c15;obtain rfl:=Option.some.inj H;go_enter Tryd.func229,Tryd.ntmps229
       try go_wp2_with (first|((with_reducible refine gate_dst (N:=3) rfl ?_);refine box_event ?hg (N:=3) ?hd (cs:=#[.int .i64 a0_0,.slice A0_1 l0_1.length c0_1]) (t:=28) ?hr ?_;(case hd=>rfl);(case hg=>rfl);(case hr=>first|(go_simp;done)|(go_simp;rfl));intro gb181 hg w16 hbox hb;have BK181:=A_ (hbox);have GW181:=A_ ((by rw [hg];exact (below_size bb_) : w.heap.size ≤ gb181));have GE181:=A_ ((by rw [hg];exact (below_size bb_) : w.heap.size ≤ gb181));replace HB:=A_ (below_step bb_ hb);clear hb hbox hg))
       replace BK181:=A_ (blk_drew BK181.out);replace HB:=A_ (below_drew1 HB.out);refine start_ (n:=10) (S:=fun w'=>w'.cell? ⟨gb181,0,none⟩ = some (.int .i64 a0_0) ∧ w'.cell? ⟨gb181,1,none⟩ = some (.slice A0_1 l0_1.length c0_1)) (ds:=[]) #[F,F,F,F,F,F,F,F,F,F] (by kernel_rfl) rfl rfl ⟨blk_cell BK181.out 0,blk_cell BK181.out 1⟩ (fun hHeld=>?_);refine with_tabW spec_seBefore.tab1 spec_seBefore.bits1 (fun HT_ HW_=>?_)
       generalize w16.drew = w17 at BK181 HB hHeld ⊢
       refine pure_ (i:=1) (N:=some 12) (v:=?_) (a':=?_) #[F,T,F,F,F,F,F,F,F,F] rfl rfl (any_of HT_.out (by kernel_rfl)) (fun _ _ _ h=>h) (Or.inl ⟨by rfl,?_⟩) ?_ ?_
       rotate_left;·intro w';go_simp;with_reducible rfl
       rotate_left;·simp only [Act.put,L_,M_,N_,i64_w,i32_w];rfl
       refine pure_ (i:=5) (N:=some 16) (v:=?_) (a':=?_) #[F,T,F,F,F,T,F,F,F,F] rfl rfl (any_of HT_.out (by kernel_rfl)) (fun _ _ _ h=>h) (Or.inl ⟨by rfl,?_⟩) ?_ ?_
       rotate_left;·intro w';go_simp;with_reducible rfl
       rotate_left;·simp only [Act.put,L_,M_,N_,i64_w,i32_w];rfl
       refine take_ (i:=0) (N:=some 11) (v:=?_) (a':=?_) #[T,T,F,F,F,T,F,F,F,F] rfl rfl (take_ofW HT_.out HW_.out (by kernel_rfl)) (fun _ _ _ h=>h) (Or.inl ⟨by rfl,?_⟩) hHeld ?_ ?_
       rotate_left
       ·rintro w' ⟨s0,s1⟩
        go_simp
        with_reducible rfl
       rotate_left;·simp only [Act.put,L_,M_,N_,i64_w,i32_w];rfl
       refine take_ (i:=4) (N:=some 15) (v:=?_) (a':=?_) #[T,T,F,F,T,T,F,F,F,F] rfl rfl (take_ofW HT_.out HW_.out (by kernel_rfl)) (fun _ _ _ h=>h) (Or.inl ⟨by rfl,?_⟩) hHeld ?_ ?_
       rotate_left
       ·rintro w' ⟨s0,s1⟩
        go_simp
        with_reducible rfl
       rotate_left;·simp only [Act.put,L_,M_,N_,i64_w,i32_w];rfl
       refine one_ (i:=2) (N:=some 13) #[T,T,T,F,T,T,F,F,F,F] rfl rfl (one_of HT_.out (by kernel_rfl)) (by decide) (fun K hK=>?_)
       refine goes_ Tryd.func111 (by kernel_rfl) rfl #[.agg #[.int .i64 a0_0,.slice A0_1 l0_1.length c0_1],.int .i64 a1] (by rfl) rfl rfl au_ ?_
       with_reducible refine (spec_orBelow.calls k a0_0 _ _ l0_1 a1 t182 _ ?side1 ?side2 A4.out).mono ?_
       (case side1=>exact cl_ (Kd.C_below HR0_1.out HB.out))
       (case side2=>exact HC0_1.out)
       rintro e w18 ⟨rfl,hb⟩
       refine ⟨_,rfl,?_⟩
       replace BK181:=bz BK181 hb;replace HB:=A_ (below_step bb_ hb);(try clear hb);(try clear hb2);(try clear hk);(try clear hi);refine hK.out _ _ ⟨blk_cell BK181.out 0,blk_cell BK181.out 1⟩ (fun hHeld=>?_)
       clear hK K;refine norm_ (a':=?_) ?_ ?_
       rotate_left
       ·show Act.put _ (some 13) _ = _
        simp only [Act.put,L_,M_,N_,i64_w,i32_w]
        rfl
       refine one_ (i:=3) (N:=some 14) #[T,T,T,T,T,T,F,F,F,F] rfl rfl (one_of HT_.out (by kernel_rfl)) (by decide) (fun K hK=>?_)
       refine goes_ Tryd.func110 (by kernel_rfl) rfl #[.int .i64 t182] (by rfl) rfl rfl au_ ?_
       with_reducible refine (spec_seMany.calls k t182 t183 _ A5.out).mono ?_
       rintro e w19 ⟨rfl,hb⟩
       refine ⟨_,rfl,?_⟩
       replace BK181:=bz BK181 hb;replace HB:=A_ (below_step bb_ hb);(try clear hb);(try clear hb2);(try clear hk);(try clear hi);refine hK.out _ _ ⟨blk_cell BK181.out 0,blk_cell BK181.out 1⟩ (fun hHeld=>?_)
       clear hK K;refine norm_ (a':=?_) ?_ ?_
       rotate_left
       ·show Act.put _ (some 14) _ = _
        simp only [Act.put,L_,M_,N_,i64_w,i32_w]
        rfl
       refine one_ (i:=6) (N:=some 17) #[T,T,T,T,T,T,T,F,F,F] rfl rfl (one_of HT_.out (by kernel_rfl)) (by decide) (fun K hK=>?_)
       refine goes_ Tryd.func111 (by kernel_rfl) rfl #[.agg #[.int .i64 a0_0,.slice A0_1 l0_1.length c0_1],.int .i64 a2] (by rfl) rfl rfl au_ ?_
       with_reducible refine (spec_orBelow.calls k a0_0 _ _ l0_1 a2 t184 _ ?side1 ?side2 A6.out).mono ?_
       (case side1=>exact cl_ (Kd.C_below HR0_1.out HB.out))
       (case side2=>exact HC0_1.out)
       rintro e w20 ⟨rfl,hb⟩
       refine ⟨_,rfl,?_⟩
       replace BK181:=bz BK181 hb;replace HB:=A_ (below_step bb_ hb);(try clear hb);(try clear hb2);(try clear hk);(try clear hi);refine hK.out _ _ ⟨blk_cell BK181.out 0,blk_cell BK181.out 1⟩ (fun hHeld=>?_)
       clear hK K;refine norm_ (a':=?_) ?_ ?_
       rotate_left
       ·show Act.put _ (some 17) _ = _
        simp only [Act.put,L_,M_,N_,i64_w,i32_w]
        rfl
       refine one_ (i:=7) (N:=some 18) #[T,T,T,T,T,T,T,T,F,F] rfl rfl (one_of HT_.out (by kernel_rfl)) (by decide) (fun K hK=>?_)
       refine goes_ Tryd.func110 (by kernel_rfl) rfl #[.int .i64 t184] (by rfl) rfl rfl au_ ?_
       with_reducible refine (spec_seMany.calls k t184 t185 _ A7.out).mono ?_
       rintro e w21 ⟨rfl,hb⟩
       refine ⟨_,rfl,?_⟩
       replace BK181:=bz BK181 hb;replace HB:=A_ (below_step bb_ hb);(try clear hb);(try clear hb2);(try clear hk);(try clear hi);refine hK.out _ _ ⟨blk_cell BK181.out 0,blk_cell BK181.out 1⟩ (fun hHeld=>?_)
       clear hK K;refine norm_ (a':=?_) ?_ ?_
       rotate_left
       ·show Act.put _ (some 18) _ = _
        simp only [Act.put,L_,M_,N_,i64_w,i32_w]
        rfl
       refine pure_ (i:=8) (N:=some 7) (v:=?_) (a':=?_) #[T,T,T,T,T,T,T,T,T,F] rfl rfl (any_of HT_.out (by kernel_rfl)) (fun _ _ _ h=>h) (Or.inl ⟨by rfl,?_⟩) ?_ ?_
       rotate_left;·intro w';go_simp;with_reducible rfl
       rotate_left;·simp only [Act.put,L_,M_,N_,i64_w,i32_w];rfl
       refine pure_ (i:=9) (N:=some 8) (v:=?_) (a':=?_) #[T,T,T,T,T,T,T,T,T,T] rfl rfl (any_of HT_.out (by kernel_rfl)) (fun _ _ _ h=>h) (Or.inl ⟨by rfl,?_⟩) ?_ ?_
       rotate_left;·intro w';go_simp;with_reducible rfl
       rotate_left;·simp only [Act.put,L_,M_,N_,i64_w,i32_w];rfl
       refine done_ (done_of HT_.out (by kernel_rfl)) ?_
       try go_wp2
       replace BK181:=A_ (blk_drew BK181.out);replace HB:=A_ (below_drew1 HB.out);have p186 : 0 ≤ (a1 : Int):=of_decide_eq_true (by first|(with_reducible assumption)|assumption);have q186 : a1 < (l0_1.length : Int):=of_decide_eq_true (by first|(with_reducible assumption)|assumption);obtain ⟨ad186,e186,hx186_0⟩:=Kd.at_int HR0_1.out a1 p186 q186;have hw186_0:=hx186_0;cases e186
       (try replace hx186_0:=(HB.out.cell (World.block_lt_of_cell? w _ hx186_0)).trans hx186_0);replace p186:=eq_true p186;replace q186:=eq_true q186;have p188 : 0 ≤ (a2 : Int):=of_decide_eq_true (by first|(with_reducible assumption)|assumption);have q188 : a2 < (l0_1.length : Int):=of_decide_eq_true (by first|(with_reducible assumption)|assumption);obtain ⟨ad188,e188,hx188_0⟩:=Kd.at_int HR0_1.out a2 p188 q188;have hw188_0:=hx188_0;obtain rfl : ad186 = ad188:=(by injection e188);(try replace hx188_0:=(HB.out.cell (World.block_lt_of_cell? w _ hx188_0)).trans hx188_0);replace p188:=eq_true p188;replace q188:=eq_true q188;refine start_ (n:=14) (S:=fun w'=>w'.cell? ⟨gb181,0,none⟩ = some (.int .i64 a0_0) ∧ w'.cell? ⟨gb181,1,none⟩ = some (.slice (some ad186) l0_1.length c0_1) ∧ w'.cell? (ad186.add (a1).toNat) = some (.int .i64 (rd l0_1 a1)) ∧ w'.cell? (ad186.add (a2).toNat) = some (.int .i64 (rd l0_1 a2))) (ds:=[]) #[F,F,F,F,F,F,F,F,F,F,F,F,F,F] (by kernel_rfl) rfl rfl ⟨blk_cell BK181.out 0,blk_cell BK181.out 1,((HB.out.cell (World.block_lt_of_cell? w _ hw186_0)).trans hw186_0),((HB.out.cell (World.block_lt_of_cell? w _ hw188_0)).trans hw188_0)⟩ (fun hHeld=>?_);refine with_tabW spec_seBefore.tab2 spec_seBefore.bits2 (fun HT_ HW_=>?_)
       generalize w21.drew = w22 at BK181 HB hx186_0 hx188_0 hHeld ⊢
       refine pure_ (i:=0) (N:=some 19) (v:=?_) (a':=?_) #[T,F,F,F,F,F,F,F,F,F,F,F,F,F] rfl rfl (any_of HT_.out (by kernel_rfl)) (fun _ _ _ h=>h) (Or.inl ⟨by rfl,?_⟩) ?_ ?_
       rotate_left;·intro w';go_simp;with_reducible rfl
       rotate_left;·simp only [Act.put,L_,M_,N_,i64_w,i32_w];rfl
       refine pure_ (i:=2) (N:=some 21) (v:=?_) (a':=?_) #[T,F,T,F,F,F,F,F,F,F,F,F,F,F] rfl rfl (any_of HT_.out (by kernel_rfl)) (fun _ _ _ h=>h) (Or.inl ⟨by rfl,?_⟩) ?_ ?_
       rotate_left;·intro w';go_simp;with_reducible rfl
       rotate_left;·simp only [Act.put,L_,M_,N_,i64_w,i32_w];rfl
       refine pure_ (i:=6) (N:=some 25) (v:=?_) (a':=?_) #[T,F,T,F,F,F,T,F,F,F,F,F,F,F] rfl rfl (any_of HT_.out (by kernel_rfl)) (fun _ _ _ h=>h) (Or.inl ⟨by rfl,?_⟩) ?_ ?_
       rotate_left;·intro w';go_simp;with_reducible rfl
       rotate_left;·simp only [Act.put,L_,M_,N_,i64_w,i32_w];rfl
       refine pure_ (i:=8) (N:=some 27) (v:=?_) (a':=?_) #[T,F,T,F,F,F,T,F,T,F,F,F,F,F] rfl rfl (any_of HT_.out (by kernel_rfl)) (fun _ _ _ h=>h) (Or.inl ⟨by rfl,?_⟩) ?_ ?_
       rotate_left;·intro w';go_simp;with_reducible rfl
       rotate_left;·simp only [Act.put,L_,M_,N_,i64_w,i32_w];rfl
       refine take_ (i:=1) (N:=some 20) (v:=?_) (a':=?_) #[T,T,T,F,F,F,T,F,T,F,F,F,F,F] rfl rfl (take_ofW HT_.out HW_.out (by kernel_rfl)) (fun _ _ _ h=>h) (Or.inl ⟨by rfl,?_⟩) hHeld ?_ ?_
       rotate_left
       ·rintro w' ⟨s0,s1,s2,s3⟩
        go_simp
        with_reducible rfl
       rotate_left;·simp only [Act.put,L_,M_,N_,i64_w,i32_w];rfl
       refine pure_ (i:=3) (N:=some 22) (v:=?_) (a':=?_) #[T,T,T,T,F,F,T,F,T,F,F,F,F,F] rfl rfl (any_of HT_.out (by kernel_rfl)) (fun _ _ _ h=>h) (Or.inl ⟨by rfl,?_⟩) ?_ ?_
       rotate_left;·intro w';go_simp;with_reducible rfl
       rotate_left;·simp only [Act.put,L_,M_,N_,i64_w,i32_w];rfl
       refine take_ (i:=4) (N:=some 23) (v:=?_) (a':=?_) #[T,T,T,T,T,F,T,F,T,F,F,F,F,F] rfl rfl (take_ofW HT_.out HW_.out (by kernel_rfl)) (fun _ _ _ h=>h) (Or.inl ⟨by rfl,?_⟩) hHeld ?_ ?_
       rotate_left
       ·rintro w' ⟨s0,s1,s2,s3⟩
        go_simp
        with_reducible rfl
       rotate_left;·simp only [Act.put,L_,M_,N_,i64_w,i32_w];rfl
       refine take_ (i:=7) (N:=some 26) (v:=?_) (a':=?_) #[T,T,T,T,T,F,T,T,T,F,F,F,F,F] rfl rfl (take_ofW HT_.out HW_.out (by kernel_rfl)) (fun _ _ _ h=>h) (Or.inl ⟨by rfl,?_⟩) hHeld ?_ ?_
       rotate_left
       ·rintro w' ⟨s0,s1,s2,s3⟩
        go_simp
        with_reducible rfl
       rotate_left;·simp only [Act.put,L_,M_,N_,i64_w,i32_w];rfl
       refine pure_ (i:=9) (N:=some 28) (v:=?_) (a':=?_) #[T,T,T,T,T,F,T,T,T,T,F,F,F,F] rfl rfl (any_of HT_.out (by kernel_rfl)) (fun _ _ _ h=>h) (Or.inl ⟨by rfl,?_⟩) ?_ ?_
       rotate_left;·intro w';go_simp;with_reducible rfl
       rotate_left;·simp only [Act.put,L_,M_,N_,i64_w,i32_w];rfl
       refine take_ (i:=10) (N:=some 29) (v:=?_) (a':=?_) #[T,T,T,T,T,F,T,T,T,T,T,F,F,F] rfl rfl (take_ofW HT_.out HW_.out (by kernel_rfl)) (fun _ _ _ h=>h) (Or.inl ⟨by rfl,?_⟩) hHeld ?_ ?_
       rotate_left
       ·rintro w' ⟨s0,s1,s2,s3⟩
        go_simp
        with_reducible rfl
       rotate_left;·simp only [Act.put,L_,M_,N_,i64_w,i32_w];rfl
       refine one_ (i:=5) (N:=some 24) #[T,T,T,T,T,T,T,T,T,T,T,F,F,F] rfl rfl (one_of HT_.out (by kernel_rfl)) (by decide) (fun K hK=>?_)
       refine goes_ Tryd.func110 (by kernel_rfl) rfl #[.int .i64 (rd l0_1 a1)] (by rfl) rfl rfl au_ ?_
       with_reducible refine (spec_seMany.calls k (rd l0_1 a1) t187 _ A10.out).mono ?_
       rintro e w23 ⟨rfl,hb⟩
       refine ⟨_,rfl,?_⟩
       replace BK181:=bz BK181 hb;replace HB:=A_ (below_step bb_ hb);(try clear hb);(try clear hb2);(try clear hk);(try clear hi);refine hK.out _ _ ⟨blk_cell BK181.out 0,blk_cell BK181.out 1,((HB.out.cell (World.block_lt_of_cell? w _ hw186_0)).trans hw186_0),((HB.out.cell (World.block_lt_of_cell? w _ hw188_0)).trans hw188_0)⟩ (fun hHeld=>?_)
       clear hK K;refine norm_ (a':=?_) ?_ ?_
       rotate_left
       ·show Act.put _ (some 24) _ = _
        simp only [Act.put,L_,M_,N_,i64_w,i32_w]
        rfl
       refine one_ (i:=11) (N:=some 30) #[T,T,T,T,T,T,T,T,T,T,T,T,F,F] rfl rfl (one_of HT_.out (by kernel_rfl)) (by decide) (fun K hK=>?_)
       refine goes_ Tryd.func110 (by kernel_rfl) rfl #[.int .i64 (rd l0_1 a2)] (by rfl) rfl rfl au_ ?_
       with_reducible refine (spec_seMany.calls k (rd l0_1 a2) t189 _ A13.out).mono ?_
       rintro e w24 ⟨rfl,hb⟩
       refine ⟨_,rfl,?_⟩
       replace BK181:=bz BK181 hb;replace HB:=A_ (below_step bb_ hb);(try clear hb);(try clear hb2);(try clear hk);(try clear hi);refine hK.out _ _ ⟨blk_cell BK181.out 0,blk_cell BK181.out 1,((HB.out.cell (World.block_lt_of_cell? w _ hw186_0)).trans hw186_0),((HB.out.cell (World.block_lt_of_cell? w _ hw188_0)).trans hw188_0)⟩ (fun hHeld=>?_)
       clear hK K;refine norm_ (a':=?_) ?_ ?_
       rotate_left
       ·show Act.put _ (some 30) _ = _
        simp only [Act.put,L_,M_,N_,i64_w,i32_w]
        rfl
       refine pure_ (i:=12) (N:=some 9) (v:=?_) (a':=?_) #[T,T,T,T,T,T,T,T,T,T,T,T,T,F] rfl rfl (any_of HT_.out (by kernel_rfl)) (fun _ _ _ h=>h) (Or.inl ⟨by rfl,?_⟩) ?_ ?_
       rotate_left;·intro w';go_simp;with_reducible rfl
       rotate_left;·simp only [Act.put,L_,M_,N_,i64_w,i32_w];rfl
       refine pure_ (i:=13) (N:=some 10) (v:=?_) (a':=?_) #[T,T,T,T,T,T,T,T,T,T,T,T,T,T] rfl rfl (any_of HT_.out (by kernel_rfl)) (fun _ _ _ h=>h) (Or.inl ⟨by rfl,?_⟩) ?_ ?_
       rotate_left;·intro w';go_simp;with_reducible rfl
       rotate_left;·simp only [Act.put,L_,M_,N_,i64_w,i32_w];rfl
       refine done_ (done_of HT_.out (by kernel_rfl)) ?_
       try go_wp2
       go_ret
       exact ⟨by first|rfl|(simp [errW_none,errW_some] <;> rfl)|(simp [*,errW_none,errW_some] <;> rfl),bb_⟩
      ·rw [if_neg c15] at H;have c15b0 : (t187 == t189) = false:=beq_eq_false_iff_ne.mpr c15;have c15b1 : (t187 != t189) = true:=bne_iff_ne.mpr c15;obtain rfl:=Option.some.inj H;go_enter Tryd.func229,Tryd.ntmps229
       try go_wp2_with (first|((with_reducible refine gate_dst (N:=3) rfl ?_);refine box_event ?hg (N:=3) ?hd (cs:=#[.int .i64 a0_0,.slice A0_1 l0_1.length c0_1]) (t:=28) ?hr ?_;(case hd=>rfl);(case hg=>rfl);(case hr=>first|(go_simp;done)|(go_simp;rfl));intro gb181 hg w25 hbox hb;have BK181:=A_ (hbox);have GW181:=A_ ((by rw [hg];exact (below_size bb_) : w.heap.size ≤ gb181));have GE181:=A_ ((by rw [hg];exact (below_size bb_) : w.heap.size ≤ gb181));replace HB:=A_ (below_step bb_ hb);clear hb hbox hg))
       replace BK181:=A_ (blk_drew BK181.out);replace HB:=A_ (below_drew1 HB.out);refine start_ (n:=10) (S:=fun w'=>w'.cell? ⟨gb181,0,none⟩ = some (.int .i64 a0_0) ∧ w'.cell? ⟨gb181,1,none⟩ = some (.slice A0_1 l0_1.length c0_1)) (ds:=[]) #[F,F,F,F,F,F,F,F,F,F] (by kernel_rfl) rfl rfl ⟨blk_cell BK181.out 0,blk_cell BK181.out 1⟩ (fun hHeld=>?_);refine with_tabW spec_seBefore.tab1 spec_seBefore.bits1 (fun HT_ HW_=>?_)
       generalize w25.drew = w26 at BK181 HB hHeld ⊢
       refine pure_ (i:=1) (N:=some 12) (v:=?_) (a':=?_) #[F,T,F,F,F,F,F,F,F,F] rfl rfl (any_of HT_.out (by kernel_rfl)) (fun _ _ _ h=>h) (Or.inl ⟨by rfl,?_⟩) ?_ ?_
       rotate_left;·intro w';go_simp;with_reducible rfl
       rotate_left;·simp only [Act.put,L_,M_,N_,i64_w,i32_w];rfl
       refine pure_ (i:=5) (N:=some 16) (v:=?_) (a':=?_) #[F,T,F,F,F,T,F,F,F,F] rfl rfl (any_of HT_.out (by kernel_rfl)) (fun _ _ _ h=>h) (Or.inl ⟨by rfl,?_⟩) ?_ ?_
       rotate_left;·intro w';go_simp;with_reducible rfl
       rotate_left;·simp only [Act.put,L_,M_,N_,i64_w,i32_w];rfl
       refine take_ (i:=0) (N:=some 11) (v:=?_) (a':=?_) #[T,T,F,F,F,T,F,F,F,F] rfl rfl (take_ofW HT_.out HW_.out (by kernel_rfl)) (fun _ _ _ h=>h) (Or.inl ⟨by rfl,?_⟩) hHeld ?_ ?_
       rotate_left
       ·rintro w' ⟨s0,s1⟩
        go_simp
        with_reducible rfl
       rotate_left;·simp only [Act.put,L_,M_,N_,i64_w,i32_w];rfl
       refine take_ (i:=4) (N:=some 15) (v:=?_) (a':=?_) #[T,T,F,F,T,T,F,F,F,F] rfl rfl (take_ofW HT_.out HW_.out (by kernel_rfl)) (fun _ _ _ h=>h) (Or.inl ⟨by rfl,?_⟩) hHeld ?_ ?_
       rotate_left
       ·rintro w' ⟨s0,s1⟩
        go_simp
        with_reducible rfl
       rotate_left;·simp only [Act.put,L_,M_,N_,i64_w,i32_w];rfl
       refine one_ (i:=2) (N:=some 13) #[T,T,T,F,T,T,F,F,F,F] rfl rfl (one_of HT_.out (by kernel_rfl)) (by decide) (fun K hK=>?_)
       refine goes_ Tryd.func111 (by kernel_rfl) rfl #[.agg #[.int .i64 a0_0,.slice A0_1 l0_1.length c0_1],.int .i64 a1] (by rfl) rfl rfl au_ ?_
       with_reducible refine (spec_orBelow.calls k a0_0 _ _ l0_1 a1 t182 _ ?side1 ?side2 A4.out).mono ?_
       (case side1=>exact cl_ (Kd.C_below HR0_1.out HB.out))
       (case side2=>exact HC0_1.out)
       rintro e w27 ⟨rfl,hb⟩
       refine ⟨_,rfl,?_⟩
       replace BK181:=bz BK181 hb;replace HB:=A_ (below_step bb_ hb);(try clear hb);(try clear hb2);(try clear hk);(try clear hi);refine hK.out _ _ ⟨blk_cell BK181.out 0,blk_cell BK181.out 1⟩ (fun hHeld=>?_)
       clear hK K;refine norm_ (a':=?_) ?_ ?_
       rotate_left
       ·show Act.put _ (some 13) _ = _
        simp only [Act.put,L_,M_,N_,i64_w,i32_w]
        rfl
       refine one_ (i:=3) (N:=some 14) #[T,T,T,T,T,T,F,F,F,F] rfl rfl (one_of HT_.out (by kernel_rfl)) (by decide) (fun K hK=>?_)
       refine goes_ Tryd.func110 (by kernel_rfl) rfl #[.int .i64 t182] (by rfl) rfl rfl au_ ?_
       with_reducible refine (spec_seMany.calls k t182 t183 _ A5.out).mono ?_
       rintro e w28 ⟨rfl,hb⟩
       refine ⟨_,rfl,?_⟩
       replace BK181:=bz BK181 hb;replace HB:=A_ (below_step bb_ hb);(try clear hb);(try clear hb2);(try clear hk);(try clear hi);refine hK.out _ _ ⟨blk_cell BK181.out 0,blk_cell BK181.out 1⟩ (fun hHeld=>?_)
       clear hK K;refine norm_ (a':=?_) ?_ ?_
       rotate_left
       ·show Act.put _ (some 14) _ = _
        simp only [Act.put,L_,M_,N_,i64_w,i32_w]
        rfl
       refine one_ (i:=6) (N:=some 17) #[T,T,T,T,T,T,T,F,F,F] rfl rfl (one_of HT_.out (by kernel_rfl)) (by decide) (fun K hK=>?_)
       refine goes_ Tryd.func111 (by kernel_rfl) rfl #[.agg #[.int .i64 a0_0,.slice A0_1 l0_1.length c0_1],.int .i64 a2] (by rfl) rfl rfl au_ ?_
       with_reducible refine (spec_orBelow.calls k a0_0 _ _ l0_1 a2 t184 _ ?side1 ?side2 A6.out).mono ?_
       (case side1=>exact cl_ (Kd.C_below HR0_1.out HB.out))
       (case side2=>exact HC0_1.out)
       rintro e w29 ⟨rfl,hb⟩
       refine ⟨_,rfl,?_⟩
       replace BK181:=bz BK181 hb;replace HB:=A_ (below_step bb_ hb);(try clear hb);(try clear hb2);(try clear hk);(try clear hi);refine hK.out _ _ ⟨blk_cell BK181.out 0,blk_cell BK181.out 1⟩ (fun hHeld=>?_)
       clear hK K;refine norm_ (a':=?_) ?_ ?_
       rotate_left
       ·show Act.put _ (some 17) _ = _
        simp only [Act.put,L_,M_,N_,i64_w,i32_w]
        rfl
       refine one_ (i:=7) (N:=some 18) #[T,T,T,T,T,T,T,T,F,F] rfl rfl (one_of HT_.out (by kernel_rfl)) (by decide) (fun K hK=>?_)
       refine goes_ Tryd.func110 (by kernel_rfl) rfl #[.int .i64 t184] (by rfl) rfl rfl au_ ?_
       with_reducible refine (spec_seMany.calls k t184 t185 _ A7.out).mono ?_
       rintro e w30 ⟨rfl,hb⟩
       refine ⟨_,rfl,?_⟩
       replace BK181:=bz BK181 hb;replace HB:=A_ (below_step bb_ hb);(try clear hb);(try clear hb2);(try clear hk);(try clear hi);refine hK.out _ _ ⟨blk_cell BK181.out 0,blk_cell BK181.out 1⟩ (fun hHeld=>?_)
       clear hK K;refine norm_ (a':=?_) ?_ ?_
       rotate_left
       ·show Act.put _ (some 18) _ = _
        simp only [Act.put,L_,M_,N_,i64_w,i32_w]
        rfl
       refine pure_ (i:=8) (N:=some 7) (v:=?_) (a':=?_) #[T,T,T,T,T,T,T,T,T,F] rfl rfl (any_of HT_.out (by kernel_rfl)) (fun _ _ _ h=>h) (Or.inl ⟨by rfl,?_⟩) ?_ ?_
       rotate_left;·intro w';go_simp;with_reducible rfl
       rotate_left;·simp only [Act.put,L_,M_,N_,i64_w,i32_w];rfl
       refine pure_ (i:=9) (N:=some 8) (v:=?_) (a':=?_) #[T,T,T,T,T,T,T,T,T,T] rfl rfl (any_of HT_.out (by kernel_rfl)) (fun _ _ _ h=>h) (Or.inl ⟨by rfl,?_⟩) ?_ ?_
       rotate_left;·intro w';go_simp;with_reducible rfl
       rotate_left;·simp only [Act.put,L_,M_,N_,i64_w,i32_w];rfl
       refine done_ (done_of HT_.out (by kernel_rfl)) ?_
       try go_wp2
       replace BK181:=A_ (blk_drew BK181.out);replace HB:=A_ (below_drew1 HB.out);have p186 : 0 ≤ (a1 : Int):=of_decide_eq_true (by first|(with_reducible assumption)|assumption);have q186 : a1 < (l0_1.length : Int):=of_decide_eq_true (by first|(with_reducible assumption)|assumption);obtain ⟨ad186,e186,hx186_0⟩:=Kd.at_int HR0_1.out a1 p186 q186;have hw186_0:=hx186_0;cases e186
       (try replace hx186_0:=(HB.out.cell (World.block_lt_of_cell? w _ hx186_0)).trans hx186_0);replace p186:=eq_true p186;replace q186:=eq_true q186;have p188 : 0 ≤ (a2 : Int):=of_decide_eq_true (by first|(with_reducible assumption)|assumption);have q188 : a2 < (l0_1.length : Int):=of_decide_eq_true (by first|(with_reducible assumption)|assumption);obtain ⟨ad188,e188,hx188_0⟩:=Kd.at_int HR0_1.out a2 p188 q188;have hw188_0:=hx188_0;obtain rfl : ad186 = ad188:=(by injection e188);(try replace hx188_0:=(HB.out.cell (World.block_lt_of_cell? w _ hx188_0)).trans hx188_0);replace p188:=eq_true p188;replace q188:=eq_true q188;refine start_ (n:=14) (S:=fun w'=>w'.cell? ⟨gb181,0,none⟩ = some (.int .i64 a0_0) ∧ w'.cell? ⟨gb181,1,none⟩ = some (.slice (some ad186) l0_1.length c0_1) ∧ w'.cell? (ad186.add (a1).toNat) = some (.int .i64 (rd l0_1 a1)) ∧ w'.cell? (ad186.add (a2).toNat) = some (.int .i64 (rd l0_1 a2))) (ds:=[]) #[F,F,F,F,F,F,F,F,F,F,F,F,F,F] (by kernel_rfl) rfl rfl ⟨blk_cell BK181.out 0,blk_cell BK181.out 1,((HB.out.cell (World.block_lt_of_cell? w _ hw186_0)).trans hw186_0),((HB.out.cell (World.block_lt_of_cell? w _ hw188_0)).trans hw188_0)⟩ (fun hHeld=>?_);refine with_tabW spec_seBefore.tab2 spec_seBefore.bits2 (fun HT_ HW_=>?_)
       generalize w30.drew = w31 at BK181 HB hx186_0 hx188_0 hHeld ⊢
       refine pure_ (i:=0) (N:=some 19) (v:=?_) (a':=?_) #[T,F,F,F,F,F,F,F,F,F,F,F,F,F] rfl rfl (any_of HT_.out (by kernel_rfl)) (fun _ _ _ h=>h) (Or.inl ⟨by rfl,?_⟩) ?_ ?_
       rotate_left;·intro w';go_simp;with_reducible rfl
       rotate_left;·simp only [Act.put,L_,M_,N_,i64_w,i32_w];rfl
       refine pure_ (i:=2) (N:=some 21) (v:=?_) (a':=?_) #[T,F,T,F,F,F,F,F,F,F,F,F,F,F] rfl rfl (any_of HT_.out (by kernel_rfl)) (fun _ _ _ h=>h) (Or.inl ⟨by rfl,?_⟩) ?_ ?_
       rotate_left;·intro w';go_simp;with_reducible rfl
       rotate_left;·simp only [Act.put,L_,M_,N_,i64_w,i32_w];rfl
       refine pure_ (i:=6) (N:=some 25) (v:=?_) (a':=?_) #[T,F,T,F,F,F,T,F,F,F,F,F,F,F] rfl rfl (any_of HT_.out (by kernel_rfl)) (fun _ _ _ h=>h) (Or.inl ⟨by rfl,?_⟩) ?_ ?_
       rotate_left;·intro w';go_simp;with_reducible rfl
       rotate_left;·simp only [Act.put,L_,M_,N_,i64_w,i32_w];rfl
       refine pure_ (i:=8) (N:=some 27) (v:=?_) (a':=?_) #[T,F,T,F,F,F,T,F,T,F,F,F,F,F] rfl rfl (any_of HT_.out (by kernel_rfl)) (fun _ _ _ h=>h) (Or.inl ⟨by rfl,?_⟩) ?_ ?_
       rotate_left;·intro w';go_simp;with_reducible rfl
       rotate_left;·simp only [Act.put,L_,M_,N_,i64_w,i32_w];rfl
       refine take_ (i:=1) (N:=some 20) (v:=?_) (a':=?_) #[T,T,T,F,F,F,T,F,T,F,F,F,F,F] rfl rfl (take_ofW HT_.out HW_.out (by kernel_rfl)) (fun _ _ _ h=>h) (Or.inl ⟨by rfl,?_⟩) hHeld ?_ ?_
       rotate_left
       ·rintro w' ⟨s0,s1,s2,s3⟩
        go_simp
        with_reducible rfl
       rotate_left;·simp only [Act.put,L_,M_,N_,i64_w,i32_w];rfl
       refine pure_ (i:=3) (N:=some 22) (v:=?_) (a':=?_) #[T,T,T,T,F,F,T,F,T,F,F,F,F,F] rfl rfl (any_of HT_.out (by kernel_rfl)) (fun _ _ _ h=>h) (Or.inl ⟨by rfl,?_⟩) ?_ ?_
       rotate_left;·intro w';go_simp;with_reducible rfl
       rotate_left;·simp only [Act.put,L_,M_,N_,i64_w,i32_w];rfl
       refine take_ (i:=4) (N:=some 23) (v:=?_) (a':=?_) #[T,T,T,T,T,F,T,F,T,F,F,F,F,F] rfl rfl (take_ofW HT_.out HW_.out (by kernel_rfl)) (fun _ _ _ h=>h) (Or.inl ⟨by rfl,?_⟩) hHeld ?_ ?_
       rotate_left
       ·rintro w' ⟨s0,s1,s2,s3⟩
        go_simp
        with_reducible rfl
       rotate_left;·simp only [Act.put,L_,M_,N_,i64_w,i32_w];rfl
       refine take_ (i:=7) (N:=some 26) (v:=?_) (a':=?_) #[T,T,T,T,T,F,T,T,T,F,F,F,F,F] rfl rfl (take_ofW HT_.out HW_.out (by kernel_rfl)) (fun _ _ _ h=>h) (Or.inl ⟨by rfl,?_⟩) hHeld ?_ ?_
       rotate_left
       ·rintro w' ⟨s0,s1,s2,s3⟩
        go_simp
        with_reducible rfl
       rotate_left;·simp only [Act.put,L_,M_,N_,i64_w,i32_w];rfl
       refine pure_ (i:=9) (N:=some 28) (v:=?_) (a':=?_) #[T,T,T,T,T,F,T,T,T,T,F,F,F,F] rfl rfl (any_of HT_.out (by kernel_rfl)) (fun _ _ _ h=>h) (Or.inl ⟨by rfl,?_⟩) ?_ ?_
       rotate_left;·intro w';go_simp;with_reducible rfl
       rotate_left;·simp only [Act.put,L_,M_,N_,i64_w,i32_w];rfl
       refine take_ (i:=10) (N:=some 29) (v:=?_) (a':=?_) #[T,T,T,T,T,F,T,T,T,T,T,F,F,F] rfl rfl (take_ofW HT_.out HW_.out (by kernel_rfl)) (fun _ _ _ h=>h) (Or.inl ⟨by rfl,?_⟩) hHeld ?_ ?_
       rotate_left
       ·rintro w' ⟨s0,s1,s2,s3⟩
        go_simp
        with_reducible rfl
       rotate_left;·simp only [Act.put,L_,M_,N_,i64_w,i32_w];rfl
       refine one_ (i:=5) (N:=some 24) #[T,T,T,T,T,T,T,T,T,T,T,F,F,F] rfl rfl (one_of HT_.out (by kernel_rfl)) (by decide) (fun K hK=>?_)
       refine goes_ Tryd.func110 (by kernel_rfl) rfl #[.int .i64 (rd l0_1 a1)] (by rfl) rfl rfl au_ ?_
       with_reducible refine (spec_seMany.calls k (rd l0_1 a1) t187 _ A10.out).mono ?_
       rintro e w32 ⟨rfl,hb⟩
       refine ⟨_,rfl,?_⟩
       replace BK181:=bz BK181 hb;replace HB:=A_ (below_step bb_ hb);(try clear hb);(try clear hb2);(try clear hk);(try clear hi);refine hK.out _ _ ⟨blk_cell BK181.out 0,blk_cell BK181.out 1,((HB.out.cell (World.block_lt_of_cell? w _ hw186_0)).trans hw186_0),((HB.out.cell (World.block_lt_of_cell? w _ hw188_0)).trans hw188_0)⟩ (fun hHeld=>?_)
       clear hK K;refine norm_ (a':=?_) ?_ ?_
       rotate_left
       ·show Act.put _ (some 24) _ = _
        simp only [Act.put,L_,M_,N_,i64_w,i32_w]
        rfl
       refine one_ (i:=11) (N:=some 30) #[T,T,T,T,T,T,T,T,T,T,T,T,F,F] rfl rfl (one_of HT_.out (by kernel_rfl)) (by decide) (fun K hK=>?_)
       refine goes_ Tryd.func110 (by kernel_rfl) rfl #[.int .i64 (rd l0_1 a2)] (by rfl) rfl rfl au_ ?_
       with_reducible refine (spec_seMany.calls k (rd l0_1 a2) t189 _ A13.out).mono ?_
       rintro e w33 ⟨rfl,hb⟩
       refine ⟨_,rfl,?_⟩
       replace BK181:=bz BK181 hb;replace HB:=A_ (below_step bb_ hb);(try clear hb);(try clear hb2);(try clear hk);(try clear hi);refine hK.out _ _ ⟨blk_cell BK181.out 0,blk_cell BK181.out 1,((HB.out.cell (World.block_lt_of_cell? w _ hw186_0)).trans hw186_0),((HB.out.cell (World.block_lt_of_cell? w _ hw188_0)).trans hw188_0)⟩ (fun hHeld=>?_)
       clear hK K;refine norm_ (a':=?_) ?_ ?_
       rotate_left
       ·show Act.put _ (some 30) _ = _
        simp only [Act.put,L_,M_,N_,i64_w,i32_w]
        rfl
       refine pure_ (i:=12) (N:=some 9) (v:=?_) (a':=?_) #[T,T,T,T,T,T,T,T,T,T,T,T,T,F] rfl rfl (any_of HT_.out (by kernel_rfl)) (fun _ _ _ h=>h) (Or.inl ⟨by rfl,?_⟩) ?_ ?_
       rotate_left;·intro w';go_simp;with_reducible rfl
       rotate_left;·simp only [Act.put,L_,M_,N_,i64_w,i32_w];rfl
       refine pure_ (i:=13) (N:=some 10) (v:=?_) (a':=?_) #[T,T,T,T,T,T,T,T,T,T,T,T,T,T] rfl rfl (any_of HT_.out (by kernel_rfl)) (fun _ _ _ h=>h) (Or.inl ⟨by rfl,?_⟩) ?_ ?_
       rotate_left;·intro w';go_simp;with_reducible rfl
       rotate_left;·simp only [Act.put,L_,M_,N_,i64_w,i32_w];rfl
       refine done_ (done_of HT_.out (by kernel_rfl)) ?_
       try go_wp2
       go_ret
       exact ⟨by first|rfl|(simp [errW_none,errW_some] <;> rfl)|(simp [*,errW_none,errW_some] <;> rfl),bb_⟩
     ·rw [if_neg c14] at H;have c14b0 : (t183 == t185) = false:=beq_eq_false_iff_ne.mpr c14;have c14b1 : (t183 != t185) = true:=bne_iff_ne.mpr c14;obtain rfl:=Option.some.inj H;go_enter Tryd.func229,Tryd.ntmps229
      try go_wp2_with (first|((with_reducible refine gate_dst (N:=3) rfl ?_);refine box_event ?hg (N:=3) ?hd (cs:=#[.int .i64 a0_0,.slice A0_1 l0_1.length c0_1]) (t:=28) ?hr ?_;(case hd=>rfl);(case hg=>rfl);(case hr=>first|(go_simp;done)|(go_simp;rfl));intro gb181 hg w34 hbox hb;have BK181:=A_ (hbox);have GW181:=A_ ((by rw [hg];exact (below_size bb_) : w.heap.size ≤ gb181));have GE181:=A_ ((by rw [hg];exact (below_size bb_) : w.heap.size ≤ gb181));replace HB:=A_ (below_step bb_ hb);clear hb hbox hg))
      replace BK181:=A_ (blk_drew BK181.out);replace HB:=A_ (below_drew1 HB.out);refine start_ (n:=10) (S:=fun w'=>w'.cell? ⟨gb181,0,none⟩ = some (.int .i64 a0_0) ∧ w'.cell? ⟨gb181,1,none⟩ = some (.slice A0_1 l0_1.length c0_1)) (ds:=[]) #[F,F,F,F,F,F,F,F,F,F] (by kernel_rfl) rfl rfl ⟨blk_cell BK181.out 0,blk_cell BK181.out 1⟩ (fun hHeld=>?_);refine with_tabW spec_seBefore.tab1 spec_seBefore.bits1 (fun HT_ HW_=>?_)
      generalize w34.drew = w35 at BK181 HB hHeld ⊢
      refine pure_ (i:=1) (N:=some 12) (v:=?_) (a':=?_) #[F,T,F,F,F,F,F,F,F,F] rfl rfl (any_of HT_.out (by kernel_rfl)) (fun _ _ _ h=>h) (Or.inl ⟨by rfl,?_⟩) ?_ ?_
      rotate_left;·intro w';go_simp;with_reducible rfl
      rotate_left;·simp only [Act.put,L_,M_,N_,i64_w,i32_w];rfl
      refine pure_ (i:=5) (N:=some 16) (v:=?_) (a':=?_) #[F,T,F,F,F,T,F,F,F,F] rfl rfl (any_of HT_.out (by kernel_rfl)) (fun _ _ _ h=>h) (Or.inl ⟨by rfl,?_⟩) ?_ ?_
      rotate_left;·intro w';go_simp;with_reducible rfl
      rotate_left;·simp only [Act.put,L_,M_,N_,i64_w,i32_w];rfl
      refine take_ (i:=0) (N:=some 11) (v:=?_) (a':=?_) #[T,T,F,F,F,T,F,F,F,F] rfl rfl (take_ofW HT_.out HW_.out (by kernel_rfl)) (fun _ _ _ h=>h) (Or.inl ⟨by rfl,?_⟩) hHeld ?_ ?_
      rotate_left
      ·rintro w' ⟨s0,s1⟩
       go_simp
       with_reducible rfl
      rotate_left;·simp only [Act.put,L_,M_,N_,i64_w,i32_w];rfl
      refine take_ (i:=4) (N:=some 15) (v:=?_) (a':=?_) #[T,T,F,F,T,T,F,F,F,F] rfl rfl (take_ofW HT_.out HW_.out (by kernel_rfl)) (fun _ _ _ h=>h) (Or.inl ⟨by rfl,?_⟩) hHeld ?_ ?_
      rotate_left
      ·rintro w' ⟨s0,s1⟩
       go_simp
       with_reducible rfl
      rotate_left;·simp only [Act.put,L_,M_,N_,i64_w,i32_w];rfl
      refine one_ (i:=2) (N:=some 13) #[T,T,T,F,T,T,F,F,F,F] rfl rfl (one_of HT_.out (by kernel_rfl)) (by decide) (fun K hK=>?_)
      refine goes_ Tryd.func111 (by kernel_rfl) rfl #[.agg #[.int .i64 a0_0,.slice A0_1 l0_1.length c0_1],.int .i64 a1] (by rfl) rfl rfl au_ ?_
      with_reducible refine (spec_orBelow.calls k a0_0 _ _ l0_1 a1 t182 _ ?side1 ?side2 A4.out).mono ?_
      (case side1=>exact cl_ (Kd.C_below HR0_1.out HB.out))
      (case side2=>exact HC0_1.out)
      rintro e w36 ⟨rfl,hb⟩
      refine ⟨_,rfl,?_⟩
      replace BK181:=bz BK181 hb;replace HB:=A_ (below_step bb_ hb);(try clear hb);(try clear hb2);(try clear hk);(try clear hi);refine hK.out _ _ ⟨blk_cell BK181.out 0,blk_cell BK181.out 1⟩ (fun hHeld=>?_)
      clear hK K;refine norm_ (a':=?_) ?_ ?_
      rotate_left
      ·show Act.put _ (some 13) _ = _
       simp only [Act.put,L_,M_,N_,i64_w,i32_w]
       rfl
      refine one_ (i:=3) (N:=some 14) #[T,T,T,T,T,T,F,F,F,F] rfl rfl (one_of HT_.out (by kernel_rfl)) (by decide) (fun K hK=>?_)
      refine goes_ Tryd.func110 (by kernel_rfl) rfl #[.int .i64 t182] (by rfl) rfl rfl au_ ?_
      with_reducible refine (spec_seMany.calls k t182 t183 _ A5.out).mono ?_
      rintro e w37 ⟨rfl,hb⟩
      refine ⟨_,rfl,?_⟩
      replace BK181:=bz BK181 hb;replace HB:=A_ (below_step bb_ hb);(try clear hb);(try clear hb2);(try clear hk);(try clear hi);refine hK.out _ _ ⟨blk_cell BK181.out 0,blk_cell BK181.out 1⟩ (fun hHeld=>?_)
      clear hK K;refine norm_ (a':=?_) ?_ ?_
      rotate_left
      ·show Act.put _ (some 14) _ = _
       simp only [Act.put,L_,M_,N_,i64_w,i32_w]
       rfl
      refine one_ (i:=6) (N:=some 17) #[T,T,T,T,T,T,T,F,F,F] rfl rfl (one_of HT_.out (by kernel_rfl)) (by decide) (fun K hK=>?_)
      refine goes_ Tryd.func111 (by kernel_rfl) rfl #[.agg #[.int .i64 a0_0,.slice A0_1 l0_1.length c0_1],.int .i64 a2] (by rfl) rfl rfl au_ ?_
      with_reducible refine (spec_orBelow.calls k a0_0 _ _ l0_1 a2 t184 _ ?side1 ?side2 A6.out).mono ?_
      (case side1=>exact cl_ (Kd.C_below HR0_1.out HB.out))
      (case side2=>exact HC0_1.out)
      rintro e w38 ⟨rfl,hb⟩
      refine ⟨_,rfl,?_⟩
      replace BK181:=bz BK181 hb;replace HB:=A_ (below_step bb_ hb);(try clear hb);(try clear hb2);(try clear hk);(try clear hi);refine hK.out _ _ ⟨blk_cell BK181.out 0,blk_cell BK181.out 1⟩ (fun hHeld=>?_)
      clear hK K;refine norm_ (a':=?_) ?_ ?_
      rotate_left
      ·show Act.put _ (some 17) _ = _
       simp only [Act.put,L_,M_,N_,i64_w,i32_w]
       rfl
      refine one_ (i:=7) (N:=some 18) #[T,T,T,T,T,T,T,T,F,F] rfl rfl (one_of HT_.out (by kernel_rfl)) (by decide) (fun K hK=>?_)
      refine goes_ Tryd.func110 (by kernel_rfl) rfl #[.int .i64 t184] (by rfl) rfl rfl au_ ?_
      with_reducible refine (spec_seMany.calls k t184 t185 _ A7.out).mono ?_
      rintro e w39 ⟨rfl,hb⟩
      refine ⟨_,rfl,?_⟩
      replace BK181:=bz BK181 hb;replace HB:=A_ (below_step bb_ hb);(try clear hb);(try clear hb2);(try clear hk);(try clear hi);refine hK.out _ _ ⟨blk_cell BK181.out 0,blk_cell BK181.out 1⟩ (fun hHeld=>?_)
      clear hK K;refine norm_ (a':=?_) ?_ ?_
      rotate_left
      ·show Act.put _ (some 18) _ = _
       simp only [Act.put,L_,M_,N_,i64_w,i32_w]
       rfl
      refine pure_ (i:=8) (N:=some 7) (v:=?_) (a':=?_) #[T,T,T,T,T,T,T,T,T,F] rfl rfl (any_of HT_.out (by kernel_rfl)) (fun _ _ _ h=>h) (Or.inl ⟨by rfl,?_⟩) ?_ ?_
      rotate_left;·intro w';go_simp;with_reducible rfl
      rotate_left;·simp only [Act.put,L_,M_,N_,i64_w,i32_w];rfl
      refine pure_ (i:=9) (N:=some 8) (v:=?_) (a':=?_) #[T,T,T,T,T,T,T,T,T,T] rfl rfl (any_of HT_.out (by kernel_rfl)) (fun _ _ _ h=>h) (Or.inl ⟨by rfl,?_⟩) ?_ ?_
      rotate_left;·intro w';go_simp;with_reducible rfl
      rotate_left;·simp only [Act.put,L_,M_,N_,i64_w,i32_w];rfl
      refine done_ (done_of HT_.out (by kernel_rfl)) ?_
      try go_wp2
      replace BK181:=A_ (blk_drew BK181.out);replace HB:=A_ (below_drew1 HB.out);have p186 : 0 ≤ (a1 : Int):=of_decide_eq_true (by first|(with_reducible assumption)|assumption);have q186 : a1 < (l0_1.length : Int):=of_decide_eq_true (by first|(with_reducible assumption)|assumption);obtain ⟨ad186,e186,hx186_0⟩:=Kd.at_int HR0_1.out a1 p186 q186;have hw186_0:=hx186_0;cases e186
      (try replace hx186_0:=(HB.out.cell (World.block_lt_of_cell? w _ hx186_0)).trans hx186_0);replace p186:=eq_true p186;replace q186:=eq_true q186;have p188 : 0 ≤ (a2 : Int):=of_decide_eq_true (by first|(with_reducible assumption)|assumption);have q188 : a2 < (l0_1.length : Int):=of_decide_eq_true (by first|(with_reducible assumption)|assumption);obtain ⟨ad188,e188,hx188_0⟩:=Kd.at_int HR0_1.out a2 p188 q188;have hw188_0:=hx188_0;obtain rfl : ad186 = ad188:=(by injection e188);(try replace hx188_0:=(HB.out.cell (World.block_lt_of_cell? w _ hx188_0)).trans hx188_0);replace p188:=eq_true p188;replace q188:=eq_true q188;refine start_ (n:=14) (S:=fun w'=>w'.cell? ⟨gb181,0,none⟩ = some (.int .i64 a0_0) ∧ w'.cell? ⟨gb181,1,none⟩ = some (.slice (some ad186) l0_1.length c0_1) ∧ w'.cell? (ad186.add (a1).toNat) = some (.int .i64 (rd l0_1 a1)) ∧ w'.cell? (ad186.add (a2).toNat) = some (.int .i64 (rd l0_1 a2))) (ds:=[]) #[F,F,F,F,F,F,F,F,F,F,F,F,F,F] (by kernel_rfl) rfl rfl ⟨blk_cell BK181.out 0,blk_cell BK181.out 1,((HB.out.cell (World.block_lt_of_cell? w _ hw186_0)).trans hw186_0),((HB.out.cell (World.block_lt_of_cell? w _ hw188_0)).trans hw188_0)⟩ (fun hHeld=>?_);refine with_tabW spec_seBefore.tab2 spec_seBefore.bits2 (fun HT_ HW_=>?_)
      generalize w39.drew = w40 at BK181 HB hx186_0 hx188_0 hHeld ⊢
      refine pure_ (i:=0) (N:=some 19) (v:=?_) (a':=?_) #[T,F,F,F,F,F,F,F,F,F,F,F,F,F] rfl rfl (any_of HT_.out (by kernel_rfl)) (fun _ _ _ h=>h) (Or.inl ⟨by rfl,?_⟩) ?_ ?_
      rotate_left;·intro w';go_simp;with_reducible rfl
      rotate_left;·simp only [Act.put,L_,M_,N_,i64_w,i32_w];rfl
      refine pure_ (i:=2) (N:=some 21) (v:=?_) (a':=?_) #[T,F,T,F,F,F,F,F,F,F,F,F,F,F] rfl rfl (any_of HT_.out (by kernel_rfl)) (fun _ _ _ h=>h) (Or.inl ⟨by rfl,?_⟩) ?_ ?_
      rotate_left;·intro w';go_simp;with_reducible rfl
      rotate_left;·simp only [Act.put,L_,M_,N_,i64_w,i32_w];rfl
      refine pure_ (i:=6) (N:=some 25) (v:=?_) (a':=?_) #[T,F,T,F,F,F,T,F,F,F,F,F,F,F] rfl rfl (any_of HT_.out (by kernel_rfl)) (fun _ _ _ h=>h) (Or.inl ⟨by rfl,?_⟩) ?_ ?_
      rotate_left;·intro w';go_simp;with_reducible rfl
      rotate_left;·simp only [Act.put,L_,M_,N_,i64_w,i32_w];rfl
      refine pure_ (i:=8) (N:=some 27) (v:=?_) (a':=?_) #[T,F,T,F,F,F,T,F,T,F,F,F,F,F] rfl rfl (any_of HT_.out (by kernel_rfl)) (fun _ _ _ h=>h) (Or.inl ⟨by rfl,?_⟩) ?_ ?_
      rotate_left;·intro w';go_simp;with_reducible rfl
      rotate_left;·simp only [Act.put,L_,M_,N_,i64_w,i32_w];rfl
      refine take_ (i:=1) (N:=some 20) (v:=?_) (a':=?_) #[T,T,T,F,F,F,T,F,T,F,F,F,F,F] rfl rfl (take_ofW HT_.out HW_.out (by kernel_rfl)) (fun _ _ _ h=>h) (Or.inl ⟨by rfl,?_⟩) hHeld ?_ ?_
      rotate_left
      ·rintro w' ⟨s0,s1,s2,s3⟩
       go_simp
       with_reducible rfl
      rotate_left;·simp only [Act.put,L_,M_,N_,i64_w,i32_w];rfl
      refine pure_ (i:=3) (N:=some 22) (v:=?_) (a':=?_) #[T,T,T,T,F,F,T,F,T,F,F,F,F,F] rfl rfl (any_of HT_.out (by kernel_rfl)) (fun _ _ _ h=>h) (Or.inl ⟨by rfl,?_⟩) ?_ ?_
      rotate_left;·intro w';go_simp;with_reducible rfl
      rotate_left;·simp only [Act.put,L_,M_,N_,i64_w,i32_w];rfl
      refine take_ (i:=4) (N:=some 23) (v:=?_) (a':=?_) #[T,T,T,T,T,F,T,F,T,F,F,F,F,F] rfl rfl (take_ofW HT_.out HW_.out (by kernel_rfl)) (fun _ _ _ h=>h) (Or.inl ⟨by rfl,?_⟩) hHeld ?_ ?_
      rotate_left
      ·rintro w' ⟨s0,s1,s2,s3⟩
       go_simp
       with_reducible rfl
      rotate_left;·simp only [Act.put,L_,M_,N_,i64_w,i32_w];rfl
      refine take_ (i:=7) (N:=some 26) (v:=?_) (a':=?_) #[T,T,T,T,T,F,T,T,T,F,F,F,F,F] rfl rfl (take_ofW HT_.out HW_.out (by kernel_rfl)) (fun _ _ _ h=>h) (Or.inl ⟨by rfl,?_⟩) hHeld ?_ ?_
      rotate_left
      ·rintro w' ⟨s0,s1,s2,s3⟩
       go_simp
       with_reducible rfl
      rotate_left;·simp only [Act.put,L_,M_,N_,i64_w,i32_w];rfl
      refine pure_ (i:=9) (N:=some 28) (v:=?_) (a':=?_) #[T,T,T,T,T,F,T,T,T,T,F,F,F,F] rfl rfl (any_of HT_.out (by kernel_rfl)) (fun _ _ _ h=>h) (Or.inl ⟨by rfl,?_⟩) ?_ ?_
      rotate_left;·intro w';go_simp;with_reducible rfl
      rotate_left;·simp only [Act.put,L_,M_,N_,i64_w,i32_w];rfl
      refine take_ (i:=10) (N:=some 29) (v:=?_) (a':=?_) #[T,T,T,T,T,F,T,T,T,T,T,F,F,F] rfl rfl (take_ofW HT_.out HW_.out (by kernel_rfl)) (fun _ _ _ h=>h) (Or.inl ⟨by rfl,?_⟩) hHeld ?_ ?_
      rotate_left
      ·rintro w' ⟨s0,s1,s2,s3⟩
       go_simp
       with_reducible rfl
      rotate_left;·simp only [Act.put,L_,M_,N_,i64_w,i32_w];rfl
      refine one_ (i:=5) (N:=some 24) #[T,T,T,T,T,T,T,T,T,T,T,F,F,F] rfl rfl (one_of HT_.out (by kernel_rfl)) (by decide) (fun K hK=>?_)
      refine goes_ Tryd.func110 (by kernel_rfl) rfl #[.int .i64 (rd l0_1 a1)] (by rfl) rfl rfl au_ ?_
      with_reducible refine (spec_seMany.calls k (rd l0_1 a1) t187 _ A10.out).mono ?_
      rintro e w41 ⟨rfl,hb⟩
      refine ⟨_,rfl,?_⟩
      replace BK181:=bz BK181 hb;replace HB:=A_ (below_step bb_ hb);(try clear hb);(try clear hb2);(try clear hk);(try clear hi);refine hK.out _ _ ⟨blk_cell BK181.out 0,blk_cell BK181.out 1,((HB.out.cell (World.block_lt_of_cell? w _ hw186_0)).trans hw186_0),((HB.out.cell (World.block_lt_of_cell? w _ hw188_0)).trans hw188_0)⟩ (fun hHeld=>?_)
      clear hK K;refine norm_ (a':=?_) ?_ ?_
      rotate_left
      ·show Act.put _ (some 24) _ = _
       simp only [Act.put,L_,M_,N_,i64_w,i32_w]
       rfl
      refine one_ (i:=11) (N:=some 30) #[T,T,T,T,T,T,T,T,T,T,T,T,F,F] rfl rfl (one_of HT_.out (by kernel_rfl)) (by decide) (fun K hK=>?_)
      refine goes_ Tryd.func110 (by kernel_rfl) rfl #[.int .i64 (rd l0_1 a2)] (by rfl) rfl rfl au_ ?_
      with_reducible refine (spec_seMany.calls k (rd l0_1 a2) t189 _ A13.out).mono ?_
      rintro e w42 ⟨rfl,hb⟩
      refine ⟨_,rfl,?_⟩
      replace BK181:=bz BK181 hb;replace HB:=A_ (below_step bb_ hb);(try clear hb);(try clear hb2);(try clear hk);(try clear hi);refine hK.out _ _ ⟨blk_cell BK181.out 0,blk_cell BK181.out 1,((HB.out.cell (World.block_lt_of_cell? w _ hw186_0)).trans hw186_0),((HB.out.cell (World.block_lt_of_cell? w _ hw188_0)).trans hw188_0)⟩ (fun hHeld=>?_)
      clear hK K;refine norm_ (a':=?_) ?_ ?_
      rotate_left
      ·show Act.put _ (some 30) _ = _
       simp only [Act.put,L_,M_,N_,i64_w,i32_w]
       rfl
      refine pure_ (i:=12) (N:=some 9) (v:=?_) (a':=?_) #[T,T,T,T,T,T,T,T,T,T,T,T,T,F] rfl rfl (any_of HT_.out (by kernel_rfl)) (fun _ _ _ h=>h) (Or.inl ⟨by rfl,?_⟩) ?_ ?_
      rotate_left;·intro w';go_simp;with_reducible rfl
      rotate_left;·simp only [Act.put,L_,M_,N_,i64_w,i32_w];rfl
      refine pure_ (i:=13) (N:=some 10) (v:=?_) (a':=?_) #[T,T,T,T,T,T,T,T,T,T,T,T,T,T] rfl rfl (any_of HT_.out (by kernel_rfl)) (fun _ _ _ h=>h) (Or.inl ⟨by rfl,?_⟩) ?_ ?_
      rotate_left;·intro w';go_simp;with_reducible rfl
      rotate_left;·simp only [Act.put,L_,M_,N_,i64_w,i32_w];rfl
      refine done_ (done_of HT_.out (by kernel_rfl)) ?_
      try go_wp2
      go_ret
      exact ⟨by first|rfl|(simp [errW_none,errW_some] <;> rfl)|(simp [*,errW_none,errW_some] <;> rfl),bb_⟩
    ·rw [if_neg c12] at H;exact absurd H (by simp)
   ·rw [if_neg c11] at H;exact absurd H (by simp)
  ·rw [if_neg c9] at H;exact absurd H (by simp)
 ·rw [if_neg c8] at H;exact absurd H (by simp)
mutual
def spec_seTrace.l0 : Nat → List Int → Int → Int → List Int → Option (List Int)
 | 0,_,_,_,_=>none
 | k + 1,x3,x4,x191000,x191001=>if x4 < x191000 then (spec_seTrace.l1 k x3 x4 0 x191000 x191001) else (some x3)
def spec_seTrace.l1 : Nat → List Int → Int → Int → Int → List Int → Option (List Int)
 | 0,_,_,_,_,_=>none
 | k + 1,x3,x4,x5,x191000,x191001=>if x5 < (x3.length : Int) then (if 0 ≤ x5 then ((spec_seBefore.f k x191000 x191001 (rd x3 x5) x4).bind fun t192=>(if t192 = true then (spec_seTrace.l1 k x3 x4 (wrap64 (x5 + 1)) x191000 x191001) else (if x5 ≤ (x3.length : Int) then ((spec_l1Own.f (x3.take (x5 : Int).toNat)).bind fun t197=>(if t197.length < 17592186044416 then ((some (t197 ++ [x4] : List Int)).bind fun y200=>((some (x3.drop (x5 : Int).toNat : List Int)).bind fun y203=>(if y200.length + y203.length < 17592186044416 then (spec_seTrace.l0 k (y200 ++ y203) (wrap64 (x4 + 1)) x191000 x191001) else (none)))) else (none))) else (none)))) else (none)) else (if 0 ≤ x5 then (if x5 ≤ (x3.length : Int) then ((spec_l1Own.f (x3.take (x5 : Int).toNat)).bind fun t214=>(if t214.length < 17592186044416 then ((some (t214 ++ [x4] : List Int)).bind fun y217=>((some (x3.drop (x5 : Int).toNat : List Int)).bind fun y220=>(if y217.length + y220.length < 17592186044416 then (spec_seTrace.l0 k (y217 ++ y220) (wrap64 (x4 + 1)) x191000 x191001) else (none)))) else (none))) else (none)) else (none))
end
def spec_seTrace.f (k : Nat) (a0_0 : Int) (l0_1 : List Int) : Option (List Int) := spec_seTrace.l0 k ([] : List Int) 0 a0_0 l0_1
def spec_seTrace.T6 : Bool × List (List Nat × List Nat) := (true, [([], []), ([], []), ([1], [1]), ([0, 2], [0, 2]), ([3], [3]), ([4], [4]), ([4], [4]), ([4], [4]), ([6, 7, 4], [4, 6, 7]), ([8, 4], [4, 8]), ([4], [4]), ([5, 9, 10, 4, 4], [4, 5, 9, 10]), ([4, 11], [4, 11])])
def spec_seTrace.B6 : List Nat := [0, 0, 2, 7, 15, 31, 31, 31, 223, 479, 31, 2047, 4095]
theorem spec_seTrace.tab6 : rtab .any (opsOf Tryd.f187 6) = spec_seTrace.T6:=by kernel_rfl
theorem spec_seTrace.bits6 : waitsOk spec_seTrace.T6.2 spec_seTrace.B6 = true:=by kernel_rfl
set_option maxHeartbeats 8000000 in
set_option maxRecDepth 100000 in
theorem spec_seTrace.calls (k : Nat) (a0_0 : Int) (A0_1 : Option Addr) (c0_1 : Nat) (l0_1 : List Int) (r : List Int) (w : World) (hr0_1 : Kd.C (Kd.int .i64) w A0_1 l0_1.length l0_1) (hc0_1 : l0_1.length ≤ c0_1) (h : spec_seTrace.f k a0_0 l0_1 = some r) :
 Calls Tryd.prog 187 #[.agg #[.int .i64 a0_0,.slice A0_1 l0_1.length c0_1]] w fun e w'=>∃ v0_ : Value,e = .returned (v0_) ∧ Kd.R (Kd.int .i64) 3 w' w.heap.size (fun _=>True) v0_ r ∧ Below w.heap.size w w':=by
 have hu28:=Tryd.underlying28;have HR0_1:=A_ hr0_1;have HC0_1:=A_ hc0_1;clear hr0_1 hc0_1;have HB:=A_ (Below.refl w.heap.size w);have H : (spec_seTrace.l0 k ([] : List Int) 0 a0_0 l0_1) = some r:=h;clear h;have H':=A_ H;clear H;go_enter Tryd.func187,Tryd.ntmps187
 go_wp2_with (first|((with_reducible refine gate_dst (N:=1) rfl ?_);refine box_event ?hg (N:=1) ?hd (cs:=#[.int .i64 a0_0,.slice A0_1 l0_1.length c0_1]) (t:=28) ?hr ?_;(case hd=>rfl);(case hg=>rfl);(case hr=>first|(go_simp;done)|(go_simp;rfl));intro gb190 hg w2 hbox hb;have BK190:=A_ (hbox);have GW190:=A_ ((by rw [hg];exact (below_size bb_) : w.heap.size ≤ gb190));have GE190:=A_ ((by rw [hg];exact (below_size bb_) : w.heap.size ≤ gb190));replace HB:=A_ (below_step bb_ hb);clear hb hbox hg))
 go_loopg [3,4] k (fun kq v3 v4 w'=>∃ (x3_1 : List Int) (x4_1 : Int),v4 = .int .i64 x4_1 ∧ Aside0 (spec_seTrace.l0 kq x3_1 x4_1 a0_0 l0_1 = some r) ∧ Aside0 (kq ≤ k) ∧ Aside0 (Kd.R (Kd.int .i64) 3 w' w.heap.size (fun _=>True) v3 x3_1) ∧ Aside0 (w'.heap[gb190]? = some (.cells #[.int .i64 a0_0,(.slice A0_1 l0_1.length c0_1)] 28 (0,0))) ∧ Aside0 (Below w.heap.size w w'))
 case atStart=>exact ⟨(([] : List Int)),(0),(by first|rfl|(simp;done)|(simp [*];done)),H',⟨Nat.le_refl _⟩,⟨by first|exact Kd.R_nil _ _ _ _ _|exact Kd.N_nil _ _ _ _ _|exact Kd.V_nil _ _ _ _ _|exact Kd.Q_nil _ _ _ _ _|exact Kd.S_nil _ _ _ _ _⟩,⟨bl_ BK190⟩,⟨bb_⟩⟩
 case round =>
  clear H';try clear c1
  try clear p2
  obtain ⟨x3_1,x4_1,rfl,HA,HK1,HO_3,BK190,HB⟩:=hrel;cases gk with
  | zero => exact absurd HA.out (by simp [spec_seTrace.l0])
  | succ k1 =>
   have H:=HA.out;clear HA;simp only [spec_seTrace.l0] at H
   by_cases c3 : x4_1 < a0_0
   ·rw [if_pos c3] at H;have c3b0 : decide (x4_1 < a0_0) = true:=decide_eq_true c3;clear c3;have H':=A_ H;clear H;have hcz4_0 : wr.cell? ⟨gb190,0,none⟩ = some (.int .i64 a0_0):=blk_cell BK190.out 0;have hcz4_1 : wr.cell? ⟨gb190,1,none⟩ = some (.slice A0_1 l0_1.length c0_1):=blk_cell BK190.out 1;have hfz4_0:=blk_frozen BK190.out 0;have hfz4_1:=blk_frozen BK190.out 1;go_wp2
    go_loopg [5] k1 (fun kq v5 w'=>∃ (x5_2 : Int),v5 = .int .i64 x5_2 ∧ Aside0 (spec_seTrace.l1 kq x3_1 x4_1 x5_2 a0_0 l0_1 = some r) ∧ Aside0 (kq ≤ k1) ∧ Aside0 (Kd.R (Kd.int .i64) 3 w' w.heap.size (fun _=>True) u3 x3_1) ∧ Aside0 (w'.heap[gb190]? = some (.cells #[.int .i64 a0_0,(.slice A0_1 l0_1.length c0_1)] 28 (0,0))) ∧ Aside0 (Below w.heap.size w w'))
    case atStart=>exact ⟨(0),(by first|rfl|(simp;done)|(simp [*];done)),H',⟨Nat.le_refl _⟩,⟨by (with_reducible repeat (first|apply Kd.R_alloc|apply Kd.R_drewN|apply Kd.R_drew));exact HO_3.out⟩,⟨bl_ BK190⟩,⟨bb_⟩⟩
    case round =>
     clear H';try clear c1
     try clear p2
     try clear c3
     try clear c3b0
     try clear hcz4_0
     try clear hcz4_1
     try clear hfz4_0
     try clear hfz4_1
     try clear p2
     obtain ⟨x5_2,rfl,HA,HK2,HO_3,BK190,HB⟩:=hrel;cases gk with
     | zero=>exact absurd HA.out (by simp [spec_seTrace.l1])
     | succ k2 =>
      have H:=HA.out;clear HA;simp only [spec_seTrace.l1] at H
      by_cases c5 : x5_2 < (x3_1.length : Int)
      ·rw [if_pos c5] at H;have c5b0 : decide (x5_2 < (x3_1.length : Int)) = true:=decide_eq_true c5;clear c5;by_cases c6 : 0 ≤ x5_2
       ·rw [if_pos c6] at H;have c6b0 : decide (0 ≤ x5_2) = true:=decide_eq_true c6;clear c6;replace H:=Option.bind_eq_some_iff.mp H;obtain ⟨t192,A70,H⟩:=H;replace H : (if t192 = true then (spec_seTrace.l1 k2 x3_1 x4_1 (wrap64 (x5_2 + 1)) a0_0 l0_1) else (if x5_2 ≤ (x3_1.length : Int) then ((spec_l1Own.f (x3_1.take (x5_2 : Int).toNat)).bind fun t197=>(if t197.length < 17592186044416 then ((some (t197 ++ [x4_1] : List Int)).bind fun y200=>((some (x3_1.drop (x5_2 : Int).toNat : List Int)).bind fun y203=>(if y200.length + y203.length < 17592186044416 then (spec_seTrace.l0 k2 (y200 ++ y203) (wrap64 (x4_1 + 1)) a0_0 l0_1) else (none)))) else (none))) else (none))) = some r:=H;have A7:=A_ A70;clear A70;by_cases c8 : t192 = true
        ·subst c8;have H1 : (spec_seTrace.l1 k2 x3_1 x4_1 (wrap64 (x5_2 + 1)) a0_0 l0_1) = some r:=by rw [if_pos rfl] at H;exact H
         clear H;have H:=H1;clear H1;have H':=A_ H;clear H;try go_wp2
         replace HO_3:=A_ (Kd.R_drew HO_3.out);replace BK190:=A_ (blk_drew BK190.out);replace HB:=A_ (below_drew1 HB.out);obtain ⟨Ao10,co10,eo10⟩:=Kd.R_slice HO_3.out;(first|subst eo10|(injection eo10 with f1_ f2_ f3_;have f4_:=f1_.symm;have f5_:=f3_.symm;clear f1_ f2_ f3_;subst f4_;subst f5_))
         have p191 : 0 ≤ (x5_2 : Int):=of_decide_eq_true (by first|(with_reducible assumption)|assumption);have q191 : x5_2 < (x3_1.length : Int):=of_decide_eq_true (by first|(with_reducible assumption)|assumption);obtain ⟨ad191,e191,hx191_0⟩:=Kd.at_int (Kd.R_reads' HO_3.out).2.2 x5_2 p191 q191;cases e191
         replace p191:=eq_true p191;replace q191:=eq_true q191;refine start_ (n:=13) (S:=fun w'=>w'.cell? ⟨gb190,0,none⟩ = some (.int .i64 a0_0) ∧ w'.cell? ⟨gb190,1,none⟩ = some (.slice A0_1 l0_1.length c0_1) ∧ w'.cell? (ad191.add (x5_2).toNat) = some (.int .i64 (rd x3_1 x5_2))) (ds:=[]) #[F,F,F,F,F,F,F,F,F,F,F,F,F] (by kernel_rfl) rfl rfl ⟨blk_cell BK190.out 0,blk_cell BK190.out 1,hx191_0⟩ (fun hHeld=>?_);refine with_tabW spec_seTrace.tab6 spec_seTrace.bits6 (fun HT_ HW_=>?_)
         generalize wr.drew = w9 at HO_3 BK190 HB hx191_0 hHeld ⊢
         refine pure_ (i:=0) (N:=some 13) (v:=?_) (a':=?_) #[T,F,F,F,F,F,F,F,F,F,F,F,F] rfl rfl (any_of HT_.out (by kernel_rfl)) (fun _ _ _ h=>h) (Or.inl ⟨by rfl,?_⟩) ?_ ?_
         rotate_left;·intro w';go_simp;with_reducible rfl
         rotate_left;·simp only [Act.put,L_,M_,N_,i64_w,i32_w];rfl
         refine pure_ (i:=1) (N:=some 14) (v:=?_) (a':=?_) #[T,T,F,F,F,F,F,F,F,F,F,F,F] rfl rfl (any_of HT_.out (by kernel_rfl)) (fun _ _ _ h=>h) (Or.inl ⟨by rfl,?_⟩) ?_ ?_
         rotate_left;·intro w';go_simp;with_reducible rfl
         rotate_left;·simp only [Act.put,L_,M_,N_,i64_w,i32_w];rfl
         refine pure_ (i:=2) (N:=some 15) (v:=?_) (a':=?_) #[T,T,T,F,F,F,F,F,F,F,F,F,F] rfl rfl (any_of HT_.out (by kernel_rfl)) (fun _ _ _ h=>h) (Or.inl ⟨by rfl,?_⟩) ?_ ?_
         rotate_left;·intro w';go_simp;with_reducible rfl
         rotate_left;·simp only [Act.put,L_,M_,N_,i64_w,i32_w];rfl
         refine pure_ (i:=3) (N:=some 16) (v:=?_) (a':=?_) #[T,T,T,T,F,F,F,F,F,F,F,F,F] rfl rfl (any_of HT_.out (by kernel_rfl)) (fun _ _ _ h=>h) (Or.inl ⟨by rfl,?_⟩) ?_ ?_
         rotate_left;·intro w';go_simp;with_reducible rfl
         rotate_left;·simp only [Act.put,L_,M_,N_,i64_w,i32_w];rfl
         refine pure_ (i:=4) (N:=some 17) (v:=?_) (a':=?_) #[T,T,T,T,T,F,F,F,F,F,F,F,F] rfl rfl (any_of HT_.out (by kernel_rfl)) (fun _ _ _ h=>h) (Or.inl ⟨by rfl,?_⟩) ?_ ?_
         rotate_left;·intro w';go_simp;with_reducible rfl
         rotate_left;·simp only [Act.put,L_,M_,N_,i64_w,i32_w];rfl
         refine pure_ (i:=6) (N:=some 19) (v:=?_) (a':=?_) #[T,T,T,T,T,F,T,F,F,F,F,F,F] rfl rfl (any_of HT_.out (by kernel_rfl)) (fun _ _ _ h=>h) (Or.inl ⟨by rfl,?_⟩) ?_ ?_
         rotate_left;·intro w';go_simp;with_reducible rfl
         rotate_left;·simp only [Act.put,L_,M_,N_,i64_w,i32_w];rfl
         refine pure_ (i:=7) (N:=some 20) (v:=?_) (a':=?_) #[T,T,T,T,T,F,T,T,F,F,F,F,F] rfl rfl (any_of HT_.out (by kernel_rfl)) (fun _ _ _ h=>h) (Or.inl ⟨by rfl,?_⟩) ?_ ?_
         rotate_left;·intro w';go_simp;with_reducible rfl
         rotate_left;·simp only [Act.put,L_,M_,N_,i64_w,i32_w];rfl
         refine pure_ (i:=8) (N:=some 21) (v:=?_) (a':=?_) #[T,T,T,T,T,F,T,T,T,F,F,F,F] rfl rfl (any_of HT_.out (by kernel_rfl)) (fun _ _ _ h=>h) (Or.inl ⟨by rfl,?_⟩) ?_ ?_
         rotate_left;·intro w';go_simp;with_reducible rfl
         rotate_left;·simp only [Act.put,L_,M_,N_,i64_w,i32_w];rfl
         refine pure_ (i:=10) (N:=some 23) (v:=?_) (a':=?_) #[T,T,T,T,T,F,T,T,T,F,T,F,F] rfl rfl (any_of HT_.out (by kernel_rfl)) (fun _ _ _ h=>h) (Or.inl ⟨by rfl,?_⟩) ?_ ?_
         rotate_left;·intro w';go_simp;with_reducible rfl
         rotate_left;·simp only [Act.put,L_,M_,N_,i64_w,i32_w];rfl
         refine take_ (i:=5) (N:=some 18) (v:=?_) (a':=?_) #[T,T,T,T,T,T,T,T,T,F,T,F,F] rfl rfl (take_ofW HT_.out HW_.out (by kernel_rfl)) (fun _ _ _ h=>h) (Or.inl ⟨by rfl,?_⟩) hHeld ?_ ?_
         rotate_left
         ·rintro w' ⟨s0,s1,s2⟩
          go_simp
          with_reducible rfl
         rotate_left;·simp only [Act.put,L_,M_,N_,i64_w,i32_w];rfl
         refine take_ (i:=9) (N:=some 22) (v:=?_) (a':=?_) #[T,T,T,T,T,T,T,T,T,T,T,F,F] rfl rfl (take_ofW HT_.out HW_.out (by kernel_rfl)) (fun _ _ _ h=>h) (Or.inl ⟨by rfl,?_⟩) hHeld ?_ ?_
         rotate_left
         ·rintro w' ⟨s0,s1,s2⟩
          go_simp
          with_reducible rfl
         rotate_left;·simp only [Act.put,L_,M_,N_,i64_w,i32_w];rfl
         refine one_ (i:=11) (N:=some 24) #[T,T,T,T,T,T,T,T,T,T,T,T,F] rfl rfl (one_of HT_.out (by kernel_rfl)) (by decide) (fun K hK=>?_)
         refine goes_ Tryd.func229 (by kernel_rfl) rfl #[.agg #[.int .i64 a0_0,.slice A0_1 l0_1.length c0_1],.int .i64 (rd x3_1 x5_2),.int .i64 x4_1] (by rfl) rfl rfl au_ ?_
         with_reducible refine (spec_seBefore.calls k2 a0_0 _ _ l0_1 (rd x3_1 x5_2) x4_1 true _ ?side1 ?side2 A7.out).mono ?_
         (case side1=>exact cl_ (Kd.C_below HR0_1.out HB.out))
         (case side2=>exact HC0_1.out)
         rintro e w11 ⟨rfl,hb⟩
         have HS2_:=(hb.cell (World.block_lt_of_cell? _ _ (hHeld.2.2))).trans (hHeld.2.2);refine ⟨_,rfl,?_⟩
         replace HO_3:=rb_ HO_3 hb;replace BK190:=bz BK190 hb;replace HB:=A_ (below_step bb_ hb);(try clear hb);(try clear hb2);(try clear hk);(try clear hi);refine hK.out _ _ ⟨blk_cell BK190.out 0,blk_cell BK190.out 1,HS2_⟩ (fun hHeld=>?_)
         clear hK K;refine norm_ (a':=?_) ?_ ?_
         rotate_left
         ·show Act.put _ (some 24) _ = _
          simp only [Act.put,L_,M_,N_,i64_w,i32_w]
          rfl
         refine pure_ (i:=12) (N:=some 25) (v:=?_) (a':=?_) #[T,T,T,T,T,T,T,T,T,T,T,T,T] rfl rfl (any_of HT_.out (by kernel_rfl)) (fun _ _ _ h=>h) (Or.inl ⟨by rfl,?_⟩) ?_ ?_
         rotate_left;·intro w';go_simp;with_reducible rfl
         rotate_left;·simp only [Act.put,L_,M_,N_,i64_w,i32_w];rfl
         refine done_ (done_of HT_.out (by kernel_rfl)) ?_
         try go_wp2
         go_roundg k2
         case measure=>have:=HK1.out;have:=HK2.out;omega
         case rel=>exact ⟨(wrap64 (x5_2 + 1)),(by first|rfl|(simp;done)|(simp [*];done)),H',⟨by have:=HK1.out;have:=HK2.out;omega⟩,⟨by (with_reducible repeat (first|apply Kd.R_alloc|apply Kd.R_drewN|apply Kd.R_drew));exact HO_3.out⟩,⟨bl_ BK190⟩,⟨bb_⟩⟩
        ·replace c8:=Bool.eq_false_iff.mpr c8;subst c8;have H1 : (if x5_2 ≤ (x3_1.length : Int) then ((spec_l1Own.f (x3_1.take (x5_2 : Int).toNat)).bind fun t197=>(if t197.length < 17592186044416 then ((some (t197 ++ [x4_1] : List Int)).bind fun y200=>((some (x3_1.drop (x5_2 : Int).toNat : List Int)).bind fun y203=>(if y200.length + y203.length < 17592186044416 then (spec_seTrace.l0 k2 (y200 ++ y203) (wrap64 (x4_1 + 1)) a0_0 l0_1) else (none)))) else (none))) else (none)) = some r:=by rw [if_neg (show ¬ (false = true) by decide)] at H;exact H
         clear H;have H:=H1;clear H1;have c12b0:=eq_true (of_decide_eq_true (by first|(with_reducible assumption)|assumption) : 0 ≤ x5_2);by_cases c13 : x5_2 ≤ (x3_1.length : Int)
         ·rw [if_pos c13] at H;have c13b0:=eq_true c13;have c13b1 : decide (x5_2 ≤ (x3_1.length : Int)) = true:=decide_eq_true c13;clear c13;obtain ⟨y193,hy193⟩ : ∃ y_ : List Int,y_ = (x3_1.take (x5_2 : Int).toNat):=⟨_,rfl⟩;replace H : ((spec_l1Own.f y193).bind fun t197=>(if t197.length < 17592186044416 then ((some (t197 ++ [x4_1] : List Int)).bind fun y200=>((some (x3_1.drop (x5_2 : Int).toNat : List Int)).bind fun y203=>(if y200.length + y203.length < 17592186044416 then (spec_seTrace.l0 k2 (y200 ++ y203) (wrap64 (x4_1 + 1)) a0_0 l0_1) else (none)))) else (none))) = some r:=by first|(rw [hy193];with_reducible exact H)|(have H2_:=(Option.bind_some _ _).symm.trans H;rw [hy193];with_reducible exact H2_)|(have H2_:=(Option.bind_some _ _).symm.trans H;with_reducible exact H2_)|with_reducible exact H|(rw [hy193];exact H)|exact H
          have Ny193:=A_ hy193;clear hy193;replace H:=Option.bind_eq_some_iff.mp H;obtain ⟨t197,A140,H⟩:=H;replace H : (if t197.length < 17592186044416 then ((some (t197 ++ [x4_1] : List Int)).bind fun y200=>((some (x3_1.drop (x5_2 : Int).toNat : List Int)).bind fun y203=>(if y200.length + y203.length < 17592186044416 then (spec_seTrace.l0 k2 (y200 ++ y203) (wrap64 (x4_1 + 1)) a0_0 l0_1) else (none)))) else (none)) = some r:=H;have A14:=A_ A140;clear A140;by_cases c15 : t197.length < 17592186044416
          ·rw [if_pos c15] at H;have LMc15:=A_ c15;clear c15;obtain ⟨y200,hy200⟩ : ∃ y_ : List Int,y_ = (t197 ++ [x4_1]):=⟨_,rfl⟩;replace H : ((some (x3_1.drop (x5_2 : Int).toNat : List Int)).bind fun y203=>(if y200.length + y203.length < 17592186044416 then (spec_seTrace.l0 k2 (y200 ++ y203) (wrap64 (x4_1 + 1)) a0_0 l0_1) else (none))) = some r:=by first|(rw [hy200];with_reducible exact H)|(have H2_:=(Option.bind_some _ _).symm.trans H;rw [hy200];with_reducible exact H2_)|(have H2_:=(Option.bind_some _ _).symm.trans H;with_reducible exact H2_)|with_reducible exact H|(rw [hy200];exact H)|exact H
           have Ny200:=A_ hy200;clear hy200;have c16b0:=eq_true (of_decide_eq_true (by first|(with_reducible assumption)|assumption) : 0 ≤ x5_2);have c17b0:=eq_true (of_decide_eq_true (by first|(with_reducible assumption)|assumption) : x5_2 ≤ (x3_1.length : Int));obtain ⟨y203,hy203⟩ : ∃ y_ : List Int,y_ = (x3_1.drop (x5_2 : Int).toNat):=⟨_,rfl⟩;replace H : (if y200.length + y203.length < 17592186044416 then (spec_seTrace.l0 k2 (y200 ++ y203) (wrap64 (x4_1 + 1)) a0_0 l0_1) else (none)) = some r:=by first|(rw [hy203];with_reducible exact H)|(have H2_:=(Option.bind_some _ _).symm.trans H;rw [hy203];with_reducible exact H2_)|(have H2_:=(Option.bind_some _ _).symm.trans H;with_reducible exact H2_)|with_reducible exact H|(rw [hy203];exact H)|exact H
           have Ny203:=A_ hy203;clear hy203;by_cases c18 : y200.length + y203.length < 17592186044416
           ·rw [if_pos c18] at H;have LMc18:=A_ c18;clear c18;obtain ⟨y207,hy207⟩ : ∃ y_ : List Int,y_ = (y200 ++ y203):=⟨_,rfl⟩;replace H : (spec_seTrace.l0 k2 y207 (wrap64 (x4_1 + 1)) a0_0 l0_1) = some r:=by first|(rw [hy207];with_reducible exact H)|(have H2_:=(Option.bind_some _ _).symm.trans H;rw [hy207];with_reducible exact H2_)|(have H2_:=(Option.bind_some _ _).symm.trans H;with_reducible exact H2_)|with_reducible exact H|(rw [hy207];exact H)|exact H
            have Ny207:=A_ hy207;clear hy207;have H':=A_ H;clear H;try go_wp2
            replace HO_3:=A_ (Kd.R_drew HO_3.out);replace BK190:=A_ (blk_drew BK190.out);replace HB:=A_ (below_drew1 HB.out);obtain ⟨Ao20,co20,eo20⟩:=Kd.R_slice HO_3.out;(first|subst eo20|(injection eo20 with f1_ f2_ f3_;have f4_:=f1_.symm;have f5_:=f3_.symm;clear f1_ f2_ f3_;subst f4_;subst f5_))
            have p191 : 0 ≤ (x5_2 : Int):=of_decide_eq_true (by first|(with_reducible assumption)|assumption);have q191 : x5_2 < (x3_1.length : Int):=of_decide_eq_true (by first|(with_reducible assumption)|assumption);obtain ⟨ad191,e191,hx191_0⟩:=Kd.at_int (Kd.R_reads' HO_3.out).2.2 x5_2 p191 q191;cases e191
            replace p191:=eq_true p191;replace q191:=eq_true q191;refine start_ (n:=13) (S:=fun w'=>w'.cell? ⟨gb190,0,none⟩ = some (.int .i64 a0_0) ∧ w'.cell? ⟨gb190,1,none⟩ = some (.slice A0_1 l0_1.length c0_1) ∧ w'.cell? (ad191.add (x5_2).toNat) = some (.int .i64 (rd x3_1 x5_2))) (ds:=[]) #[F,F,F,F,F,F,F,F,F,F,F,F,F] (by kernel_rfl) rfl rfl ⟨blk_cell BK190.out 0,blk_cell BK190.out 1,hx191_0⟩ (fun hHeld=>?_);refine with_tabW spec_seTrace.tab6 spec_seTrace.bits6 (fun HT_ HW_=>?_)
            generalize wr.drew = w19 at HO_3 BK190 HB hx191_0 hHeld ⊢
            refine pure_ (i:=0) (N:=some 13) (v:=?_) (a':=?_) #[T,F,F,F,F,F,F,F,F,F,F,F,F] rfl rfl (any_of HT_.out (by kernel_rfl)) (fun _ _ _ h=>h) (Or.inl ⟨by rfl,?_⟩) ?_ ?_
            rotate_left;·intro w';go_simp;with_reducible rfl
            rotate_left;·simp only [Act.put,L_,M_,N_,i64_w,i32_w];rfl
            refine pure_ (i:=1) (N:=some 14) (v:=?_) (a':=?_) #[T,T,F,F,F,F,F,F,F,F,F,F,F] rfl rfl (any_of HT_.out (by kernel_rfl)) (fun _ _ _ h=>h) (Or.inl ⟨by rfl,?_⟩) ?_ ?_
            rotate_left;·intro w';go_simp;with_reducible rfl
            rotate_left;·simp only [Act.put,L_,M_,N_,i64_w,i32_w];rfl
            refine pure_ (i:=2) (N:=some 15) (v:=?_) (a':=?_) #[T,T,T,F,F,F,F,F,F,F,F,F,F] rfl rfl (any_of HT_.out (by kernel_rfl)) (fun _ _ _ h=>h) (Or.inl ⟨by rfl,?_⟩) ?_ ?_
            rotate_left;·intro w';go_simp;with_reducible rfl
            rotate_left;·simp only [Act.put,L_,M_,N_,i64_w,i32_w];rfl
            refine pure_ (i:=3) (N:=some 16) (v:=?_) (a':=?_) #[T,T,T,T,F,F,F,F,F,F,F,F,F] rfl rfl (any_of HT_.out (by kernel_rfl)) (fun _ _ _ h=>h) (Or.inl ⟨by rfl,?_⟩) ?_ ?_
            rotate_left;·intro w';go_simp;with_reducible rfl
            rotate_left;·simp only [Act.put,L_,M_,N_,i64_w,i32_w];rfl
            refine pure_ (i:=4) (N:=some 17) (v:=?_) (a':=?_) #[T,T,T,T,T,F,F,F,F,F,F,F,F] rfl rfl (any_of HT_.out (by kernel_rfl)) (fun _ _ _ h=>h) (Or.inl ⟨by rfl,?_⟩) ?_ ?_
            rotate_left;·intro w';go_simp;with_reducible rfl
            rotate_left;·simp only [Act.put,L_,M_,N_,i64_w,i32_w];rfl
            refine pure_ (i:=6) (N:=some 19) (v:=?_) (a':=?_) #[T,T,T,T,T,F,T,F,F,F,F,F,F] rfl rfl (any_of HT_.out (by kernel_rfl)) (fun _ _ _ h=>h) (Or.inl ⟨by rfl,?_⟩) ?_ ?_
            rotate_left;·intro w';go_simp;with_reducible rfl
            rotate_left;·simp only [Act.put,L_,M_,N_,i64_w,i32_w];rfl
            refine pure_ (i:=7) (N:=some 20) (v:=?_) (a':=?_) #[T,T,T,T,T,F,T,T,F,F,F,F,F] rfl rfl (any_of HT_.out (by kernel_rfl)) (fun _ _ _ h=>h) (Or.inl ⟨by rfl,?_⟩) ?_ ?_
            rotate_left;·intro w';go_simp;with_reducible rfl
            rotate_left;·simp only [Act.put,L_,M_,N_,i64_w,i32_w];rfl
            refine pure_ (i:=8) (N:=some 21) (v:=?_) (a':=?_) #[T,T,T,T,T,F,T,T,T,F,F,F,F] rfl rfl (any_of HT_.out (by kernel_rfl)) (fun _ _ _ h=>h) (Or.inl ⟨by rfl,?_⟩) ?_ ?_
            rotate_left;·intro w';go_simp;with_reducible rfl
            rotate_left;·simp only [Act.put,L_,M_,N_,i64_w,i32_w];rfl
            refine pure_ (i:=10) (N:=some 23) (v:=?_) (a':=?_) #[T,T,T,T,T,F,T,T,T,F,T,F,F] rfl rfl (any_of HT_.out (by kernel_rfl)) (fun _ _ _ h=>h) (Or.inl ⟨by rfl,?_⟩) ?_ ?_
            rotate_left;·intro w';go_simp;with_reducible rfl
            rotate_left;·simp only [Act.put,L_,M_,N_,i64_w,i32_w];rfl
            refine take_ (i:=5) (N:=some 18) (v:=?_) (a':=?_) #[T,T,T,T,T,T,T,T,T,F,T,F,F] rfl rfl (take_ofW HT_.out HW_.out (by kernel_rfl)) (fun _ _ _ h=>h) (Or.inl ⟨by rfl,?_⟩) hHeld ?_ ?_
            rotate_left
            ·rintro w' ⟨s0,s1,s2⟩
             go_simp
             with_reducible rfl
            rotate_left;·simp only [Act.put,L_,M_,N_,i64_w,i32_w];rfl
            refine take_ (i:=9) (N:=some 22) (v:=?_) (a':=?_) #[T,T,T,T,T,T,T,T,T,T,T,F,F] rfl rfl (take_ofW HT_.out HW_.out (by kernel_rfl)) (fun _ _ _ h=>h) (Or.inl ⟨by rfl,?_⟩) hHeld ?_ ?_
            rotate_left
            ·rintro w' ⟨s0,s1,s2⟩
             go_simp
             with_reducible rfl
            rotate_left;·simp only [Act.put,L_,M_,N_,i64_w,i32_w];rfl
            refine one_ (i:=11) (N:=some 24) #[T,T,T,T,T,T,T,T,T,T,T,T,F] rfl rfl (one_of HT_.out (by kernel_rfl)) (by decide) (fun K hK=>?_)
            refine goes_ Tryd.func229 (by kernel_rfl) rfl #[.agg #[.int .i64 a0_0,.slice A0_1 l0_1.length c0_1],.int .i64 (rd x3_1 x5_2),.int .i64 x4_1] (by rfl) rfl rfl au_ ?_
            with_reducible refine (spec_seBefore.calls k2 a0_0 _ _ l0_1 (rd x3_1 x5_2) x4_1 false _ ?side1 ?side2 A7.out).mono ?_
            (case side1=>exact cl_ (Kd.C_below HR0_1.out HB.out))
            (case side2=>exact HC0_1.out)
            rintro e w21 ⟨rfl,hb⟩
            have HS2_:=(hb.cell (World.block_lt_of_cell? _ _ (hHeld.2.2))).trans (hHeld.2.2);refine ⟨_,rfl,?_⟩
            replace HO_3:=rb_ HO_3 hb;replace BK190:=bz BK190 hb;replace HB:=A_ (below_step bb_ hb);(try clear hb);(try clear hb2);(try clear hk);(try clear hi);refine hK.out _ _ ⟨blk_cell BK190.out 0,blk_cell BK190.out 1,HS2_⟩ (fun hHeld=>?_)
            clear hK K;refine norm_ (a':=?_) ?_ ?_
            rotate_left
            ·show Act.put _ (some 24) _ = _
             simp only [Act.put,L_,M_,N_,i64_w,i32_w]
             rfl
            refine pure_ (i:=12) (N:=some 25) (v:=?_) (a':=?_) #[T,T,T,T,T,T,T,T,T,T,T,T,T] rfl rfl (any_of HT_.out (by kernel_rfl)) (fun _ _ _ h=>h) (Or.inl ⟨by rfl,?_⟩) ?_ ?_
            rotate_left;·intro w';go_simp;with_reducible rfl
            rotate_left;·simp only [Act.put,L_,M_,N_,i64_w,i32_w];rfl
            refine done_ (done_of HT_.out (by kernel_rfl)) ?_
            have q22 : (x5_2 : Int) ≤ ((x3_1.length : Int) : Int):=of_decide_eq_true (by first|(with_reducible assumption)|assumption);obtain ⟨i022,hi022,_,hsz22,_⟩:=info_parts info3;have hroom22 : x3_1.length ≤ co20:=(Kd.R_reads' HO_3.out).2.1;have hC22 : Kd.C (Kd.int .i64) _ (some ad191) x3_1.length x3_1:=(Kd.R_reads' HO_3.out).2.2;have hcut22:=cut_to (P:=Tryd.prog) 22 3 .i64 Tryd.underlying22 hi022 (some ad191) x3_1.length co20 x5_2 (of_decide_eq_true (by first|(with_reducible assumption)|assumption)) q22 hroom22;have hr22:=Kd.C_take (m:=(x5_2 : Int).toNat) hC22 (by omega);have hy22 : y193.length = (x5_2 : Int).toNat:=(by rw [Ny193.out,U_];omega);rw [← Ny193.out] at hr22;rw [← hy22] at hcut22;have HR196:=A_ hr22;have HC196:=A_ (show y193.length ≤ co20 from by omega);clear hr22 hC22 hroom22 hi022 hsz22;have KY22:=A_ hy22;clear hy22;have KL22:=A_ (show (x5_2 : Int).toNat ≤ x3_1.length from by omega);replace q22:=eq_true q22;try go_wp2_with (first|((with_reducible refine gate_callee (f:=202) rfl ?_);refine goesL_ (some 31) rfl rfl Tryd.func202 (by kernel_rfl) rfl #[.slice (some ad191) y193.length co20] rfl au_ ?_;(with_reducible refine (spec_l1Own.calls _ _ y193 t197 _ ?side1 ?side2 A14.out).mono ?_);(case side1=>repeat (first|exact (by repeat (first|(with_reducible exact HR196.out)|(with_reducible refine Kd.C_alloc ?_ _)|(with_reducible refine Kd.C_drewN ?_ _)|(with_reducible refine Kd.C_drew ?_)|exact HR196.out))|(with_reducible refine Kd.C_alloc ?_ _)|(with_reducible refine Kd.C_drewN ?_ _)|(with_reducible refine Kd.C_drew ?_)));(case side2=>exact HC196.out);rintro e w23 ⟨v198,rfl,ho0,hb⟩;refine ⟨_,rfl,?_⟩;have HO199:=A_ (Kd.R_lower (Kd.R_new' ho0 (Kd.R_lt (rl_ HO_3))) (below_size bb_));replace HO_3:=A_ (Kd.R_elder' (rl_ HO_3) (Kd.R_base ho0) hb);replace BK190:=bz BK190 hb;replace HR196:=A_ (Kd.C_below (by repeat (first|(with_reducible exact HR196.out)|(with_reducible refine Kd.C_alloc ?_ _)|(with_reducible refine Kd.C_drewN ?_ _)|(with_reducible refine Kd.C_drew ?_)|exact HR196.out)) hb);replace HB:=A_ (below_step bb_ hb);(try clear hb);(try clear hb2);(try clear hk);(try clear hi);(try clear ho0))|((with_reducible refine gate_builtin (b:=.append) (xs:=#[.tmp 31,.tmp 33]) rfl ?_);at_builtin;refine Kd.R_append (Kd.int .i64) (w0:=w) w.heap.size rfl (.tmp 31) (.tmp 33) 22 3 (.int .i64 0) 8 rfl Tryd.underlying22 info3 rfl (by decide) (by omega) v198 t197 x4_1 [.int .i64 x4_1] (fun k_=>some k_ ≠ (.slice (some ad191) x3_1.length co20 : Value).ownBlock) (fun _=>False) rfl rfl ?aP (fun _ hk=>hk.elim) ?aF ?aO ?aB ?aS ?aL ?_;(case aP=>exact rfl);(case aB=>exact bb_);(case aF=>exact (fun k_ hk=>Kd.fresh' (Kd.R_lt (rl_ HO_3)) k_ hk));(case aO=>exact (by (with_reducible repeat (first|apply Kd.R_alloc|apply Kd.R_drewN|apply Kd.R_drew));exact Kd.R_mono HO199.out (fun _ hk=>hk.2)));(case aS=>exact (below_size bb_));(case aL=>have:=LMc15.out;omega);intro v201 w24 ho hb hg hat;rw [← Ny200.out] at ho;replace BK190:=A_ (blk_grown (g:=gb190) (o:=.cells #[.int .i64 a0_0,.slice A0_1 l0_1.length c0_1] 28 (0,0)) (bl_ BK190) hg (Kd.R_ne HO199.out BK190.out (by decide)));replace HB:=A_ (hb);replace HR196:=A_ ((show Kd.C (Kd.int .i64) w24 (some ad191) y193.length y193 from by rw [Ny193.out];exact Kd.C_take (m:=(x5_2 : Int).toNat) ((Kd.R_reads' (Kd.R_after (ok:=(fun _=>True)) (rl_ HO_3) hg hat)).2.2) KL22.out));replace HO_3:=A_ (Kd.R_after (ok:=(fun _=>True)) (rl_ HO_3) hg hat);have HO202:=A_ (ho);clear HO199;clear ho hb hg hat;have q25 : (x5_2 : Int) ≤ ((x3_1.length : Int) : Int):=of_decide_eq_true (by first|(with_reducible assumption)|assumption);obtain ⟨i025,hi025,_,hsz25,_⟩:=info_parts info3;have hroom25 : x3_1.length ≤ co20:=(Kd.R_reads' HO_3.out).2.1;have hC25 : Kd.C (Kd.int .i64) _ (some ad191) x3_1.length x3_1:=(Kd.R_reads' HO_3.out).2.2;have q025 : (0 : Int) ≤ (x5_2 : Int):=of_decide_eq_true (by first|(with_reducible assumption)|assumption);have hcut25:=cut_from (P:=Tryd.prog) 22 3 .i64 Tryd.underlying22 hi025 1 hsz25 (some ad191) x3_1.length co20 x5_2 q025 q25;have hr25:=Kd.C_drop (m:=(x5_2 : Int).toNat) (c:=co20) hC25 (by omega) hroom25;obtain ⟨A25,hA25⟩ : ∃ A1,A1 = (if co20 = (x5_2 : Int).toNat then (some ad191) else ((some ad191) : Option Addr).map (·.add ((x5_2 : Int).toNat * 1))):=⟨_,rfl⟩;obtain ⟨c25,hc25⟩ : ∃ c1,c1 = co20 - (x5_2 : Int).toNat:=⟨_,rfl⟩;have hy25 : y203.length = x3_1.length - (x5_2 : Int).toNat:=(by rw [Ny203.out,S_] <;> omega);rw [show (x3_1).drop (x5_2 : Int).toNat = y203 from Ny203.out.symm] at hr25;replace hr25 : Kd.C (Kd.int .i64) _ A25 y203.length y203:=(by rw [hA25];exact hr25);rw [← hy25,← hA25,← hc25] at hcut25;have HR206:=A_ hr25;have HC206:=A_ (show y203.length ≤ c25 from by rw [hy25,hc25];exact Nat.sub_le_sub_right hroom25 _);clear hr25 hC25 hroom25 hi025 hsz25 hc25;have KY25:=A_ hy25;have KA25:=A_ hA25;clear hy25 hA25;have KL25:=A_ (show (x5_2 : Int).toNat ≤ x3_1.length from by omega);replace q25:=eq_true q25)|((with_reducible refine gate_builtin (b:=.append) (xs:=#[.tmp 35,.tmp 38]) rfl ?_);at_builtin;refine Kd.R_append_rows (Kd.int .i64) (w0:=w) w.heap.size rfl (.tmp 35) (.tmp 38) 22 3 (.int .i64 0) 8 rfl Tryd.underlying22 info3 rfl (by decide) (by omega) v201 y200 y203 _ _ _ (fun k_=>some k_ ≠ (.slice (some ad191) x3_1.length co20 : Value).ownBlock) (fun _=>False) rfl rfl ?aO ?aR (fun _ _ h=>h) (fun _ h=>h.elim) ?aF ?aB ?aS ?aL ?_;(case aR=>repeat (first|exact (by repeat (first|(with_reducible exact HR206.out)|(with_reducible refine Kd.C_alloc ?_ _)|(with_reducible refine Kd.C_drewN ?_ _)|(with_reducible refine Kd.C_drew ?_)|exact HR206.out))|(with_reducible refine Kd.C_alloc ?_ _)|(with_reducible refine Kd.C_drewN ?_ _)|(with_reducible refine Kd.C_drew ?_)));(case aB=>exact bb_);(case aF=>exact (fun k_ hk=>Kd.fresh' (Kd.R_lt (rl_ HO_3)) k_ hk));(case aO=>exact (rl_ HO202));(case aS=>exact (below_size bb_));(case aL=>have:=LMc18.out;omega);intro v208 w26 ho hb hg hat;rw [← Ny207.out] at ho;replace BK190:=A_ (blk_grown (g:=gb190) (o:=.cells #[.int .i64 a0_0,.slice A0_1 l0_1.length c0_1] 28 (0,0)) (bl_ BK190) hg (Kd.R_ne HO202.out BK190.out (by decide)));replace HB:=A_ (hb);replace HR196:=A_ ((show Kd.C (Kd.int .i64) w26 (some ad191) y193.length y193 from by rw [Ny193.out];exact Kd.C_take (m:=(x5_2 : Int).toNat) ((Kd.R_reads' (Kd.R_after (ok:=(fun _=>True)) (rl_ HO_3) hg hat)).2.2) KL22.out));replace HR206:=A_ ((show Kd.C (Kd.int .i64) w26 A25 y203.length y203 from by rw [Ny203.out,KA25.out];exact Kd.C_drop (m:=(x5_2 : Int).toNat) (c:=co20) ((Kd.R_reads' (Kd.R_after (ok:=(fun _=>True)) (rl_ HO_3) hg hat)).2.2) KL25.out ((Kd.R_reads' (Kd.R_after (ok:=(fun _=>True)) (rl_ HO_3) hg hat)).2.1)));replace HO_3:=A_ (Kd.R_after (ok:=(fun _=>True)) (rl_ HO_3) hg hat);have HO209:=A_ (ho);clear HO202;clear ho hb hg hat))
            go_roundg k2
            case measure=>have:=HK1.out;have:=HK2.out;omega
            case rel=>exact ⟨(y207),(wrap64 (x4_1 + 1)),(by first|rfl|(simp;done)|(simp [*];done)),H',⟨by have:=HK1.out;have:=HK2.out;omega⟩,⟨by (with_reducible repeat (first|apply Kd.R_alloc|apply Kd.R_drewN|apply Kd.R_drew));exact Kd.R_mono HO209.out (fun _ hk=>trivial)⟩,⟨bl_ BK190⟩,⟨bb_⟩⟩
           ·rw [if_neg c18] at H;exact absurd H (by simp)
          ·rw [if_neg c15] at H;exact absurd H (by simp)
         ·rw [if_neg c13] at H;exact absurd H (by simp)
       ·rw [if_neg c6] at H;exact absurd H (by simp)
      ·rw [if_neg c5] at H;have c5b0 : decide (x5_2 < (x3_1.length : Int)) = false:=decide_eq_false c5;clear c5;by_cases c27 : 0 ≤ x5_2
       ·rw [if_pos c27] at H;have c27b0:=eq_true c27;have c27b1 : decide (0 ≤ x5_2) = true:=decide_eq_true c27;clear c27;by_cases c28 : x5_2 ≤ (x3_1.length : Int)
        ·rw [if_pos c28] at H;have c28b0:=eq_true c28;have c28b1 : decide (x5_2 ≤ (x3_1.length : Int)) = true:=decide_eq_true c28;clear c28;obtain ⟨y210,hy210⟩ : ∃ y_ : List Int,y_ = (x3_1.take (x5_2 : Int).toNat):=⟨_,rfl⟩;replace H : ((spec_l1Own.f y210).bind fun t214=>(if t214.length < 17592186044416 then ((some (t214 ++ [x4_1] : List Int)).bind fun y217=>((some (x3_1.drop (x5_2 : Int).toNat : List Int)).bind fun y220=>(if y217.length + y220.length < 17592186044416 then (spec_seTrace.l0 k2 (y217 ++ y220) (wrap64 (x4_1 + 1)) a0_0 l0_1) else (none)))) else (none))) = some r:=by first|(rw [hy210];with_reducible exact H)|(have H2_:=(Option.bind_some _ _).symm.trans H;rw [hy210];with_reducible exact H2_)|(have H2_:=(Option.bind_some _ _).symm.trans H;with_reducible exact H2_)|with_reducible exact H|(rw [hy210];exact H)|exact H
         have Ny210:=A_ hy210;clear hy210;replace H:=Option.bind_eq_some_iff.mp H;obtain ⟨t214,A290,H⟩:=H;replace H : (if t214.length < 17592186044416 then ((some (t214 ++ [x4_1] : List Int)).bind fun y217=>((some (x3_1.drop (x5_2 : Int).toNat : List Int)).bind fun y220=>(if y217.length + y220.length < 17592186044416 then (spec_seTrace.l0 k2 (y217 ++ y220) (wrap64 (x4_1 + 1)) a0_0 l0_1) else (none)))) else (none)) = some r:=H;have A29:=A_ A290;clear A290;by_cases c30 : t214.length < 17592186044416
         ·rw [if_pos c30] at H;have LMc30:=A_ c30;clear c30;obtain ⟨y217,hy217⟩ : ∃ y_ : List Int,y_ = (t214 ++ [x4_1]):=⟨_,rfl⟩;replace H : ((some (x3_1.drop (x5_2 : Int).toNat : List Int)).bind fun y220=>(if y217.length + y220.length < 17592186044416 then (spec_seTrace.l0 k2 (y217 ++ y220) (wrap64 (x4_1 + 1)) a0_0 l0_1) else (none))) = some r:=by first|(rw [hy217];with_reducible exact H)|(have H2_:=(Option.bind_some _ _).symm.trans H;rw [hy217];with_reducible exact H2_)|(have H2_:=(Option.bind_some _ _).symm.trans H;with_reducible exact H2_)|with_reducible exact H|(rw [hy217];exact H)|exact H
          have Ny217:=A_ hy217;clear hy217;have c31b0:=eq_true (of_decide_eq_true (by first|(with_reducible assumption)|assumption) : 0 ≤ x5_2);have c32b0:=eq_true (of_decide_eq_true (by first|(with_reducible assumption)|assumption) : x5_2 ≤ (x3_1.length : Int));obtain ⟨y220,hy220⟩ : ∃ y_ : List Int,y_ = (x3_1.drop (x5_2 : Int).toNat):=⟨_,rfl⟩;replace H : (if y217.length + y220.length < 17592186044416 then (spec_seTrace.l0 k2 (y217 ++ y220) (wrap64 (x4_1 + 1)) a0_0 l0_1) else (none)) = some r:=by first|(rw [hy220];with_reducible exact H)|(have H2_:=(Option.bind_some _ _).symm.trans H;rw [hy220];with_reducible exact H2_)|(have H2_:=(Option.bind_some _ _).symm.trans H;with_reducible exact H2_)|with_reducible exact H|(rw [hy220];exact H)|exact H
          have Ny220:=A_ hy220;clear hy220;by_cases c33 : y217.length + y220.length < 17592186044416
          ·rw [if_pos c33] at H;have LMc33:=A_ c33;clear c33;obtain ⟨y224,hy224⟩ : ∃ y_ : List Int,y_ = (y217 ++ y220):=⟨_,rfl⟩;replace H : (spec_seTrace.l0 k2 y224 (wrap64 (x4_1 + 1)) a0_0 l0_1) = some r:=by first|(rw [hy224];with_reducible exact H)|(have H2_:=(Option.bind_some _ _).symm.trans H;rw [hy224];with_reducible exact H2_)|(have H2_:=(Option.bind_some _ _).symm.trans H;with_reducible exact H2_)|with_reducible exact H|(rw [hy224];exact H)|exact H
           have Ny224:=A_ hy224;clear hy224;have H':=A_ H;clear H;try go_wp2
           replace HO_3:=A_ (Kd.R_drew HO_3.out);replace BK190:=A_ (blk_drew BK190.out);replace HB:=A_ (below_drew1 HB.out);obtain ⟨Ao35,co35,eo35⟩:=Kd.R_slice HO_3.out;(first|subst eo35|(injection eo35 with f1_ f2_ f3_;have f4_:=f1_.symm;have f5_:=f3_.symm;clear f1_ f2_ f3_;subst f4_;subst f5_))
           refine start_ (n:=13) (S:=fun w'=>True) (ds:=[]) #[F,F,F,F,F,F,F,F,F,F,F,F,F] (by kernel_rfl) rfl rfl trivial (fun hHeld=>?_);refine with_tabW spec_seTrace.tab6 spec_seTrace.bits6 (fun HT_ HW_=>?_)
           generalize wr.drew = w34 at HO_3 BK190 HB hHeld ⊢
           refine pure_ (i:=0) (N:=some 13) (v:=?_) (a':=?_) #[T,F,F,F,F,F,F,F,F,F,F,F,F] rfl rfl (any_of HT_.out (by kernel_rfl)) (fun _ _ _ h=>h) (Or.inl ⟨by rfl,?_⟩) ?_ ?_
           rotate_left;·intro w';go_simp;with_reducible rfl
           rotate_left;·simp only [Act.put,L_,M_,N_,i64_w,i32_w];rfl
           refine pure_ (i:=1) (N:=some 14) (v:=?_) (a':=?_) #[T,T,F,F,F,F,F,F,F,F,F,F,F] rfl rfl (any_of HT_.out (by kernel_rfl)) (fun _ _ _ h=>h) (Or.inl ⟨by rfl,?_⟩) ?_ ?_
           rotate_left;·intro w';go_simp;with_reducible rfl
           rotate_left;·simp only [Act.put,L_,M_,N_,i64_w,i32_w];rfl
           refine pure_ (i:=2) (N:=some 15) (v:=?_) (a':=?_) #[T,T,T,F,F,F,F,F,F,F,F,F,F] rfl rfl (any_of HT_.out (by kernel_rfl)) (fun _ _ _ h=>h) (Or.inl ⟨by rfl,?_⟩) ?_ ?_
           rotate_left;·intro w';go_simp;with_reducible rfl
           rotate_left;·simp only [Act.put,L_,M_,N_,i64_w,i32_w];rfl
           refine pure_ (i:=3) (N:=some 16) (v:=?_) (a':=?_) #[T,T,T,T,F,F,F,F,F,F,F,F,F] rfl rfl (any_of HT_.out (by kernel_rfl)) (fun _ _ _ h=>h) (Or.inl ⟨by rfl,?_⟩) ?_ ?_
           rotate_left;·intro w';go_simp;with_reducible rfl
           rotate_left;·simp only [Act.put,L_,M_,N_,i64_w,i32_w];rfl
           refine pure_ (i:=4) (N:=some 17) (v:=?_) (a':=?_) #[T,T,T,T,T,F,F,F,F,F,F,F,F] rfl rfl (any_of HT_.out (by kernel_rfl)) (fun _ _ _ h=>h) (Or.inl ⟨by rfl,?_⟩) ?_ ?_
           rotate_left;·intro w';go_simp;with_reducible rfl
           rotate_left;·simp only [Act.put,L_,M_,N_,i64_w,i32_w];rfl
           refine pure_ (i:=5) (N:=some 18) (v:=undef) (a':=?_) #[T,T,T,T,T,T,F,F,F,F,F,F,F] rfl rfl (any_of HT_.out (by kernel_rfl)) (fun _ _ _ h=>h) (Or.inr ⟨by rfl,rfl⟩) ?_ ?_
           rotate_left;·simp only [Act.put,L_,M_,N_,i64_w,i32_w];rfl
           refine pure_ (i:=6) (N:=some 19) (v:=undef) (a':=?_) #[T,T,T,T,T,T,T,F,F,F,F,F,F] rfl rfl (any_of HT_.out (by kernel_rfl)) (fun _ _ _ h=>h) (Or.inr ⟨by rfl,rfl⟩) ?_ ?_
           rotate_left;·simp only [Act.put,L_,M_,N_,i64_w,i32_w];rfl
           refine pure_ (i:=7) (N:=some 20) (v:=undef) (a':=?_) #[T,T,T,T,T,T,T,T,F,F,F,F,F] rfl rfl (any_of HT_.out (by kernel_rfl)) (fun _ _ _ h=>h) (Or.inr ⟨by rfl,rfl⟩) ?_ ?_
           rotate_left;·simp only [Act.put,L_,M_,N_,i64_w,i32_w];rfl
           refine pure_ (i:=8) (N:=some 21) (v:=undef) (a':=?_) #[T,T,T,T,T,T,T,T,T,F,F,F,F] rfl rfl (any_of HT_.out (by kernel_rfl)) (fun _ _ _ h=>h) (Or.inr ⟨by rfl,rfl⟩) ?_ ?_
           rotate_left;·simp only [Act.put,L_,M_,N_,i64_w,i32_w];rfl
           refine pure_ (i:=9) (N:=some 22) (v:=undef) (a':=?_) #[T,T,T,T,T,T,T,T,T,T,F,F,F] rfl rfl (any_of HT_.out (by kernel_rfl)) (fun _ _ _ h=>h) (Or.inr ⟨by rfl,rfl⟩) ?_ ?_
           rotate_left;·simp only [Act.put,L_,M_,N_,i64_w,i32_w];rfl
           refine pure_ (i:=10) (N:=some 23) (v:=undef) (a':=?_) #[T,T,T,T,T,T,T,T,T,T,T,F,F] rfl rfl (any_of HT_.out (by kernel_rfl)) (fun _ _ _ h=>h) (Or.inr ⟨by rfl,rfl⟩) ?_ ?_
           rotate_left;·simp only [Act.put,L_,M_,N_,i64_w,i32_w];rfl
           refine pure_ (i:=11) (N:=some 24) (v:=undef) (a':=?_) #[T,T,T,T,T,T,T,T,T,T,T,T,F] rfl rfl (any_of HT_.out (by kernel_rfl)) (fun _ _ _ h=>h) (Or.inr ⟨by rfl,rfl⟩) ?_ ?_
           rotate_left;·simp only [Act.put,L_,M_,N_,i64_w,i32_w];rfl
           refine pure_ (i:=12) (N:=some 25) (v:=?_) (a':=?_) #[T,T,T,T,T,T,T,T,T,T,T,T,T] rfl rfl (any_of HT_.out (by kernel_rfl)) (fun _ _ _ h=>h) (Or.inl ⟨by rfl,?_⟩) ?_ ?_
           rotate_left;·intro w';go_simp;with_reducible rfl
           rotate_left;·simp only [Act.put,L_,M_,N_,i64_w,i32_w];rfl
           refine done_ (done_of HT_.out (by kernel_rfl)) ?_
           have q36 : (x5_2 : Int) ≤ ((x3_1.length : Int) : Int):=of_decide_eq_true (by first|(with_reducible assumption)|assumption);obtain ⟨i036,hi036,_,hsz36,_⟩:=info_parts info3;have hroom36 : x3_1.length ≤ co35:=(Kd.R_reads' HO_3.out).2.1;have hC36 : Kd.C (Kd.int .i64) _ Ao35 x3_1.length x3_1:=(Kd.R_reads' HO_3.out).2.2;have hcut36:=cut_to (P:=Tryd.prog) 22 3 .i64 Tryd.underlying22 hi036 Ao35 x3_1.length co35 x5_2 (of_decide_eq_true (by first|(with_reducible assumption)|assumption)) q36 hroom36;have hr36:=Kd.C_take (m:=(x5_2 : Int).toNat) hC36 (by omega);have hy36 : y210.length = (x5_2 : Int).toNat:=(by rw [Ny210.out,U_];omega);rw [← Ny210.out] at hr36;rw [← hy36] at hcut36;have HR213:=A_ hr36;have HC213:=A_ (show y210.length ≤ co35 from by omega);clear hr36 hC36 hroom36 hi036 hsz36;have KY36:=A_ hy36;clear hy36;have KL36:=A_ (show (x5_2 : Int).toNat ≤ x3_1.length from by omega);replace q36:=eq_true q36;try go_wp2_with (first|((with_reducible refine gate_callee (f:=202) rfl ?_);refine goesL_ (some 31) rfl rfl Tryd.func202 (by kernel_rfl) rfl #[.slice Ao35 y210.length co35] rfl au_ ?_;(with_reducible refine (spec_l1Own.calls _ _ y210 t214 _ ?side1 ?side2 A29.out).mono ?_);(case side1=>repeat (first|exact (by repeat (first|(with_reducible exact HR213.out)|(with_reducible refine Kd.C_alloc ?_ _)|(with_reducible refine Kd.C_drewN ?_ _)|(with_reducible refine Kd.C_drew ?_)|exact HR213.out))|(with_reducible refine Kd.C_alloc ?_ _)|(with_reducible refine Kd.C_drewN ?_ _)|(with_reducible refine Kd.C_drew ?_)));(case side2=>exact HC213.out);rintro e w37 ⟨v215,rfl,ho0,hb⟩;refine ⟨_,rfl,?_⟩;have HO216:=A_ (Kd.R_lower (Kd.R_new' ho0 (Kd.R_lt (rl_ HO_3))) (below_size bb_));replace HO_3:=A_ (Kd.R_elder' (rl_ HO_3) (Kd.R_base ho0) hb);replace BK190:=bz BK190 hb;replace HR213:=A_ (Kd.C_below (by repeat (first|(with_reducible exact HR213.out)|(with_reducible refine Kd.C_alloc ?_ _)|(with_reducible refine Kd.C_drewN ?_ _)|(with_reducible refine Kd.C_drew ?_)|exact HR213.out)) hb);replace HB:=A_ (below_step bb_ hb);(try clear hb);(try clear hb2);(try clear hk);(try clear hi);(try clear ho0))|((with_reducible refine gate_builtin (b:=.append) (xs:=#[.tmp 31,.tmp 33]) rfl ?_);at_builtin;refine Kd.R_append (Kd.int .i64) (w0:=w) w.heap.size rfl (.tmp 31) (.tmp 33) 22 3 (.int .i64 0) 8 rfl Tryd.underlying22 info3 rfl (by decide) (by omega) v215 t214 x4_1 [.int .i64 x4_1] (fun k_=>some k_ ≠ (.slice Ao35 x3_1.length co35 : Value).ownBlock) (fun _=>False) rfl rfl ?aP (fun _ hk=>hk.elim) ?aF ?aO ?aB ?aS ?aL ?_;(case aP=>exact rfl);(case aB=>exact bb_);(case aF=>exact (fun k_ hk=>Kd.fresh' (Kd.R_lt (rl_ HO_3)) k_ hk));(case aO=>exact (by (with_reducible repeat (first|apply Kd.R_alloc|apply Kd.R_drewN|apply Kd.R_drew));exact Kd.R_mono HO216.out (fun _ hk=>hk.2)));(case aS=>exact (below_size bb_));(case aL=>have:=LMc30.out;omega);intro v218 w38 ho hb hg hat;rw [← Ny217.out] at ho;replace BK190:=A_ (blk_grown (g:=gb190) (o:=.cells #[.int .i64 a0_0,.slice A0_1 l0_1.length c0_1] 28 (0,0)) (bl_ BK190) hg (Kd.R_ne HO216.out BK190.out (by decide)));replace HB:=A_ (hb);replace HR213:=A_ ((show Kd.C (Kd.int .i64) w38 Ao35 y210.length y210 from by rw [Ny210.out];exact Kd.C_take (m:=(x5_2 : Int).toNat) ((Kd.R_reads' (Kd.R_after (ok:=(fun _=>True)) (rl_ HO_3) hg hat)).2.2) KL36.out));replace HO_3:=A_ (Kd.R_after (ok:=(fun _=>True)) (rl_ HO_3) hg hat);have HO219:=A_ (ho);clear HO216;clear ho hb hg hat;have q39 : (x5_2 : Int) ≤ ((x3_1.length : Int) : Int):=of_decide_eq_true (by first|(with_reducible assumption)|assumption);obtain ⟨i039,hi039,_,hsz39,_⟩:=info_parts info3;have hroom39 : x3_1.length ≤ co35:=(Kd.R_reads' HO_3.out).2.1;have hC39 : Kd.C (Kd.int .i64) _ Ao35 x3_1.length x3_1:=(Kd.R_reads' HO_3.out).2.2;have q039 : (0 : Int) ≤ (x5_2 : Int):=of_decide_eq_true (by first|(with_reducible assumption)|assumption);have hcut39:=cut_from (P:=Tryd.prog) 22 3 .i64 Tryd.underlying22 hi039 1 hsz39 Ao35 x3_1.length co35 x5_2 q039 q39;have hr39:=Kd.C_drop (m:=(x5_2 : Int).toNat) (c:=co35) hC39 (by omega) hroom39;obtain ⟨A39,hA39⟩ : ∃ A1,A1 = (if co35 = (x5_2 : Int).toNat then Ao35 else (Ao35 : Option Addr).map (·.add ((x5_2 : Int).toNat * 1))):=⟨_,rfl⟩;obtain ⟨c39,hc39⟩ : ∃ c1,c1 = co35 - (x5_2 : Int).toNat:=⟨_,rfl⟩;have hy39 : y220.length = x3_1.length - (x5_2 : Int).toNat:=(by rw [Ny220.out,S_] <;> omega);rw [show (x3_1).drop (x5_2 : Int).toNat = y220 from Ny220.out.symm] at hr39;replace hr39 : Kd.C (Kd.int .i64) _ A39 y220.length y220:=(by rw [hA39];exact hr39);rw [← hy39,← hA39,← hc39] at hcut39;have HR223:=A_ hr39;have HC223:=A_ (show y220.length ≤ c39 from by rw [hy39,hc39];exact Nat.sub_le_sub_right hroom39 _);clear hr39 hC39 hroom39 hi039 hsz39 hc39;have KY39:=A_ hy39;have KA39:=A_ hA39;clear hy39 hA39;have KL39:=A_ (show (x5_2 : Int).toNat ≤ x3_1.length from by omega);replace q39:=eq_true q39)|((with_reducible refine gate_builtin (b:=.append) (xs:=#[.tmp 35,.tmp 38]) rfl ?_);at_builtin;refine Kd.R_append_rows (Kd.int .i64) (w0:=w) w.heap.size rfl (.tmp 35) (.tmp 38) 22 3 (.int .i64 0) 8 rfl Tryd.underlying22 info3 rfl (by decide) (by omega) v218 y217 y220 _ _ _ (fun k_=>some k_ ≠ (.slice Ao35 x3_1.length co35 : Value).ownBlock) (fun _=>False) rfl rfl ?aO ?aR (fun _ _ h=>h) (fun _ h=>h.elim) ?aF ?aB ?aS ?aL ?_;(case aR=>repeat (first|exact (by repeat (first|(with_reducible exact HR223.out)|(with_reducible refine Kd.C_alloc ?_ _)|(with_reducible refine Kd.C_drewN ?_ _)|(with_reducible refine Kd.C_drew ?_)|exact HR223.out))|(with_reducible refine Kd.C_alloc ?_ _)|(with_reducible refine Kd.C_drewN ?_ _)|(with_reducible refine Kd.C_drew ?_)));(case aB=>exact bb_);(case aF=>exact (fun k_ hk=>Kd.fresh' (Kd.R_lt (rl_ HO_3)) k_ hk));(case aO=>exact (rl_ HO219));(case aS=>exact (below_size bb_));(case aL=>have:=LMc33.out;omega);intro v225 w40 ho hb hg hat;rw [← Ny224.out] at ho;replace BK190:=A_ (blk_grown (g:=gb190) (o:=.cells #[.int .i64 a0_0,.slice A0_1 l0_1.length c0_1] 28 (0,0)) (bl_ BK190) hg (Kd.R_ne HO219.out BK190.out (by decide)));replace HB:=A_ (hb);replace HR213:=A_ ((show Kd.C (Kd.int .i64) w40 Ao35 y210.length y210 from by rw [Ny210.out];exact Kd.C_take (m:=(x5_2 : Int).toNat) ((Kd.R_reads' (Kd.R_after (ok:=(fun _=>True)) (rl_ HO_3) hg hat)).2.2) KL36.out));replace HR223:=A_ ((show Kd.C (Kd.int .i64) w40 A39 y220.length y220 from by rw [Ny220.out,KA39.out];exact Kd.C_drop (m:=(x5_2 : Int).toNat) (c:=co35) ((Kd.R_reads' (Kd.R_after (ok:=(fun _=>True)) (rl_ HO_3) hg hat)).2.2) KL39.out ((Kd.R_reads' (Kd.R_after (ok:=(fun _=>True)) (rl_ HO_3) hg hat)).2.1)));replace HO_3:=A_ (Kd.R_after (ok:=(fun _=>True)) (rl_ HO_3) hg hat);have HO226:=A_ (ho);clear HO219;clear ho hb hg hat))
           go_roundg k2
           case measure=>have:=HK1.out;have:=HK2.out;omega
           case rel=>exact ⟨(y224),(wrap64 (x4_1 + 1)),(by first|rfl|(simp;done)|(simp [*];done)),H',⟨by have:=HK1.out;have:=HK2.out;omega⟩,⟨by (with_reducible repeat (first|apply Kd.R_alloc|apply Kd.R_drewN|apply Kd.R_drew));exact Kd.R_mono HO226.out (fun _ hk=>trivial)⟩,⟨bl_ BK190⟩,⟨bb_⟩⟩
          ·rw [if_neg c33] at H;exact absurd H (by simp)
         ·rw [if_neg c30] at H;exact absurd H (by simp)
        ·rw [if_neg c28] at H;exact absurd H (by simp)
       ·rw [if_neg c27] at H;exact absurd H (by simp)
   ·rw [if_neg c3] at H;have c3b0 : decide (x4_1 < a0_0) = false:=decide_eq_false c3;clear c3;obtain rfl:=Option.some.inj H;have hcz41_0 : wr.cell? ⟨gb190,0,none⟩ = some (.int .i64 a0_0):=blk_cell BK190.out 0;have hcz41_1 : wr.cell? ⟨gb190,1,none⟩ = some (.slice A0_1 l0_1.length c0_1):=blk_cell BK190.out 1;have hfz41_0:=blk_frozen BK190.out 0;have hfz41_1:=blk_frozen BK190.out 1;go_wp2
    go_ret
    exact ⟨_,by first|rfl|(simp [errW_none,errW_some] <;> rfl)|(simp [*,errW_none,errW_some] <;> rfl),by (with_reducible repeat (first|apply Kd.R_alloc|apply Kd.R_drewN|apply Kd.R_drew));exact HO_3.out,bb_⟩
def spec_seStair.l0 : Nat → List Int → List Int → Int → Int → Int → List Int → Option (List Int)
 | 0,_,_,_,_,_,_=>none
 | k + 1,x3,x7,x8,x9,x228000,x228001=>if x9 < x8 then (if 0 ≤ x9 then (if x9 < (x7.length : Int) then ((spec_orBelow.f k x228000 x228001 (rd x7 x9)).bind fun t232=>((spec_seMany.f k t232).bind fun t233=>(if x3.length < 17592186044416 then (spec_seStair.l0 k (x3 ++ [t233]) x7 x8 (wrap64 (x9 + 1)) x228000 x228001) else (none)))) else (none)) else (none)) else (some x3)
def spec_seStair.f (k : Nat) (a0_0 : Int) (l0_1 : List Int) : Option (List Int) := (spec_seTrace.f k a0_0 l0_1).bind fun t228 => (spec_seStair.l0 k ([] : List Int) t228 (t228.length : Int) 0 a0_0 l0_1)
set_option maxHeartbeats 8000000 in
set_option maxRecDepth 100000 in
theorem spec_seStair.calls (k : Nat) (a0_0 : Int) (A0_1 : Option Addr) (c0_1 : Nat) (l0_1 : List Int) (r : List Int) (w : World) (hr0_1 : Kd.C (Kd.int .i64) w A0_1 l0_1.length l0_1) (hc0_1 : l0_1.length ≤ c0_1) (h : spec_seStair.f k a0_0 l0_1 = some r) :
 Calls Tryd.prog 106 #[.agg #[.int .i64 a0_0,.slice A0_1 l0_1.length c0_1]] w fun e w'=>∃ v0_ : Value,e = .returned (v0_) ∧ Kd.R (Kd.int .i64) 3 w' w.heap.size (fun _=>True) v0_ r ∧ Below w.heap.size w w':=by
 have hu28:=Tryd.underlying28;have HR0_1:=A_ hr0_1;have HC0_1:=A_ hc0_1;clear hr0_1 hc0_1;have HB:=A_ (Below.refl w.heap.size w);have H : ((spec_seTrace.f k a0_0 l0_1).bind fun t228=>(spec_seStair.l0 k ([] : List Int) t228 (t228.length : Int) 0 a0_0 l0_1)) = some r:=h;clear h;replace H:=Option.bind_eq_some_iff.mp H;obtain ⟨t228,A20,H⟩:=H;replace H : (spec_seStair.l0 k ([] : List Int) t228 (t228.length : Int) 0 a0_0 l0_1) = some r:=H;have A2:=A_ A20;clear A20;have H':=A_ H;clear H;go_enter Tryd.func106,Tryd.ntmps106
 go_wp2_with (first|((with_reducible refine gate_dst (N:=1) rfl ?_);refine box_event ?hg (N:=1) ?hd (cs:=#[.int .i64 a0_0,.slice A0_1 l0_1.length c0_1]) (t:=28) ?hr ?_;(case hd=>rfl);(case hg=>rfl);(case hr=>first|(go_simp;done)|(go_simp;rfl));intro gb227 hg w3 hbox hb;have BK227:=A_ (hbox);have GW227:=A_ ((by rw [hg];exact (below_size bb_) : w.heap.size ≤ gb227));have GE227:=A_ ((by rw [hg];exact (below_size bb_) : w.heap.size ≤ gb227));replace HB:=A_ (below_step bb_ hb);clear hb hbox hg;have hcz4_0 : w3.cell? ⟨gb227,0,none⟩ = some (.int .i64 a0_0):=blk_cell BK227.out 0;have hcz4_1 : w3.cell? ⟨gb227,1,none⟩ = some (.slice A0_1 l0_1.length c0_1):=blk_cell BK227.out 1;have hfz4_0:=blk_frozen BK227.out 0;have hfz4_1:=blk_frozen BK227.out 1)|((with_reducible refine gate_callee (f:=187) rfl ?_);refine goesL_ (some 7) rfl rfl Tryd.func187 (by kernel_rfl) rfl #[.agg #[.int .i64 a0_0,.slice A0_1 l0_1.length c0_1]] rfl au_ ?_;(with_reducible refine (spec_seTrace.calls k a0_0 _ _ l0_1 t228 _ ?side1 ?side2 A2.out).mono ?_);(case side1=>exact cl_ (Kd.C_below HR0_1.out HB.out));(case side2=>exact HC0_1.out);rintro e w5 ⟨v229,rfl,ho0,hb⟩;refine ⟨_,rfl,?_⟩;have HO230:=A_ (Kd.R_lower ho0 (below_size bb_));replace BK227:=bz BK227 hb;replace HB:=A_ (below_step bb_ hb);(try clear hb);(try clear hb2);(try clear hk);(try clear hi);(try clear ho0);obtain ⟨Ao6,co6,eo6⟩:=Kd.R_slice HO230.out;subst eo6))
 go_loopg [3,9] k (fun kq v3 v9 w'=>∃ (x3_1 : List Int) (x9_1 : Int),v9 = .int .i64 x9_1 ∧ Aside0 (spec_seStair.l0 kq x3_1 t228 (t228.length : Int) x9_1 a0_0 l0_1 = some r) ∧ Aside0 (kq ≤ k) ∧ Aside0 (Kd.R (Kd.int .i64) 3 w' w.heap.size (fun k_=>some k_ ≠ ((.slice Ao6 t228.length co6) : Value).ownBlock) v3 x3_1) ∧ Aside0 (Kd.R (Kd.int .i64) 3 w' w.heap.size (fun k_=>some k_ ≠ (v3 : Value).ownBlock) (.slice Ao6 t228.length co6) t228) ∧ Aside0 (w'.heap[gb227]? = some (.cells #[.int .i64 a0_0,(.slice A0_1 l0_1.length c0_1)] 28 (0,0))) ∧ Aside0 (Below w.heap.size w w'))
 case atStart=>exact ⟨(([] : List Int)),(0),(by first|rfl|(simp;done)|(simp [*];done)),H',⟨Nat.le_refl _⟩,⟨by first|exact Kd.R_nil _ _ _ _ _|exact Kd.N_nil _ _ _ _ _|exact Kd.V_nil _ _ _ _ _|exact Kd.Q_nil _ _ _ _ _|exact Kd.S_nil _ _ _ _ _⟩,⟨by (with_reducible repeat (first|apply Kd.R_alloc|apply Kd.R_drewN|apply Kd.R_drew));exact Kd.R_mono HO230.out (fun _ hk=>(by simp [Value.ownBlock]))⟩,⟨bl_ BK227⟩,⟨bb_⟩⟩
 case round =>
  clear H';try clear c1
  try clear p2
  try clear hcz4_0
  try clear hcz4_1
  try clear hfz4_0
  try clear hfz4_1
  obtain ⟨x3_1,x9_1,rfl,HA,HK1,HO_3,HO_7,BK227,HB⟩:=hrel;cases gk with
  | zero => exact absurd HA.out (by simp [spec_seStair.l0])
  | succ k1 =>
   have H:=HA.out;clear HA;simp only [spec_seStair.l0] at H
   by_cases c7 : x9_1 < (t228.length : Int)
   ·rw [if_pos c7] at H;have c7b0 : decide (x9_1 < (t228.length : Int)) = true:=decide_eq_true c7;clear c7;by_cases c8 : 0 ≤ x9_1
    ·rw [if_pos c8] at H;have c8b0 : decide (0 ≤ x9_1) = true:=decide_eq_true c8;clear c8;by_cases c9 : x9_1 < (t228.length : Int)
     ·rw [if_pos c9] at H;have c9b0 : decide (x9_1 < (t228.length : Int)) = true:=decide_eq_true c9;clear c9;replace H:=Option.bind_eq_some_iff.mp H;obtain ⟨t232,A100,H⟩:=H;replace H : ((spec_seMany.f k1 t232).bind fun t233=>(if x3_1.length < 17592186044416 then (spec_seStair.l0 k1 (x3_1 ++ [t233]) t228 (t228.length : Int) (wrap64 (x9_1 + 1)) a0_0 l0_1) else (none))) = some r:=H;have A10:=A_ A100;clear A100;replace H:=Option.bind_eq_some_iff.mp H;obtain ⟨t233,A110,H⟩:=H;replace H : (if x3_1.length < 17592186044416 then (spec_seStair.l0 k1 (x3_1 ++ [t233]) t228 (t228.length : Int) (wrap64 (x9_1 + 1)) a0_0 l0_1) else (none)) = some r:=H;have A11:=A_ A110;clear A110;by_cases c12 : x3_1.length < 17592186044416
      ·rw [if_pos c12] at H;have LMc12:=A_ c12;clear c12;obtain ⟨y234,hy234⟩ : ∃ y_ : List Int,y_ = (x3_1 ++ [t233]):=⟨_,rfl⟩;replace H : (spec_seStair.l0 k1 y234 t228 (t228.length : Int) (wrap64 (x9_1 + 1)) a0_0 l0_1) = some r:=by first|(rw [hy234];with_reducible exact H)|(have H2_:=(Option.bind_some _ _).symm.trans H;rw [hy234];with_reducible exact H2_)|(have H2_:=(Option.bind_some _ _).symm.trans H;with_reducible exact H2_)|with_reducible exact H|(rw [hy234];exact H)|exact H
       have Ny234:=A_ hy234;clear hy234;have H':=A_ H;clear H;have p231 : 0 ≤ (x9_1 : Int):=of_decide_eq_true (by first|(with_reducible assumption)|assumption);have q231 : x9_1 < (t228.length : Int):=of_decide_eq_true (by first|(with_reducible assumption)|assumption);obtain ⟨ad231,e231,hx231_0⟩:=Kd.at_int (Kd.R_reads' HO_7.out).2.2 x9_1 p231 q231;cases e231
       replace p231:=eq_true p231;replace q231:=eq_true q231;have hcz13_0 : wr.cell? ⟨gb227,0,none⟩ = some (.int .i64 a0_0):=blk_cell BK227.out 0;have hcz13_1 : wr.cell? ⟨gb227,1,none⟩ = some (.slice A0_1 l0_1.length c0_1):=blk_cell BK227.out 1;have hfz13_0:=blk_frozen BK227.out 0;have hfz13_1:=blk_frozen BK227.out 1;go_wp2_with (first|((with_reducible refine gate_callee (f:=111) rfl ?_);refine goesL_ (some 16) rfl rfl Tryd.func111 (by kernel_rfl) rfl #[.agg #[.int .i64 a0_0,.slice A0_1 l0_1.length c0_1],.int .i64 (rd t228 x9_1)] rfl au_ ?_;(with_reducible refine (spec_orBelow.calls k1 a0_0 _ _ l0_1 (rd t228 x9_1) t232 _ ?side1 ?side2 A10.out).mono ?_);(case side1=>exact cl_ (Kd.C_below HR0_1.out HB.out));(case side2=>exact HC0_1.out);rintro e w14 ⟨rfl,hb⟩;refine ⟨_,rfl,?_⟩;replace HO_3:=rb_ HO_3 hb;replace HO_7:=rb_ HO_7 hb;replace BK227:=bz BK227 hb;replace HB:=A_ (below_step bb_ hb);(try clear hb);(try clear hb2);(try clear hk);(try clear hi))|((with_reducible refine gate_callee (f:=110) rfl ?_);refine goesL_ (some 17) rfl rfl Tryd.func110 (by kernel_rfl) rfl #[.int .i64 t232] rfl au_ ?_;(with_reducible refine (spec_seMany.calls k1 t232 t233 _ A11.out).mono ?_);rintro e w15 ⟨rfl,hb⟩;refine ⟨_,rfl,?_⟩;replace HO_3:=rb_ HO_3 hb;replace HO_7:=rb_ HO_7 hb;replace BK227:=bz BK227 hb;replace HB:=A_ (below_step bb_ hb);(try clear hb);(try clear hb2);(try clear hk);(try clear hi))|((with_reducible refine gate_builtin (b:=.append) (xs:=#[.tmp 13,.tmp 18]) rfl ?_);at_builtin;refine Kd.R_append (Kd.int .i64) (w0:=w) w.heap.size rfl (.tmp 13) (.tmp 18) 22 3 (.int .i64 0) 8 rfl Tryd.underlying22 info3 rfl (by decide) (by omega) u3 x3_1 t233 [.int .i64 t233] (fun k_=>some k_ ≠ (.slice (some ad231) t228.length co6 : Value).ownBlock) (fun _=>False) rfl rfl ?aP (fun _ hk=>hk.elim) ?aF ?aO ?aB ?aS ?aL ?_;(case aP=>exact rfl);(case aB=>exact bb_);(case aF=>exact (fun k_ hk=>Kd.fresh' (Kd.R_lt (rl_ HO_7)) k_ hk));(case aO=>exact (rl_ HO_3));(case aS=>exact (below_size bb_));(case aL=>have:=LMc12.out;omega);intro v235 w16 ho hb hg hat;rw [← Ny234.out] at ho;replace HO_7:=A_ (Kd.R_after (ok:=(fun _=>True)) (by (with_reducible repeat (first|apply Kd.R_alloc|apply Kd.R_drewN|apply Kd.R_drew));exact Kd.R_mono HO_7.out (fun _ hk=>⟨trivial,hk⟩)) hg hat);replace BK227:=A_ (blk_grown (g:=gb227) (o:=.cells #[.int .i64 a0_0,.slice A0_1 l0_1.length c0_1] 28 (0,0)) (bl_ BK227) hg (Kd.R_ne HO_3.out BK227.out (by decide)));replace HB:=A_ (hb);have HO236:=A_ (ho);clear HO_3;clear ho hb hg hat))
       go_roundg k1
       case measure=>have:=HK1.out;omega
       case rel=>exact ⟨(y234),(wrap64 (x9_1 + 1)),(by first|rfl|(simp;done)|(simp [*];done)),H',⟨by have:=HK1.out;omega⟩,⟨by (with_reducible repeat (first|apply Kd.R_alloc|apply Kd.R_drewN|apply Kd.R_drew));exact HO236.out⟩,⟨by (with_reducible repeat (first|apply Kd.R_alloc|apply Kd.R_drewN|apply Kd.R_drew));exact Kd.R_mono HO_7.out (fun _ hk=>hk.2)⟩,⟨bl_ BK227⟩,⟨bb_⟩⟩
      ·rw [if_neg c12] at H;exact absurd H (by simp)
     ·rw [if_neg c9] at H;exact absurd H (by simp)
    ·rw [if_neg c8] at H;exact absurd H (by simp)
   ·rw [if_neg c7] at H;have c7b0 : decide (x9_1 < (t228.length : Int)) = false:=decide_eq_false c7;clear c7;obtain rfl:=Option.some.inj H;go_wp2
    go_ret
    exact ⟨_,by first|rfl|(simp [errW_none,errW_some] <;> rfl)|(simp [*,errW_none,errW_some] <;> rfl),by (with_reducible repeat (first|apply Kd.R_alloc|apply Kd.R_drewN|apply Kd.R_drew));exact Kd.R_mono HO_3.out (fun _ hk=>trivial),bb_⟩
def spec_StairOf.f (k : Nat) (a0_0 : Int) (l0_1 : List Int) : Option (List Int × Bool) := (spec_seGood.f k a0_0 l0_1).bind fun t238 => (if t238 = true then ((spec_seStair.f k a0_0 l0_1).bind fun t239 => (some (t239, true))) else (some (([] : List Int), false)))
set_option maxHeartbeats 8000000 in
set_option maxRecDepth 100000 in
theorem spec_StairOf.calls (k : Nat) (a0_0 : Int) (A0_1 : Option Addr) (c0_1 : Nat) (l0_1 : List Int) (r1 : List Int) (r2 : Bool) (w : World) (hr0_1 : Kd.C (Kd.int .i64) w A0_1 l0_1.length l0_1) (hc0_1 : l0_1.length ≤ c0_1) (h : spec_StairOf.f k a0_0 l0_1 = some (r1,r2)) :
 Calls Tryd.prog 15 #[.agg #[.int .i64 a0_0,.slice A0_1 l0_1.length c0_1]] w fun e w'=>∃ v0_ : Value,e = .returned (.tuple #[v0_,.bool r2]) ∧ Kd.R (Kd.int .i64) 3 w' w.heap.size (fun _=>True) v0_ r1 ∧ Below w.heap.size w w':=by
 have hu28:=Tryd.underlying28;have HR0_1:=A_ hr0_1;have HC0_1:=A_ hc0_1;clear hr0_1 hc0_1;have HB:=A_ (Below.refl w.heap.size w);have H : ((spec_seGood.f k a0_0 l0_1).bind fun t238=>(if t238 = true then ((spec_seStair.f k a0_0 l0_1).bind fun t239=>(some (t239,true))) else (some (([] : List Int),false)))) = some (r1,r2):=h;clear h;replace H:=Option.bind_eq_some_iff.mp H;obtain ⟨t238,A20,H⟩:=H;replace H : (if t238 = true then ((spec_seStair.f k a0_0 l0_1).bind fun t239=>(some (t239,true))) else (some (([] : List Int),false))) = some (r1,r2):=H;have A2:=A_ A20;clear A20;by_cases c3 : t238 = true
 ·subst c3;have H1 : ((spec_seStair.f k a0_0 l0_1).bind fun t239=>(some (t239,true))) = some (r1,r2):=by rw [if_pos rfl] at H;exact H
  clear H;have H:=H1;clear H1;replace H:=Option.bind_eq_some_iff.mp H;obtain ⟨t239,A40,H⟩:=H;replace H : (some (t239,true)) = some (r1,r2):=H;have A4:=A_ A40;clear A40;simp only [Option.some.injEq,Prod.mk.injEq] at H
  obtain ⟨rfl,rfl⟩:=H;go_enter Tryd.func15,Tryd.ntmps15
  go_wp2_with (first|((with_reducible refine gate_dst (N:=1) rfl ?_);refine box_event ?hg (N:=1) ?hd (cs:=#[.int .i64 a0_0,.slice A0_1 l0_1.length c0_1]) (t:=28) ?hr ?_;(case hd=>rfl);(case hg=>rfl);(case hr=>first|(go_simp;done)|(go_simp;rfl));intro gb237 hg w5 hbox hb;have BK237:=A_ (hbox);have GW237:=A_ ((by rw [hg];exact (below_size bb_) : w.heap.size ≤ gb237));have GE237:=A_ ((by rw [hg];exact (below_size bb_) : w.heap.size ≤ gb237));replace HB:=A_ (below_step bb_ hb);clear hb hbox hg;have hcz6_0 : w5.cell? ⟨gb237,0,none⟩ = some (.int .i64 a0_0):=blk_cell BK237.out 0;have hcz6_1 : w5.cell? ⟨gb237,1,none⟩ = some (.slice A0_1 l0_1.length c0_1):=blk_cell BK237.out 1;have hfz6_0:=blk_frozen BK237.out 0;have hfz6_1:=blk_frozen BK237.out 1)|((with_reducible refine gate_callee (f:=105) rfl ?_);refine goesL_ (some 5) rfl rfl Tryd.func105 (by kernel_rfl) rfl #[.agg #[.int .i64 a0_0,.slice A0_1 l0_1.length c0_1]] rfl au_ ?_;(with_reducible refine (spec_seGood.calls k a0_0 _ _ l0_1 true _ ?side1 ?side2 A2.out).mono ?_);(case side1=>exact cl_ (Kd.C_below HR0_1.out HB.out));(case side2=>exact HC0_1.out);rintro e w7 ⟨rfl,hb⟩;refine ⟨_,rfl,?_⟩;replace BK237:=bz BK237 hb;replace HB:=A_ (below_step bb_ hb);(try clear hb);(try clear hb2);(try clear hk);(try clear hi);have hcz8_0 : w7.cell? ⟨gb237,0,none⟩ = some (.int .i64 a0_0):=blk_cell BK237.out 0;have hcz8_1 : w7.cell? ⟨gb237,1,none⟩ = some (.slice A0_1 l0_1.length c0_1):=blk_cell BK237.out 1;have hfz8_0:=blk_frozen BK237.out 0;have hfz8_1:=blk_frozen BK237.out 1)|((with_reducible refine gate_callee (f:=106) rfl ?_);refine goesL_ (some 8) rfl rfl Tryd.func106 (by kernel_rfl) rfl #[.agg #[.int .i64 a0_0,.slice A0_1 l0_1.length c0_1]] rfl au_ ?_;(with_reducible refine (spec_seStair.calls k a0_0 _ _ l0_1 t239 _ ?side1 ?side2 A4.out).mono ?_);(case side1=>exact cl_ (Kd.C_below HR0_1.out HB.out));(case side2=>exact HC0_1.out);rintro e w9 ⟨v240,rfl,ho0,hb⟩;refine ⟨_,rfl,?_⟩;have HO241:=A_ (Kd.R_lower ho0 (below_size bb_));replace BK237:=bz BK237 hb;replace HB:=A_ (below_step bb_ hb);(try clear hb);(try clear hb2);(try clear hk);(try clear hi);(try clear ho0)))
  go_ret2
  exact ⟨_,by first|rfl|(simp [errW_none,errW_some] <;> rfl)|(simp [*,errW_none,errW_some] <;> rfl),by (with_reducible repeat (first|apply Kd.R_alloc|apply Kd.R_drewN|apply Kd.R_drew));exact HO241.out,bb_⟩
 ·replace c3:=Bool.eq_false_iff.mpr c3;subst c3;have H1 : (some (([] : List Int),false)) = some (r1,r2):=by rw [if_neg (show ¬ (false = true) by decide)] at H;exact H
  clear H;have H:=H1;clear H1;simp only [Option.some.injEq,Prod.mk.injEq] at H
  obtain ⟨rfl,rfl⟩:=H;go_enter Tryd.func15,Tryd.ntmps15
  go_wp2_with (first|((with_reducible refine gate_dst (N:=1) rfl ?_);refine box_event ?hg (N:=1) ?hd (cs:=#[.int .i64 a0_0,.slice A0_1 l0_1.length c0_1]) (t:=28) ?hr ?_;(case hd=>rfl);(case hg=>rfl);(case hr=>first|(go_simp;done)|(go_simp;rfl));intro gb237 hg w10 hbox hb;have BK237:=A_ (hbox);have GW237:=A_ ((by rw [hg];exact (below_size bb_) : w.heap.size ≤ gb237));have GE237:=A_ ((by rw [hg];exact (below_size bb_) : w.heap.size ≤ gb237));replace HB:=A_ (below_step bb_ hb);clear hb hbox hg;have hcz11_0 : w10.cell? ⟨gb237,0,none⟩ = some (.int .i64 a0_0):=blk_cell BK237.out 0;have hcz11_1 : w10.cell? ⟨gb237,1,none⟩ = some (.slice A0_1 l0_1.length c0_1):=blk_cell BK237.out 1;have hfz11_0:=blk_frozen BK237.out 0;have hfz11_1:=blk_frozen BK237.out 1)|((with_reducible refine gate_callee (f:=105) rfl ?_);refine goesL_ (some 5) rfl rfl Tryd.func105 (by kernel_rfl) rfl #[.agg #[.int .i64 a0_0,.slice A0_1 l0_1.length c0_1]] rfl au_ ?_;(with_reducible refine (spec_seGood.calls k a0_0 _ _ l0_1 false _ ?side1 ?side2 A2.out).mono ?_);(case side1=>exact cl_ (Kd.C_below HR0_1.out HB.out));(case side2=>exact HC0_1.out);rintro e w12 ⟨rfl,hb⟩;refine ⟨_,rfl,?_⟩;replace BK237:=bz BK237 hb;replace HB:=A_ (below_step bb_ hb);(try clear hb);(try clear hb2);(try clear hk);(try clear hi)))
  go_ret2
  exact ⟨_,by first|rfl|(simp [errW_none,errW_some] <;> rfl)|(simp [*,errW_none,errW_some] <;> rfl),by first|exact Kd.R_nil _ _ _ _ _|exact Kd.N_nil _ _ _ _ _|exact Kd.V_nil _ _ _ _ _|exact Kd.Q_nil _ _ _ _ _|exact Kd.S_nil _ _ _ _ _,bb_⟩
def laws_toIntS.l0 : Nat → List Int → List Int → Int → Option (List Int)
 | 0,_,_,_=>none
 | k + 1,x0,x3,x4=>if x4 < (x0.length : Int) then (if 0 ≤ x4 then (if x4 < (x3.length : Int) then (laws_toIntS.l0 k x0 (x3.set (x4 : Int).toNat (rd x0 x4)) (wrap64 (x4 + 1))) else (none)) else (none)) else (some x3)
def laws_toIntS.f (k : Nat) (l0 : List Int) : Option (List Int) := if 0 ≤ (l0.length : Int) then (if ((l0.length : Int) : Int).toNat ≤ 35184372088832 then (laws_toIntS.l0 k l0 (List.replicate ((l0.length : Int) : Int).toNat 0) 0) else (none)) else (none)
set_option maxHeartbeats 8000000 in
set_option maxRecDepth 100000 in
theorem laws_toIntS.calls (k : Nat) (A0 : Option Addr) (c0 : Nat) (l0 : List Int) (r : List Int) (w : World) (hr0 : Kd.C (Kd.int .i64) w A0 l0.length l0) (hc0 : l0.length ≤ c0) (h : laws_toIntS.f k l0 = some r) :
 Calls Tryd.prog 107 #[.slice A0 l0.length c0] w fun e w'=>∃ v0_ : Value,e = .returned (v0_) ∧ Kd.R (Kd.int .i64) 3 w' w.heap.size (fun _=>True) v0_ r ∧ Below w.heap.size w w':=by
 have HR0:=A_ hr0;have HC0:=A_ hc0;clear hr0 hc0;have HB:=A_ (Below.refl w.heap.size w);have H : (if 0 ≤ (l0.length : Int) then (if ((l0.length : Int) : Int).toNat ≤ 35184372088832 then (laws_toIntS.l0 k l0 (List.replicate ((l0.length : Int) : Int).toNat 0) 0) else (none)) else (none)) = some r:=h;clear h;by_cases c2 : 0 ≤ (l0.length : Int)
 ·rw [if_pos c2] at H;have c2b0:=eq_true c2;have c2b1 : decide (0 ≤ (l0.length : Int)) = true:=decide_eq_true c2;clear c2;by_cases c3 : ((l0.length : Int) : Int).toNat ≤ 35184372088832
  ·rw [if_pos c3] at H;have c3b0:=eq_true c3;have c3b1 : decide (((l0.length : Int) : Int).toNat ≤ 35184372088832) = true:=decide_eq_true c3;clear c3;obtain ⟨y242,hy242⟩ : ∃ y_ : List Int,y_ = (List.replicate ((l0.length : Int) : Int).toNat 0):=⟨_,rfl⟩;replace H : (laws_toIntS.l0 k l0 y242 0) = some r:=by first|(rw [hy242];with_reducible exact H)|(have H2_:=(Option.bind_some _ _).symm.trans H;rw [hy242];with_reducible exact H2_)|(have H2_:=(Option.bind_some _ _).symm.trans H;with_reducible exact H2_)|with_reducible exact H|(rw [hy242];exact H)|exact H
   have Ny242:=A_ hy242;clear hy242;have H':=A_ H;clear H;go_enter Tryd.func107,Tryd.ntmps107
   go_wp2_with (first|((with_reducible refine gate_dst (N:=7) rfl ?_);refine Kd.R_make (Kd.int .i64) _ 3 rfl (N:=7) rfl 22 _ _ rfl (l0.length : Int) rfl rfl Tryd.underlying22 (.int .i64 0) 8 info3 rfl (by decide) (by omega) 0 (ok:=fun _=>True) (okp:=fun _=>True) rfl (fun _ hk=>hk) trivial (of_decide_eq_true (by first|(with_reducible assumption)|assumption)) (Nat.le_trans (Nat.mul_le_mul_right _ (of_decide_eq_true (by first|(with_reducible assumption)|assumption) : (l0.length : Int).toNat ≤ 35184372088832)) (by omega)) (Below.refl _ _) (Nat.le_refl _) ?_;intro v243 w4 ho5 hb hg_ hnew_;clear hg_ hnew_;(first|rw [← Ny242.out] at ho5|(simp only [Int.reduceToNat] at ho5;rw [← Ny242.out] at ho5));have HO244:=A_ (Kd.R_lower ho5 (below_size bb_));replace HB:=A_ (below_step bb_ hb);clear hb ho5))
   go_loopg [4] k (fun kq v4 w'=>∃ (x3_1 : List Int) (x4_1 : Int),v4 = .int .i64 x4_1 ∧ Aside0 (laws_toIntS.l0 kq l0 x3_1 x4_1 = some r) ∧ Aside0 (kq ≤ k) ∧ Aside0 (Kd.R (Kd.int .i64) 3 w' w.heap.size (fun _=>True) v243 x3_1) ∧ Aside0 (Below w.heap.size w w'))
   case atStart=>exact ⟨(y242),(0),(by first|rfl|(simp;done)|(simp [*];done)),H',⟨Nat.le_refl _⟩,⟨by (with_reducible repeat (first|apply Kd.R_alloc|apply Kd.R_drewN|apply Kd.R_drew));exact HO244.out⟩,⟨bb_⟩⟩
   case round =>
    clear H';try clear c1
    try clear c2
    try clear c2b0
    try clear c2b1
    try clear p2
    try clear c3
    try clear c3b0
    try clear c3b1
    obtain ⟨x3_1,x4_1,rfl,HA,HK1,HO_3,HB⟩:=hrel;cases gk with
    | zero=>exact absurd HA.out (by simp [laws_toIntS.l0])
    | succ k1 =>
     have H:=HA.out;clear HA;simp only [laws_toIntS.l0] at H
     by_cases c6 : x4_1 < (l0.length : Int)
     ·rw [if_pos c6] at H;have c6b0 : decide (x4_1 < (l0.length : Int)) = true:=decide_eq_true c6;clear c6;by_cases c7 : 0 ≤ x4_1
      ·rw [if_pos c7] at H;have c7b0 : decide (0 ≤ x4_1) = true:=decide_eq_true c7;clear c7;by_cases c8 : x4_1 < (x3_1.length : Int)
       ·rw [if_pos c8] at H;have c8b0 : decide (x4_1 < (x3_1.length : Int)) = true:=decide_eq_true c8;clear c8;obtain ⟨y246,hy246⟩ : ∃ y_ : List Int,y_ = (x3_1.set (x4_1 : Int).toNat (rd l0 x4_1)):=⟨_,rfl⟩;replace H : (laws_toIntS.l0 k1 l0 y246 (wrap64 (x4_1 + 1))) = some r:=by first|(rw [hy246];with_reducible exact H)|(have H2_:=(Option.bind_some _ _).symm.trans H;rw [hy246];with_reducible exact H2_)|(have H2_:=(Option.bind_some _ _).symm.trans H;with_reducible exact H2_)|with_reducible exact H|(rw [hy246];exact H)|exact H
        have Ny246:=A_ hy246;clear hy246;have H':=A_ H;clear H;have p245 : 0 ≤ (x4_1 : Int):=of_decide_eq_true (by first|(with_reducible assumption)|assumption);have q245 : x4_1 < (l0.length : Int):=of_decide_eq_true (by first|(with_reducible assumption)|assumption);obtain ⟨ad245,e245,hx245_0⟩:=Kd.at_int HR0.out x4_1 p245 q245;cases e245
        (try replace hx245_0:=(HB.out.cell (World.block_lt_of_cell? w _ hx245_0)).trans hx245_0);replace p245:=eq_true p245;replace q245:=eq_true q245;have p9 : 0 ≤ (x4_1 : Int):=of_decide_eq_true (by first|(with_reducible assumption)|assumption);have q9 : (x4_1 : Int) < ((x3_1.length : Int) : Int):=of_decide_eq_true (by first|(with_reducible assumption)|assumption);obtain ⟨go9,co9,eo9,gb9,gl9,cl9,HG9⟩:=Kd.R_form HO_3.out (by omega);(first|cases eo9|(injection eo9 with ea_ en_ ec_;(first|subst ea_|(injection ea_ with ea_;subst ea_));subst ec_;clear en_))
        have GB9:=A_ gb9;have GG9:=A_ HG9;clear gb9 gl9 HG9;obtain ⟨hx9_0,hf9_0⟩:=Kd.R_celln 0 HO_3.out (x4_1 : Int) p9 q9;replace p9:=eq_true p9;replace q9:=eq_true q9;have HP10:=Kd.R_putg HO_3.out (x4_1 : Int) (rd l0 x4_1);go_wp2_with (first|((with_reducible refine gate_store (t:=3) (p:=20) rfl ?_);refine store_event (t:=3) (p:=20) (v:=?vo_w11) (w1:=(wr.setCell ⟨go9,(x4_1 : Int).toNat,none⟩ (.int .i64 (rd l0 x4_1)))) ?hg ?ho ?hn ?hr ?_;(case ho=>rfl);(case hg=>rfl);(case hn=>rfl);(case hr=>first|(go_simp;done)|(go_simp;rfl));intro w11 hw;have hg : wr.grownBy w11 (some go9):=(by rw [hw];exact HP10.2);have hp_ : Kd.R (Kd.int .i64) 3 w11 w.heap.size (fun _=>True) (.slice (some ⟨go9,0,none⟩) x3_1.length co9) y246:=(by rw [hw,Ny246.out];exact HP10.1);clear HP10;replace HO_3:=A_ (hp_);replace HB:=A_ ((by rw [hw];exact below_set (HB.out) GB9.out : Below w.heap.size w w11));clear hg hw hp_))
        go_roundg k1
        case measure=>have:=HK1.out;omega
        case rel=>exact ⟨(y246),(wrap64 (x4_1 + 1)),(by first|rfl|(simp;done)|(simp [*];done)),H',⟨by have:=HK1.out;omega⟩,⟨by (with_reducible repeat (first|apply Kd.R_alloc|apply Kd.R_drewN|apply Kd.R_drew));exact HO_3.out⟩,⟨bb_⟩⟩
       ·rw [if_neg c8] at H;exact absurd H (by simp)
      ·rw [if_neg c7] at H;exact absurd H (by simp)
     ·rw [if_neg c6] at H;have c6b0 : decide (x4_1 < (l0.length : Int)) = false:=decide_eq_false c6;clear c6;obtain rfl:=Option.some.inj H;go_wp2
      go_ret
      exact ⟨_,by first|rfl|(simp [errW_none,errW_some] <;> rfl)|(simp [*,errW_none,errW_some] <;> rfl),by (with_reducible repeat (first|apply Kd.R_alloc|apply Kd.R_drewN|apply Kd.R_drew));exact HO_3.out,bb_⟩
  ·rw [if_neg c3] at H;exact absurd H (by simp)
 ·rw [if_neg c2] at H;exact absurd H (by simp)
def laws_toOrder.f (k : Nat) (a0_0 : Int) (l0_1 : List Int) : Option (Int × List Int) := (laws_toIntS.f k l0_1).bind fun t250 => (some (a0_0, t250))
set_option maxHeartbeats 8000000 in
set_option maxRecDepth 100000 in
theorem laws_toOrder.calls (k : Nat) (a0_0 : Int) (A0_1 : Option Addr) (c0_1 : Nat) (l0_1 : List Int) (r1 : Int) (r2 : List Int) (w : World) (hr0_1 : Kd.C (Kd.int .i64) w A0_1 l0_1.length l0_1) (hc0_1 : l0_1.length ≤ c0_1) (h : laws_toOrder.f k a0_0 l0_1 = some (r1,r2)) :
 Calls Tryd.prog 16 #[.agg #[.int .i64 a0_0,.slice A0_1 l0_1.length c0_1]] w fun e w'=>∃ v1_ : Value,e = .returned (.agg #[.int .i64 r1,v1_]) ∧ Kd.R (Kd.int .i64) 3 w' w.heap.size (fun _=>True) v1_ r2 ∧ Below w.heap.size w w':=by
 have hu24:=Tryd.underlying24;have hu28:=Tryd.underlying28;have HR0_1:=A_ hr0_1;have HC0_1:=A_ hc0_1;clear hr0_1 hc0_1;have HB:=A_ (Below.refl w.heap.size w);have H : ((laws_toIntS.f k l0_1).bind fun t250=>(some (a0_0,t250))) = some (r1,r2):=h;clear h;replace H:=Option.bind_eq_some_iff.mp H;obtain ⟨t250,A20,H⟩:=H;replace H : (some (a0_0,t250)) = some (r1,r2):=H;have A2:=A_ A20;clear A20;simp only [Option.some.injEq,Prod.mk.injEq] at H
 obtain ⟨rfl,rfl⟩:=H;go_enter Tryd.func16,Tryd.ntmps16
 go_wp2_with (first|((with_reducible refine gate_dst (N:=1) rfl ?_);refine box_event ?hg (N:=1) ?hd (cs:=#[.int .i64 a0_0,.slice A0_1 l0_1.length c0_1]) (t:=24) ?hr ?_;(case hd=>rfl);(case hg=>rfl);(case hr=>first|(go_simp;done)|(go_simp;rfl));intro gb247 hg w3 hbox hb;have BK247:=A_ (hbox);have GW247:=A_ ((by rw [hg];exact (below_size bb_) : w.heap.size ≤ gb247));have GE247:=A_ ((by rw [hg];exact (below_size bb_) : w.heap.size ≤ gb247));replace HB:=A_ (below_step bb_ hb);clear hb hbox hg)|((with_reducible refine gate_dst (N:=2) rfl ?_);refine box_event ?hg (N:=2) ?hd (cs:=#[.int .i64 0,.slice none 0 0]) (t:=28) ?hr ?_;(case hd=>rfl);(case hg=>rfl);(case hr=>first|(go_simp;done)|(go_simp;rfl));intro gb248 hg w4 hbox hb;have BK248:=A_ (hbox);have GW248:=A_ ((by rw [hg];exact (below_size bb_) : w.heap.size ≤ gb248));have GE248:=A_ ((by rw [hg];exact (below_size bb_) : w.heap.size ≤ gb248));replace HB:=A_ (below_step bb_ hb);have NB247_248:=A_ ((by rw [hg];exact Nat.ne_of_lt (blk_lt (bl_ BK247)) : gb247 ≠ gb248));have NB248_247:=A_ ((by rw [hg];exact Nat.ne_of_gt (blk_lt (bl_ BK247)) : gb248 ≠ gb247));replace BK247:=bz BK247 hb;clear hb hbox hg)|((with_reducible refine gate_dst (N:=3) rfl ?_);refine box_event ?hg (N:=3) ?hd (cs:=#[.int .i64 0,.slice none 0 0]) (t:=28) ?hr ?_;(case hd=>rfl);(case hg=>rfl);(case hr=>first|(go_simp;done)|(go_simp;rfl));intro gb249 hg w5 hbox hb;have BK249:=A_ (hbox);have GW249:=A_ ((by rw [hg];exact (below_size bb_) : w.heap.size ≤ gb249));have GE249:=A_ ((by rw [hg];exact (below_size bb_) : w.heap.size ≤ gb249));replace HB:=A_ (below_step bb_ hb);have NB247_249:=A_ ((by rw [hg];exact Nat.ne_of_lt (blk_lt (bl_ BK247)) : gb247 ≠ gb249));have NB249_247:=A_ ((by rw [hg];exact Nat.ne_of_gt (blk_lt (bl_ BK247)) : gb249 ≠ gb247));replace BK247:=bz BK247 hb;have NB248_249:=A_ ((by rw [hg];exact Nat.ne_of_lt (blk_lt (bl_ BK248)) : gb248 ≠ gb249));have NB249_248:=A_ ((by rw [hg];exact Nat.ne_of_gt (blk_lt (bl_ BK248)) : gb249 ≠ gb248));replace BK248:=bz BK248 hb;clear hb hbox hg;have hnb6:=NB247_248.out;have hnc6:=NB248_247.out;have hnb7:=NB247_249.out;have hnc7:=NB249_247.out;have hcz8_0 : w5.cell? ⟨gb247,0,none⟩ = some (.int .i64 a0_0):=blk_cell BK247.out 0;have hcz8_1 : w5.cell? ⟨gb247,1,none⟩ = some (.slice A0_1 l0_1.length c0_1):=blk_cell BK247.out 1;have hfz8_0:=blk_frozen BK247.out 0;have hfz8_1:=blk_frozen BK247.out 1;have hnb9:=NB249_248.out;have hnc9:=NB248_249.out;have hcz10_0 : w5.cell? ⟨gb249,0,none⟩ = some (.int .i64 0):=blk_cell BK249.out 0;have hcz10_1 : w5.cell? ⟨gb249,1,none⟩ = some (.slice none 0 0):=blk_cell BK249.out 1;have hfz10_0:=blk_frozen BK249.out 0;have hfz10_1:=blk_frozen BK249.out 1)|((with_reducible refine gate_callee (f:=107) rfl ?_);refine goesL_ (some 9) rfl rfl Tryd.func107 (by kernel_rfl) rfl #[.slice A0_1 l0_1.length c0_1] rfl au_ ?_;(with_reducible refine (laws_toIntS.calls k _ _ l0_1 t250 _ ?side1 ?side2 A2.out).mono ?_);(case side1=>exact Kd.C_below HR0_1.out bb_);(case side2=>exact HC0_1.out);rintro e w11 ⟨v251,rfl,ho0,hb⟩;refine ⟨_,rfl,?_⟩;have HO252:=A_ (Kd.R_lower ho0 (below_size bb_));replace BK247:=A_ (blk_below (g:=gb247) (o:=.cells #[.int .i64 a0_0,.slice A0_1 l0_1.length c0_1] 24 (0,0)) (by (with_reducible repeat (first|refine blk_drewN ?_ _|refine blk_drew ?_|refine blk_alloc ?_ _));refine blk_far ?_ NB247_249.out _;(with_reducible repeat (first|refine blk_drewN ?_ _|refine blk_drew ?_|refine blk_alloc ?_ _));exact BK247.out) hb);replace BK248:=A_ (blk_below (g:=gb248) (o:=.cells #[.int .i64 0,.slice none 0 0] 28 (0,0)) (by (with_reducible repeat (first|refine blk_drewN ?_ _|refine blk_drew ?_|refine blk_alloc ?_ _));refine blk_far ?_ NB248_249.out _;(with_reducible repeat (first|refine blk_drewN ?_ _|refine blk_drew ?_|refine blk_alloc ?_ _));exact BK248.out) hb);replace BK249:=A_ (blk_below (g:=gb249) (o:=.cells #[.int .i64 a0_0,.slice none 0 0] 28 (0,0)) (by (with_reducible repeat (first|refine blk_drewN ?_ _|refine blk_drew ?_|refine blk_alloc ?_ _));refine blk_put (cs:=#[.int .i64 0,.slice none 0 0]) ?_ 0 _ rfl;(with_reducible repeat (first|refine blk_drewN ?_ _|refine blk_drew ?_|refine blk_alloc ?_ _));exact BK249.out) hb);replace HB:=A_ (below_step bb_ hb);(try clear hb);(try clear hb2);(try clear hk);(try clear hi);(try clear ho0);obtain ⟨Ao12,co12,eo12⟩:=Kd.R_slice HO252.out;subst eo12;have hcz13_0 : w11.cell? ⟨gb249,0,none⟩ = some (.int .i64 a0_0):=blk_cell BK249.out 0;have hcz13_1 : w11.cell? ⟨gb249,1,none⟩ = some (.slice none 0 0):=blk_cell BK249.out 1;have hfz13_0:=blk_frozen BK249.out 0;have hfz13_1:=blk_frozen BK249.out 1;have hcz14_0 : w11.cell? ⟨gb248,0,none⟩ = some (.int .i64 0):=blk_cell BK248.out 0;have hcz14_1 : w11.cell? ⟨gb248,1,none⟩ = some (.slice none 0 0):=blk_cell BK248.out 1;have hfz14_0:=blk_frozen BK248.out 0;have hfz14_1:=blk_frozen BK248.out 1))
 refine bodyPost_ret (results_cell_row rfl _ _ gb248 28 #[.int .i64 a0_0,.slice Ao12 t250.length co12] (0,0) _ rfl (by (with_reducible repeat (first|refine blk_drewN ?_ _|refine blk_drew ?_|refine blk_alloc ?_ _));refine blk_put (cs:=#[.int .i64 a0_0,.slice none 0 0]) ?_ 1 _ rfl;(with_reducible repeat (first|refine blk_drewN ?_ _|refine blk_drew ?_|refine blk_alloc ?_ _));refine blk_put (cs:=#[.int .i64 0,.slice none 0 0]) ?_ 0 _ rfl;(with_reducible repeat (first|refine blk_drewN ?_ _|refine blk_drew ?_|refine blk_alloc ?_ _));refine blk_far ?_ NB248_249.out _;(with_reducible repeat (first|refine blk_drewN ?_ _|refine blk_drew ?_|refine blk_alloc ?_ _));exact BK248.out) Tryd.underlying28 rfl (by kernel_rfl)) rfl ?_
 exact ⟨_,by first|rfl|(simp [errW_none,errW_some] <;> rfl)|(simp [*,errW_none,errW_some] <;> rfl),by (with_reducible repeat (first|apply Kd.R_alloc|apply Kd.R_drewN|apply Kd.R_drew));exact Kd.R_mono (Kd.R_far (p:=⟨gb248,1,none⟩) (Kd.R_far (p:=⟨gb248,0,none⟩) (Kd.R_far (p:=⟨gb249,1,none⟩) (Kd.R_types (Kd.R_types HO252.out BK249.out (by decide)) BK248.out (by decide)) (fun _ hk=>hk.1.2) (.slice Ao12 t250.length co12)) (fun _ hk=>hk.2) (.int .i64 a0_0)) (fun _ hk=>hk.2) (.slice Ao12 t250.length co12)) (fun _ hk=>trivial),bb_⟩
def impl_within.f (a0 : Int) (a1 : Int) (a2 : Int) : Option (Bool) := if a0 ≥ a1 then (some (decide (a0 ≤ a2))) else (some false)
set_option maxHeartbeats 8000000 in
set_option maxRecDepth 100000 in
theorem impl_within.calls (a0 : Int) (a1 : Int) (a2 : Int) (r : Bool) (w : World) (h : impl_within.f a0 a1 a2 = some r) :
 Calls Tryd.prog 121 #[.int .i64 a0,.int .i64 a1,.int .i64 a2] w fun e w'=>e = .returned (.bool r) ∧ Drawn0 w w':=by
 have H : (if a0 ≥ a1 then (some (decide (a0 ≤ a2))) else (some false)) = some r:=h;clear h;by_cases c4 : a0 ≥ a1
 ·rw [if_pos c4] at H;have c4b0 : decide (a1 ≤ a0) = true:=decide_eq_true c4;clear c4;obtain rfl:=Option.some.inj H;go_enter Tryd.func121,Tryd.ntmps121
  go_wp2
  go_ret
  exact ⟨by first|rfl|(simp;done)|(simp [*];done),by repeat (first|exact Drawn0.refl _|apply Drawn0.step)⟩
 ·rw [if_neg c4] at H;have c4b0 : decide (a1 ≤ a0) = false:=decide_eq_false c4;clear c4;obtain rfl:=Option.some.inj H;go_enter Tryd.func121,Tryd.ntmps121
  go_wp2
  go_ret
  exact ⟨by first|rfl|(simp;done)|(simp [*];done),by repeat (first|exact Drawn0.refl _|apply Drawn0.step)⟩
def impl_allWithin.l0 : Nat → Int → Int → List Int → Int → Int → Option (Bool)
 | 0,_,_,_,_,_=>none
 | k + 1,x1,x2,x9,x10,x11=>if x11 < x10 then (if 0 ≤ x11 then (if x11 < (x9.length : Int) then ((impl_within.f (rd x9 x11) x1 x2).bind fun t254=>(if t254 = true then (impl_allWithin.l0 k x1 x2 x9 x10 (wrap64 (x11 + 1))) else (some false))) else (none)) else (none)) else (some true)
def impl_allWithin.f (k : Nat) (l0 : List Int) (a1 : Int) (a2 : Int) : Option (Bool) := impl_allWithin.l0 k a1 a2 l0 (l0.length : Int) 0
set_option maxHeartbeats 8000000 in
set_option maxRecDepth 100000 in
theorem impl_allWithin.calls (k : Nat) (A0 : Option Addr) (c0 : Nat) (l0 : List Int) (a1 : Int) (a2 : Int) (r : Bool) (w : World) (hr0 : Kd.C (Kd.int .i64) w A0 l0.length l0) (hc0 : l0.length ≤ c0) (h : impl_allWithin.f k l0 a1 a2 = some r) :
 Calls Tryd.prog 199 #[.slice A0 l0.length c0,.int .i64 a1,.int .i64 a2] w fun e w'=>e = .returned (.bool r) ∧ Drawn0 w w':=by
 have HR0:=A_ hr0;have HC0:=A_ hc0;clear hr0 hc0;have H : (impl_allWithin.l0 k a1 a2 l0 (l0.length : Int) 0) = some r:=h;clear h;have H':=A_ H;clear H;go_enter Tryd.func199,Tryd.ntmps199
 go_wp2
 go_loopg [11] k (fun kq v11 w'=>∃ (x11_1 : Int),v11 = .int .i64 x11_1 ∧ Aside0 (impl_allWithin.l0 kq a1 a2 l0 (l0.length : Int) x11_1 = some r) ∧ Aside0 (kq ≤ k) ∧ Drawn0 w w')
 case atStart=>exact ⟨(0),(by first|rfl|(simp;done)|(simp [*];done)),H',⟨Nat.le_refl _⟩,by repeat (first|exact Drawn0.refl _|apply Drawn0.step)⟩
 case round =>
  clear H';try clear c1
  try clear p2
  obtain ⟨x11_1,rfl,HA,HK1,⟨m1,rfl⟩⟩:=hrel;cases gk with
  | zero => exact absurd HA.out (by simp [impl_allWithin.l0])
  | succ k1 =>
   have H:=HA.out;clear HA;simp only [impl_allWithin.l0] at H
   by_cases c4 : x11_1 < (l0.length : Int)
   ·rw [if_pos c4] at H;have c4b0 : decide (x11_1 < (l0.length : Int)) = true:=decide_eq_true c4;clear c4;by_cases c5 : 0 ≤ x11_1
    ·rw [if_pos c5] at H;have c5b0 : decide (0 ≤ x11_1) = true:=decide_eq_true c5;clear c5;by_cases c6 : x11_1 < (l0.length : Int)
     ·rw [if_pos c6] at H;have c6b0 : decide (x11_1 < (l0.length : Int)) = true:=decide_eq_true c6;clear c6;replace H:=Option.bind_eq_some_iff.mp H;obtain ⟨t254,A70,H⟩:=H;replace H : (if t254 = true then (impl_allWithin.l0 k1 a1 a2 l0 (l0.length : Int) (wrap64 (x11_1 + 1))) else (some false)) = some r:=H;have A7:=A_ A70;clear A70;by_cases c8 : t254 = true
      ·subst c8;have H1 : (impl_allWithin.l0 k1 a1 a2 l0 (l0.length : Int) (wrap64 (x11_1 + 1))) = some r:=by rw [if_pos rfl] at H;exact H
       clear H;have H:=H1;clear H1;have H':=A_ H;clear H;have p253 : 0 ≤ (x11_1 : Int):=of_decide_eq_true (by first|(with_reducible assumption)|assumption);have q253 : x11_1 < (l0.length : Int):=of_decide_eq_true (by first|(with_reducible assumption)|assumption);obtain ⟨ad253,e253,hx253_0⟩:=Kd.at_int HR0.out x11_1 p253 q253;cases e253
       replace p253:=eq_true p253;replace q253:=eq_true q253;go_wp2_with (first|((with_reducible refine gate_callee (f:=121) rfl ?_);refine goesL_ (some 18) rfl rfl Tryd.func121 (by kernel_rfl) rfl #[.int .i64 (rd l0 x11_1),.int .i64 a1,.int .i64 a2] rfl au_ ?_;(with_reducible refine (impl_within.calls (rd l0 x11_1) a1 a2 true _ A7.out).mono ?_);rintro e w' ⟨rfl,⟨nd,rfl⟩⟩;refine ⟨_,rfl,?_⟩))
       go_roundg k1
       case measure=>have:=HK1.out;omega
       case rel=>exact ⟨(wrap64 (x11_1 + 1)),(by first|rfl|(simp;done)|(simp [*];done)),H',⟨by have:=HK1.out;omega⟩,by repeat (first|exact Drawn0.refl _|apply Drawn0.step)⟩
      ·replace c8:=Bool.eq_false_iff.mpr c8;subst c8;have H1 : (some false) = some r:=by rw [if_neg (show ¬ (false = true) by decide)] at H;exact H
       clear H;have H:=H1;clear H1;obtain rfl:=Option.some.inj H;have p253 : 0 ≤ (x11_1 : Int):=of_decide_eq_true (by first|(with_reducible assumption)|assumption);have q253 : x11_1 < (l0.length : Int):=of_decide_eq_true (by first|(with_reducible assumption)|assumption);obtain ⟨ad253,e253,hx253_0⟩:=Kd.at_int HR0.out x11_1 p253 q253;cases e253
       replace p253:=eq_true p253;replace q253:=eq_true q253;go_wp2_with (first|((with_reducible refine gate_callee (f:=121) rfl ?_);refine goesL_ (some 18) rfl rfl Tryd.func121 (by kernel_rfl) rfl #[.int .i64 (rd l0 x11_1),.int .i64 a1,.int .i64 a2] rfl au_ ?_;(with_reducible refine (impl_within.calls (rd l0 x11_1) a1 a2 false _ A7.out).mono ?_);rintro e w' ⟨rfl,⟨nd,rfl⟩⟩;refine ⟨_,rfl,?_⟩))
       go_ret
       exact ⟨by first|rfl|(simp;done)|(simp [*];done),by repeat (first|exact Drawn0.refl _|apply Drawn0.step)⟩
     ·rw [if_neg c6] at H;exact absurd H (by simp)
    ·rw [if_neg c5] at H;exact absurd H (by simp)
   ·rw [if_neg c4] at H;have c4b0 : decide (x11_1 < (l0.length : Int)) = false:=decide_eq_false c4;clear c4;obtain rfl:=Option.some.inj H;go_wp2
    go_ret
    exact ⟨by first|rfl|(simp;done)|(simp [*];done),by repeat (first|exact Drawn0.refl _|apply Drawn0.step)⟩
def impl_IsRelation.f (k : Nat) (a0_0 : Int) (l0_1 : List Int) : Option (Bool) := (impl_within.f a0_0 0 10).bind fun t256 => (if t256 = true then (if (l0_1.length : Int) = a0_0 then (if 0 ≤ a0_0 then ((impl_allWithin.f k l0_1 0 (wrap64 ((shl .i64 1 a0_0) - 1))).bind fun t257 => (some t257)) else (none)) else (some false)) else (some false))
set_option maxHeartbeats 8000000 in
set_option maxRecDepth 100000 in
theorem impl_IsRelation.calls (k : Nat) (a0_0 : Int) (A0_1 : Option Addr) (c0_1 : Nat) (l0_1 : List Int) (r : Bool) (w : World) (hr0_1 : Kd.C (Kd.int .i64) w A0_1 l0_1.length l0_1) (hc0_1 : l0_1.length ≤ c0_1) (h : impl_IsRelation.f k a0_0 l0_1 = some r) :
 Calls Tryd.prog 122 #[.agg #[.int .i64 a0_0,.slice A0_1 l0_1.length c0_1]] w fun e w'=>e = .returned (.bool r) ∧ Below w.heap.size w w':=by
 have hu28:=Tryd.underlying28;have HR0_1:=A_ hr0_1;have HC0_1:=A_ hc0_1;clear hr0_1 hc0_1;have HB:=A_ (Below.refl w.heap.size w);have H : ((impl_within.f a0_0 0 10).bind fun t256=>(if t256 = true then (if (l0_1.length : Int) = a0_0 then (if 0 ≤ a0_0 then ((impl_allWithin.f k l0_1 0 (wrap64 ((shl .i64 1 a0_0) - 1))).bind fun t257=>(some t257)) else (none)) else (some false)) else (some false))) = some r:=h;clear h;replace H:=Option.bind_eq_some_iff.mp H;obtain ⟨t256,A20,H⟩:=H;replace H : (if t256 = true then (if (l0_1.length : Int) = a0_0 then (if 0 ≤ a0_0 then ((impl_allWithin.f k l0_1 0 (wrap64 ((shl .i64 1 a0_0) - 1))).bind fun t257=>(some t257)) else (none)) else (some false)) else (some false)) = some r:=H;have A2:=A_ A20;clear A20;by_cases c3 : t256 = true
 ·subst c3;have H1 : (if (l0_1.length : Int) = a0_0 then (if 0 ≤ a0_0 then ((impl_allWithin.f k l0_1 0 (wrap64 ((shl .i64 1 a0_0) - 1))).bind fun t257=>(some t257)) else (none)) else (some false)) = some r:=by rw [if_pos rfl] at H;exact H
  clear H;have H:=H1;clear H1;by_cases c4 : (l0_1.length : Int) = a0_0
  ·rw [if_pos c4] at H;have c4b0 : ((l0_1.length : Int) == a0_0) = true:=beq_iff_eq.mpr c4;have c4b1 : ((l0_1.length : Int) != a0_0) = false:=bne_eq_false_iff_eq.mpr c4;clear c4;by_cases c5 : 0 ≤ a0_0
   ·rw [if_pos c5] at H;have c5b0:=eq_true c5;have c5b1 : decide (0 ≤ a0_0) = true:=decide_eq_true c5;clear c5;obtain ⟨ji6,hji6⟩ : ∃ j_ : Int,(shl .i64 1 a0_0) = j_:=⟨_,rfl⟩;replace H : ((impl_allWithin.f k l0_1 0 (wrap64 ((ji6) - 1))).bind fun t257=>(some t257)) = some r:=by first|(rw [hji6] at H;exact H)|(simp only [hji6] at H ⊢;exact H)
    (try rw [hji6] at A2);have hji6_ : (IntKind.i64.wrap (1 * 2 ^ min a0_0.toNat 64)) = ji6:=hji6;have hji6z : a0_0 ≤ 64 → (IntKind.i64.wrap (1 * 2 ^ a0_0.toNat)) = ji6:=shl_small hji6;have hji6u : (IntKind.i64.wrap (2 ^ min a0_0.toNat 64)) = ji6:=by have h_:=hji6_;rw [Int.one_mul] at h_;exact h_
    have hji6v : a0_0 ≤ 64 → (IntKind.i64.wrap (2 ^ a0_0.toNat)) = ji6:=fun hle_=>by have h_:=hji6z hle_;rw [Int.one_mul] at h_;exact h_
    have hji6y : (wrap64 (1 * 2 ^ min a0_0.toNat 64)) = ji6:=(i64_w _).symm.trans hji6_;have hji6x : a0_0 ≤ 64 → (wrap64 (1 * 2 ^ a0_0.toNat)) = ji6:=fun h_=>(i64_w _).symm.trans (hji6z h_)
    replace H:=Option.bind_eq_some_iff.mp H;obtain ⟨t257,A70,H⟩:=H;replace H : (some t257) = some r:=H;have A7:=A_ A70;clear A70;obtain rfl:=Option.some.inj H;go_enter Tryd.func122,Tryd.ntmps122
    go_wp2_with (first|((with_reducible refine gate_dst (N:=1) rfl ?_);(try (refine gate_guard (by rfl) ?_;dsimp only));refine box_event ?hg (N:=1) ?hd (cs:=#[.int .i64 a0_0,.slice A0_1 l0_1.length c0_1]) (t:=28) ?hr ?_;(case hd=>rfl);(case hg=>rfl);(case hr=>first|(go_simp;done)|(go_simp;rfl));intro gb255 hg w8 hbox hb;have BK255:=A_ (hbox);have GW255:=A_ ((by rw [hg];exact (below_size bb_) : w.heap.size ≤ gb255));have GE255:=A_ ((by rw [hg];exact (below_size bb_) : w.heap.size ≤ gb255));replace HB:=A_ (below_step bb_ hb);clear hb hbox hg;have hcz9_0 : w8.cell? ⟨gb255,0,none⟩ = some (.int .i64 a0_0):=blk_cell BK255.out 0;have hcz9_1 : w8.cell? ⟨gb255,1,none⟩ = some (.slice A0_1 l0_1.length c0_1):=blk_cell BK255.out 1;have hfz9_0:=blk_frozen BK255.out 0;have hfz9_1:=blk_frozen BK255.out 1)|(go_at_call 121;(with_reducible refine (impl_within.calls a0_0 0 10 true _ A2.out).mono ?_);rintro e w' ⟨rfl,⟨nd,rfl⟩⟩;(try first|exact ⟨rfl,_,World.drewN_drewN _ _ _⟩|exact ⟨rfl,_,Eq.trans (World.drewN_drewN _ _ _) (congrArg (World.drewN _) (Nat.add_assoc _ _ _))⟩))|(go_at_call 199;(with_reducible refine (impl_allWithin.calls k _ _ l0_1 0 (wrap64 ((ji6) - 1)) t257 _ ?side1 ?side2 A7.out).mono ?_);(case side1=>exact cl_ (Kd.C_below HR0_1.out bb_));(case side2=>exact HC0_1.out);rintro e w' ⟨rfl,⟨nd,rfl⟩⟩;(try first|exact ⟨rfl,_,World.drewN_drewN _ _ _⟩|exact ⟨rfl,_,Eq.trans (World.drewN_drewN _ _ _) (congrArg (World.drewN _) (Nat.add_assoc _ _ _))⟩)))
    repeat (go_quiet (first|((with_reducible refine gate_dst (N:=1) rfl ?_);(try (refine gate_guard (by rfl) ?_;dsimp only));refine box_event ?hg (N:=1) ?hd (cs:=#[.int .i64 a0_0,.slice A0_1 l0_1.length c0_1]) (t:=28) ?hr ?_;(case hd=>rfl);(case hg=>rfl);(case hr=>first|(go_simp;done)|(go_simp;rfl));intro gb255 hg w8 hbox hb;have BK255:=A_ (hbox);have GW255:=A_ ((by rw [hg];exact (below_size bb_) : w.heap.size ≤ gb255));have GE255:=A_ ((by rw [hg];exact (below_size bb_) : w.heap.size ≤ gb255));replace HB:=A_ (below_step bb_ hb);clear hb hbox hg;have hcz9_0 : w8.cell? ⟨gb255,0,none⟩ = some (.int .i64 a0_0):=blk_cell BK255.out 0;have hcz9_1 : w8.cell? ⟨gb255,1,none⟩ = some (.slice A0_1 l0_1.length c0_1):=blk_cell BK255.out 1;have hfz9_0:=blk_frozen BK255.out 0;have hfz9_1:=blk_frozen BK255.out 1)|(go_at_call 121;(with_reducible refine (impl_within.calls a0_0 0 10 true _ A2.out).mono ?_);rintro e w' ⟨rfl,⟨nd,rfl⟩⟩;(try first|exact ⟨rfl,_,World.drewN_drewN _ _ _⟩|exact ⟨rfl,_,Eq.trans (World.drewN_drewN _ _ _) (congrArg (World.drewN _) (Nat.add_assoc _ _ _))⟩))|(go_at_call 199;(with_reducible refine (impl_allWithin.calls k _ _ l0_1 0 (wrap64 ((ji6) - 1)) t257 _ ?side1 ?side2 A7.out).mono ?_);(case side1=>exact cl_ (Kd.C_below HR0_1.out bb_));(case side2=>exact HC0_1.out);rintro e w' ⟨rfl,⟨nd,rfl⟩⟩;(try first|exact ⟨rfl,_,World.drewN_drewN _ _ _⟩|exact ⟨rfl,_,Eq.trans (World.drewN_drewN _ _ _) (congrArg (World.drewN _) (Nat.add_assoc _ _ _))⟩)));try go_wp2_with (first|((with_reducible refine gate_dst (N:=1) rfl ?_);(try (refine gate_guard (by rfl) ?_;dsimp only));refine box_event ?hg (N:=1) ?hd (cs:=#[.int .i64 a0_0,.slice A0_1 l0_1.length c0_1]) (t:=28) ?hr ?_;(case hd=>rfl);(case hg=>rfl);(case hr=>first|(go_simp;done)|(go_simp;rfl));intro gb255 hg w8 hbox hb;have BK255:=A_ (hbox);have GW255:=A_ ((by rw [hg];exact (below_size bb_) : w.heap.size ≤ gb255));have GE255:=A_ ((by rw [hg];exact (below_size bb_) : w.heap.size ≤ gb255));replace HB:=A_ (below_step bb_ hb);clear hb hbox hg;have hcz9_0 : w8.cell? ⟨gb255,0,none⟩ = some (.int .i64 a0_0):=blk_cell BK255.out 0;have hcz9_1 : w8.cell? ⟨gb255,1,none⟩ = some (.slice A0_1 l0_1.length c0_1):=blk_cell BK255.out 1;have hfz9_0:=blk_frozen BK255.out 0;have hfz9_1:=blk_frozen BK255.out 1)|(go_at_call 121;(with_reducible refine (impl_within.calls a0_0 0 10 true _ A2.out).mono ?_);rintro e w' ⟨rfl,⟨nd,rfl⟩⟩;(try first|exact ⟨rfl,_,World.drewN_drewN _ _ _⟩|exact ⟨rfl,_,Eq.trans (World.drewN_drewN _ _ _) (congrArg (World.drewN _) (Nat.add_assoc _ _ _))⟩))|(go_at_call 199;(with_reducible refine (impl_allWithin.calls k _ _ l0_1 0 (wrap64 ((ji6) - 1)) t257 _ ?side1 ?side2 A7.out).mono ?_);(case side1=>exact cl_ (Kd.C_below HR0_1.out bb_));(case side2=>exact HC0_1.out);rintro e w' ⟨rfl,⟨nd,rfl⟩⟩;(try first|exact ⟨rfl,_,World.drewN_drewN _ _ _⟩|exact ⟨rfl,_,Eq.trans (World.drewN_drewN _ _ _) (congrArg (World.drewN _) (Nat.add_assoc _ _ _))⟩))))
    go_ret
    exact ⟨by first|rfl|(simp [errW_none,errW_some] <;> rfl)|(simp only [← hji6];first|rfl|(simp [errW_none,errW_some] <;> rfl))|(simp [*,errW_none,errW_some] <;> rfl),bb_⟩
   ·rw [if_neg c5] at H;exact absurd H (by simp)
  ·rw [if_neg c4] at H;have c4b0 : ((l0_1.length : Int) == a0_0) = false:=beq_eq_false_iff_ne.mpr c4;have c4b1 : ((l0_1.length : Int) != a0_0) = true:=bne_iff_ne.mpr c4;obtain rfl:=Option.some.inj H;go_enter Tryd.func122,Tryd.ntmps122
   go_wp2_with (first|((with_reducible refine gate_dst (N:=1) rfl ?_);(try (refine gate_guard (by rfl) ?_;dsimp only));refine box_event ?hg (N:=1) ?hd (cs:=#[.int .i64 a0_0,.slice A0_1 l0_1.length c0_1]) (t:=28) ?hr ?_;(case hd=>rfl);(case hg=>rfl);(case hr=>first|(go_simp;done)|(go_simp;rfl));intro gb255 hg w10 hbox hb;have BK255:=A_ (hbox);have GW255:=A_ ((by rw [hg];exact (below_size bb_) : w.heap.size ≤ gb255));have GE255:=A_ ((by rw [hg];exact (below_size bb_) : w.heap.size ≤ gb255));replace HB:=A_ (below_step bb_ hb);clear hb hbox hg;have hcz11_0 : w10.cell? ⟨gb255,0,none⟩ = some (.int .i64 a0_0):=blk_cell BK255.out 0;have hcz11_1 : w10.cell? ⟨gb255,1,none⟩ = some (.slice A0_1 l0_1.length c0_1):=blk_cell BK255.out 1;have hfz11_0:=blk_frozen BK255.out 0;have hfz11_1:=blk_frozen BK255.out 1)|(go_at_call 121;(with_reducible refine (impl_within.calls a0_0 0 10 true _ A2.out).mono ?_);rintro e w' ⟨rfl,⟨nd,rfl⟩⟩;(try first|exact ⟨rfl,_,World.drewN_drewN _ _ _⟩|exact ⟨rfl,_,Eq.trans (World.drewN_drewN _ _ _) (congrArg (World.drewN _) (Nat.add_assoc _ _ _))⟩)))
   repeat (go_quiet (first|((with_reducible refine gate_dst (N:=1) rfl ?_);(try (refine gate_guard (by rfl) ?_;dsimp only));refine box_event ?hg (N:=1) ?hd (cs:=#[.int .i64 a0_0,.slice A0_1 l0_1.length c0_1]) (t:=28) ?hr ?_;(case hd=>rfl);(case hg=>rfl);(case hr=>first|(go_simp;done)|(go_simp;rfl));intro gb255 hg w10 hbox hb;have BK255:=A_ (hbox);have GW255:=A_ ((by rw [hg];exact (below_size bb_) : w.heap.size ≤ gb255));have GE255:=A_ ((by rw [hg];exact (below_size bb_) : w.heap.size ≤ gb255));replace HB:=A_ (below_step bb_ hb);clear hb hbox hg;have hcz11_0 : w10.cell? ⟨gb255,0,none⟩ = some (.int .i64 a0_0):=blk_cell BK255.out 0;have hcz11_1 : w10.cell? ⟨gb255,1,none⟩ = some (.slice A0_1 l0_1.length c0_1):=blk_cell BK255.out 1;have hfz11_0:=blk_frozen BK255.out 0;have hfz11_1:=blk_frozen BK255.out 1)|(go_at_call 121;(with_reducible refine (impl_within.calls a0_0 0 10 true _ A2.out).mono ?_);rintro e w' ⟨rfl,⟨nd,rfl⟩⟩;(try first|exact ⟨rfl,_,World.drewN_drewN _ _ _⟩|exact ⟨rfl,_,Eq.trans (World.drewN_drewN _ _ _) (congrArg (World.drewN _) (Nat.add_assoc _ _ _))⟩)));try go_wp2_with (first|((with_reducible refine gate_dst (N:=1) rfl ?_);(try (refine gate_guard (by rfl) ?_;dsimp only));refine box_event ?hg (N:=1) ?hd (cs:=#[.int .i64 a0_0,.slice A0_1 l0_1.length c0_1]) (t:=28) ?hr ?_;(case hd=>rfl);(case hg=>rfl);(case hr=>first|(go_simp;done)|(go_simp;rfl));intro gb255 hg w10 hbox hb;have BK255:=A_ (hbox);have GW255:=A_ ((by rw [hg];exact (below_size bb_) : w.heap.size ≤ gb255));have GE255:=A_ ((by rw [hg];exact (below_size bb_) : w.heap.size ≤ gb255));replace HB:=A_ (below_step bb_ hb);clear hb hbox hg;have hcz11_0 : w10.cell? ⟨gb255,0,none⟩ = some (.int .i64 a0_0):=blk_cell BK255.out 0;have hcz11_1 : w10.cell? ⟨gb255,1,none⟩ = some (.slice A0_1 l0_1.length c0_1):=blk_cell BK255.out 1;have hfz11_0:=blk_frozen BK255.out 0;have hfz11_1:=blk_frozen BK255.out 1)|(go_at_call 121;(with_reducible refine (impl_within.calls a0_0 0 10 true _ A2.out).mono ?_);rintro e w' ⟨rfl,⟨nd,rfl⟩⟩;(try first|exact ⟨rfl,_,World.drewN_drewN _ _ _⟩|exact ⟨rfl,_,Eq.trans (World.drewN_drewN _ _ _) (congrArg (World.drewN _) (Nat.add_assoc _ _ _))⟩))))
   go_ret
   exact ⟨by first|rfl|(simp [errW_none,errW_some] <;> rfl)|(simp [*,errW_none,errW_some] <;> rfl),bb_⟩
 ·replace c3:=Bool.eq_false_iff.mpr c3;subst c3;have H1 : (some false) = some r:=by rw [if_neg (show ¬ (false = true) by decide)] at H;exact H
  clear H;have H:=H1;clear H1;obtain rfl:=Option.some.inj H;go_enter Tryd.func122,Tryd.ntmps122
  go_wp2_with (first|((with_reducible refine gate_dst (N:=1) rfl ?_);(try (refine gate_guard (by rfl) ?_;dsimp only));refine box_event ?hg (N:=1) ?hd (cs:=#[.int .i64 a0_0,.slice A0_1 l0_1.length c0_1]) (t:=28) ?hr ?_;(case hd=>rfl);(case hg=>rfl);(case hr=>first|(go_simp;done)|(go_simp;rfl));intro gb255 hg w12 hbox hb;have BK255:=A_ (hbox);have GW255:=A_ ((by rw [hg];exact (below_size bb_) : w.heap.size ≤ gb255));have GE255:=A_ ((by rw [hg];exact (below_size bb_) : w.heap.size ≤ gb255));replace HB:=A_ (below_step bb_ hb);clear hb hbox hg;have hcz13_0 : w12.cell? ⟨gb255,0,none⟩ = some (.int .i64 a0_0):=blk_cell BK255.out 0;have hcz13_1 : w12.cell? ⟨gb255,1,none⟩ = some (.slice A0_1 l0_1.length c0_1):=blk_cell BK255.out 1;have hfz13_0:=blk_frozen BK255.out 0;have hfz13_1:=blk_frozen BK255.out 1)|(go_at_call 121;(with_reducible refine (impl_within.calls a0_0 0 10 false _ A2.out).mono ?_);rintro e w' ⟨rfl,⟨nd,rfl⟩⟩;(try first|exact ⟨rfl,_,World.drewN_drewN _ _ _⟩|exact ⟨rfl,_,Eq.trans (World.drewN_drewN _ _ _) (congrArg (World.drewN _) (Nat.add_assoc _ _ _))⟩)))
  repeat (go_quiet (first|((with_reducible refine gate_dst (N:=1) rfl ?_);(try (refine gate_guard (by rfl) ?_;dsimp only));refine box_event ?hg (N:=1) ?hd (cs:=#[.int .i64 a0_0,.slice A0_1 l0_1.length c0_1]) (t:=28) ?hr ?_;(case hd=>rfl);(case hg=>rfl);(case hr=>first|(go_simp;done)|(go_simp;rfl));intro gb255 hg w12 hbox hb;have BK255:=A_ (hbox);have GW255:=A_ ((by rw [hg];exact (below_size bb_) : w.heap.size ≤ gb255));have GE255:=A_ ((by rw [hg];exact (below_size bb_) : w.heap.size ≤ gb255));replace HB:=A_ (below_step bb_ hb);clear hb hbox hg;have hcz13_0 : w12.cell? ⟨gb255,0,none⟩ = some (.int .i64 a0_0):=blk_cell BK255.out 0;have hcz13_1 : w12.cell? ⟨gb255,1,none⟩ = some (.slice A0_1 l0_1.length c0_1):=blk_cell BK255.out 1;have hfz13_0:=blk_frozen BK255.out 0;have hfz13_1:=blk_frozen BK255.out 1)|(go_at_call 121;(with_reducible refine (impl_within.calls a0_0 0 10 false _ A2.out).mono ?_);rintro e w' ⟨rfl,⟨nd,rfl⟩⟩;(try first|exact ⟨rfl,_,World.drewN_drewN _ _ _⟩|exact ⟨rfl,_,Eq.trans (World.drewN_drewN _ _ _) (congrArg (World.drewN _) (Nat.add_assoc _ _ _))⟩)));try go_wp2_with (first|((with_reducible refine gate_dst (N:=1) rfl ?_);(try (refine gate_guard (by rfl) ?_;dsimp only));refine box_event ?hg (N:=1) ?hd (cs:=#[.int .i64 a0_0,.slice A0_1 l0_1.length c0_1]) (t:=28) ?hr ?_;(case hd=>rfl);(case hg=>rfl);(case hr=>first|(go_simp;done)|(go_simp;rfl));intro gb255 hg w12 hbox hb;have BK255:=A_ (hbox);have GW255:=A_ ((by rw [hg];exact (below_size bb_) : w.heap.size ≤ gb255));have GE255:=A_ ((by rw [hg];exact (below_size bb_) : w.heap.size ≤ gb255));replace HB:=A_ (below_step bb_ hb);clear hb hbox hg;have hcz13_0 : w12.cell? ⟨gb255,0,none⟩ = some (.int .i64 a0_0):=blk_cell BK255.out 0;have hcz13_1 : w12.cell? ⟨gb255,1,none⟩ = some (.slice A0_1 l0_1.length c0_1):=blk_cell BK255.out 1;have hfz13_0:=blk_frozen BK255.out 0;have hfz13_1:=blk_frozen BK255.out 1)|(go_at_call 121;(with_reducible refine (impl_within.calls a0_0 0 10 false _ A2.out).mono ?_);rintro e w' ⟨rfl,⟨nd,rfl⟩⟩;(try first|exact ⟨rfl,_,World.drewN_drewN _ _ _⟩|exact ⟨rfl,_,Eq.trans (World.drewN_drewN _ _ _) (congrArg (World.drewN _) (Nat.add_assoc _ _ _))⟩))))
  go_ret
  exact ⟨by first|rfl|(simp [errW_none,errW_some] <;> rfl)|(simp [*,errW_none,errW_some] <;> rfl),bb_⟩
def bits_TrailingZeros64.f (a0 : Int) : Option Int := if 0 ≤ a0 ∧ a0 < 18446744073709551616 then some ((Lib.ctz 64 a0.toNat : Nat) : Int) else none
set_option maxHeartbeats 1000000 in
theorem tz64_core (x k idx : Nat) (w : World) (hx0 : ((x : Int) == 0) = false)
 (key : IntKind.u64.wrap (bits BinOp.and IntKind.u64 (x : Int) (IntKind.u64.wrap (-(x : Int))) * 285870213051353865) / 288230376151711744 = (idx : Int))
 (hi : idx < 64) (hk : k < 64) (hcell : w.cell? ⟨1,idx,none⟩ = some (.int .u8 k)) :
 Calls Tryd.prog 238 #[.int .u64 x] w fun e w'=>e = .returned (.int .i64 k) ∧ w = w':=by
 go_enter Tryd.func238,Tryd.ntmps238
 go_wp2_with (simp only [key])
 go_ret
 exact ⟨rfl,rfl⟩
theorem tz64_zero (w : World) :
 Calls Tryd.prog 238 #[.int .u64 0] w fun e w'=>e = .returned (.int .i64 64) ∧ w = w':=by
 go_enter Tryd.func238,Tryd.ntmps238
 go_wp2
 go_ret
 exact ⟨rfl,rfl⟩
theorem bits_TrailingZeros64.calls (a0 : Int) (r : Int) (w : World) (hT : TabOK w) (h : bits_TrailingZeros64.f a0 = some r) :
 Calls Tryd.prog 238 #[.int .u64 a0] w fun e w'=>e = .returned (.int .i64 r) ∧ Drawn0 w w':=by
 unfold bits_TrailingZeros64.f at h
 split at h
 ·rename_i hb
  obtain ⟨x,rfl⟩:=Int.eq_ofNat_of_zero_le hb.1;injection h with h;subst h;rw [Int.toNat_natCast];by_cases hx0 : x = 0
  ·subst hx0;refine (tz64_zero w).mono ?_
   rintro e w' ⟨rfl,rfl⟩
   exact ⟨rfl,Drawn0.refl _⟩
  ·obtain ⟨hlow,hk⟩:=Lib.lowest_bit 64 x hx0 (by omega);obtain ⟨hi,htab⟩:=Lib.deBruijn64_at _ hk;have hcell:=hT _ hi;rw [htab] at hcell;refine (tz64_core x _ _ w (by simp;omega) (tz64_key x _ (by omega) hx0 hlow) hi hk hcell).mono ?_
   rintro e w' ⟨rfl,rfl⟩
   exact ⟨rfl,Drawn0.refl _⟩
 ·cases h
def bits_TrailingZeros.f (a0 : Int) : Option (Int) := (bits_TrailingZeros64.f a0).bind fun t258 => (some t258)
set_option maxHeartbeats 8000000 in
set_option maxRecDepth 100000 in
theorem bits_TrailingZeros.calls (a0 : Int) (r : Int) (w : World) (hT : TabOK w) (h : bits_TrailingZeros.f a0 = some r) :
 Calls Tryd.prog 200 #[.int .u64 a0] w fun e w'=>e = .returned (.int .i64 r) ∧ Drawn0 w w':=by
 have HT:=A_ hT;clear hT;have H : ((bits_TrailingZeros64.f a0).bind fun t258=>(some t258)) = some r:=h;clear h;replace H:=Option.bind_eq_some_iff.mp H;obtain ⟨t258,A20,H⟩:=H;replace H : (some t258) = some r:=H;have A2:=A_ A20;clear A20;obtain rfl:=Option.some.inj H;go_enter Tryd.func200,Tryd.ntmps200
 go_wp2_with (first|((with_reducible refine gate_callee (f:=238) rfl ?_);refine goesL_ (some 7) rfl rfl Tryd.func238 (by kernel_rfl) rfl #[.int .u64 a0] rfl au_ ?_;(with_reducible refine (bits_TrailingZeros64.calls a0 t258 _ ?side1 A2.out).mono ?_);(case side1=>first|exact HT.out|(repeat (first|exact HT.out|apply TabOK.drewN|apply TabOK.drew|apply TabOK.alloc)));rintro e w' ⟨rfl,⟨nd,rfl⟩⟩;refine ⟨_,rfl,?_⟩))
 go_ret
 exact ⟨by first|rfl|(simp;done)|(simp [*];done),by repeat (first|exact Drawn0.refl _|apply Drawn0.step)⟩
def impl_members.l0 : Nat → Int → List Int → Option (List Int)
 | 0,_,_=>none
 | k + 1,x0,x3=>if x0 = 0 then (some x3) else ((bits_TrailingZeros.f (IntKind.u64.wrap (x0))).bind fun t262=>(if x3.length < 17592186044416 then (impl_members.l0 k (Go.bits .and .i64 x0 (wrap64 (x0 - 1))) (x3 ++ [t262])) else (none)))
def impl_members.f (k : Nat) (a0 : Int) : Option (List Int) := impl_members.l0 k a0 (([] : List Int))
set_option maxHeartbeats 8000000 in
set_option maxRecDepth 100000 in
theorem impl_members.calls (k : Nat) (a0 : Int) (r : List Int) (w : World) (hT : TabOK w) (h : impl_members.f k a0 = some r) :
 Calls Tryd.prog 124 #[.int .i64 a0] w fun e w'=>∃ v0_ : Value,e = .returned (v0_) ∧ Kd.R (Kd.int .i64) 3 w' w.heap.size (fun _=>True) v0_ r ∧ Below w.heap.size w w':=by
 have HT:=A_ hT;clear hT;have HB:=A_ (Below.refl w.heap.size w);have H : (impl_members.l0 k a0 (([] : List Int))) = some r:=h;clear h;obtain ⟨y259,hy259⟩ : ∃ y_ : List Int,y_ = (([] : List Int)):=⟨_,rfl⟩;replace H : (impl_members.l0 k a0 y259) = some r:=by first|(rw [hy259];with_reducible exact H)|(have H2_:=(Option.bind_some _ _).symm.trans H;rw [hy259];with_reducible exact H2_)|(have H2_:=(Option.bind_some _ _).symm.trans H;with_reducible exact H2_)|with_reducible exact H|(rw [hy259];exact H)|exact H
 have Ny259:=A_ hy259;clear hy259;have H':=A_ H;clear H;go_enter Tryd.func124,Tryd.ntmps124
 go_wp2_with (first|((with_reducible refine gate_dst (N:=4) rfl ?_);refine Kd.R_lit (Kd.int .i64) _ 3 ?hg (N:=4) ?hd (xs:=([] : List Int)) (inner:=[]) (ok:=fun _=>True) (okp:=fun _=>True) ?hr ?hp (fun _ hk=>hk) trivial (Below.refl _ _) (Nat.le_refl _) (by simp) ?_;(case hd=>rfl);(case hg=>rfl);(case hr=>first|(go_simp;done)|(go_simp;rfl));(case hp=>exact (Reps.none _ _));intro v260 w2 ho3 hb hg_ hnew_;clear hg_ hnew_;(first|rw [← Ny259.out] at ho3|(simp only [Int.reduceToNat] at ho3;rw [← Ny259.out] at ho3));have HO261:=A_ (Kd.R_lower ho3 (below_size bb_));replace HB:=A_ (below_step bb_ hb);clear hb ho3))
 go_loopg [0,3] k (fun kq v0 v3 w'=>∃ (x0_1 : Int) (x3_1 : List Int),v0 = .int .i64 x0_1 ∧ Aside0 (impl_members.l0 kq x0_1 x3_1 = some r) ∧ Aside0 (kq ≤ k) ∧ Aside0 (Kd.R (Kd.int .i64) 3 w' w.heap.size (fun _=>True) v3 x3_1) ∧ Aside0 (Below w.heap.size w w'))
 case atStart=>exact ⟨(a0),(y259),(by first|rfl|(simp;done)|(simp [*];done)),H',⟨Nat.le_refl _⟩,⟨by (with_reducible repeat (first|apply Kd.R_alloc|apply Kd.R_drewN|apply Kd.R_drew));exact HO261.out⟩,⟨bb_⟩⟩
 case round =>
  clear H';try clear c1
  try clear p2
  obtain ⟨x0_1,x3_1,rfl,HA,HK1,HO_3,HB⟩:=hrel;cases gk with
  | zero => exact absurd HA.out (by simp [impl_members.l0])
  | succ k1 =>
   have H:=HA.out;clear HA;simp only [impl_members.l0] at H
   by_cases c4 : x0_1 = 0
   ·rw [if_pos c4] at H;have c4b0 : (x0_1 == 0) = true:=beq_iff_eq.mpr c4;have c4b1 : (x0_1 != 0) = false:=bne_eq_false_iff_eq.mpr c4;clear c4;obtain rfl:=Option.some.inj H;go_wp2
    go_ret
    exact ⟨_,by first|rfl|(simp [errW_none,errW_some] <;> rfl)|(simp [*,errW_none,errW_some] <;> rfl),by (with_reducible repeat (first|apply Kd.R_alloc|apply Kd.R_drewN|apply Kd.R_drew));exact HO_3.out,bb_⟩
   ·rw [if_neg c4] at H;have c4b0 : (x0_1 == 0) = false:=beq_eq_false_iff_ne.mpr c4;have c4b1 : (x0_1 != 0) = true:=bne_iff_ne.mpr c4;replace H:=Option.bind_eq_some_iff.mp H;obtain ⟨t262,A50,H⟩:=H;replace H : (if x3_1.length < 17592186044416 then (impl_members.l0 k1 (Go.bits .and .i64 x0_1 (wrap64 (x0_1 - 1))) (x3_1 ++ [t262])) else (none)) = some r:=H;have A5:=A_ A50;clear A50;by_cases c6 : x3_1.length < 17592186044416
    ·rw [if_pos c6] at H;have LMc6:=A_ c6;clear c6;obtain ⟨y263,hy263⟩ : ∃ y_ : List Int,y_ = (x3_1 ++ [t262]):=⟨_,rfl⟩;replace H : (impl_members.l0 k1 (Go.bits .and .i64 x0_1 (wrap64 (x0_1 - 1))) y263) = some r:=by first|(rw [hy263];with_reducible exact H)|(have H2_:=(Option.bind_some _ _).symm.trans H;rw [hy263];with_reducible exact H2_)|(have H2_:=(Option.bind_some _ _).symm.trans H;with_reducible exact H2_)|with_reducible exact H|(rw [hy263];exact H)|exact H
     have Ny263:=A_ hy263;clear hy263;have H':=A_ H;clear H;go_wp2_with (first|((with_reducible refine gate_callee (f:=200) rfl ?_);refine goesL_ (some 14) rfl rfl Tryd.func200 (by kernel_rfl) rfl #[.int .u64 (IntKind.u64.wrap (x0_1))] rfl au_ ?_;(with_reducible refine (bits_TrailingZeros.calls (IntKind.u64.wrap (x0_1)) t262 _ ?side1 A5.out).mono ?_);(case side1=>first|exact HT.out|exact HT.out.below bb_|(repeat (first|exact HT.out|apply TabOK.drewN|apply TabOK.drew|apply TabOK.alloc)));rintro e w' ⟨rfl,⟨nd,rfl⟩⟩;refine ⟨_,rfl,?_⟩)|((with_reducible refine gate_builtin (b:=.append) (xs:=#[.tmp 11,.tmp 15]) rfl ?_);at_builtin;refine Kd.R_append (Kd.int .i64) (w0:=w) w.heap.size rfl (.tmp 11) (.tmp 15) 22 3 (.int .i64 0) 8 rfl Tryd.underlying22 info3 rfl (by decide) (by omega) u3 x3_1 t262 [.int .i64 t262] (fun _=>True) (fun _=>False) rfl rfl ?aP (fun _ hk=>hk.elim) ?aF ?aO ?aB ?aS ?aL ?_;(case aP=>exact rfl);(case aB=>exact bb_);(case aF=>exact (fun _ _=>trivial));(case aO=>exact (rl_ HO_3));(case aS=>exact (below_size bb_));(case aL=>have:=LMc6.out;omega);intro v264 w7 ho hb hg hat;rw [← Ny263.out] at ho;replace HB:=A_ (hb);have HO265:=A_ (ho);clear HO_3;clear ho hb hg hat))
     go_roundg k1
     case measure=>have:=HK1.out;omega
     case rel=>exact ⟨(Go.bits .and .i64 x0_1 (wrap64 (x0_1 - 1))),(y263),(by first|rfl|(simp;done)|(simp [*];done)),H',⟨by have:=HK1.out;omega⟩,⟨by (with_reducible repeat (first|apply Kd.R_alloc|apply Kd.R_drewN|apply Kd.R_drew));exact HO265.out⟩,⟨bb_⟩⟩
    ·rw [if_neg c6] at H;exact absurd H (by simp)
def impl_Order_better.f (a0_0 : Int) (l0_1 : List Int) (a1 : Int) (a2 : Int) : Option (Bool) := if 0 ≤ a1 then (if a1 < (l0_1.length : Int) then (if 0 ≤ a2 then (some ((Go.bits .and .i64 (shr .i64 (rd l0_1 a1) a2) 1) == 1)) else (none)) else (none)) else (none)
set_option maxHeartbeats 8000000 in
set_option maxRecDepth 100000 in
theorem impl_Order_better.calls (a0_0 : Int) (A0_1 : Option Addr) (c0_1 : Nat) (l0_1 : List Int) (a1 : Int) (a2 : Int) (r : Bool) (w : World) (hr0_1 : Kd.C (Kd.int .i64) w A0_1 l0_1.length l0_1) (hc0_1 : l0_1.length ≤ c0_1) (h : impl_Order_better.f a0_0 l0_1 a1 a2 = some r) :
 Calls Tryd.prog 146 #[.agg #[.int .i64 a0_0,.slice A0_1 l0_1.length c0_1],.int .i64 a1,.int .i64 a2] w fun e w'=>e = .returned (.bool r) ∧ Below w.heap.size w w':=by
 have hu28:=Tryd.underlying28;have HR0_1:=A_ hr0_1;have HC0_1:=A_ hc0_1;clear hr0_1 hc0_1;have HB:=A_ (Below.refl w.heap.size w);have H : (if 0 ≤ a1 then (if a1 < (l0_1.length : Int) then (if 0 ≤ a2 then (some ((Go.bits .and .i64 (shr .i64 (rd l0_1 a1) a2) 1) == 1)) else (none)) else (none)) else (none)) = some r:=h;clear h;by_cases c4 : 0 ≤ a1
 ·rw [if_pos c4] at H;have c4b0 : decide (0 ≤ a1) = true:=decide_eq_true c4;clear c4;by_cases c5 : a1 < (l0_1.length : Int)
  ·rw [if_pos c5] at H;have c5b0 : decide (a1 < (l0_1.length : Int)) = true:=decide_eq_true c5;clear c5;by_cases c6 : 0 ≤ a2
   ·rw [if_pos c6] at H;have c6b0:=eq_true c6;have c6b1 : decide (0 ≤ a2) = true:=decide_eq_true c6;clear c6;obtain ⟨ji7,hji7⟩ : ∃ j_ : Int,(shr .i64 (rd l0_1 a1) a2) = j_:=⟨_,rfl⟩;replace H : (some ((Go.bits .and .i64 (ji7) 1) == 1)) = some r:=by first|(rw [hji7] at H;exact H)|(simp only [hji7] at H ⊢;exact H)
    have hji7_ : ((rd l0_1 a1) / 2 ^ min a2.toNat 64) = ji7:=hji7;have hji7z : a2 ≤ 64 → ((rd l0_1 a1) / 2 ^ a2.toNat) = ji7:=shr_small hji7;obtain rfl:=Option.some.inj H;go_enter Tryd.func146,Tryd.ntmps146
    go_wp2_with (first|((with_reducible refine gate_dst (N:=3) rfl ?_);refine box_event ?hg (N:=3) ?hd (cs:=#[.int .i64 a0_0,.slice A0_1 l0_1.length c0_1]) (t:=28) ?hr ?_;(case hd=>rfl);(case hg=>rfl);(case hr=>first|(go_simp;done)|(go_simp;rfl));intro gb266 hg w8 hbox hb;have BK266:=A_ (hbox);have GW266:=A_ ((by rw [hg];exact (below_size bb_) : w.heap.size ≤ gb266));have GE266:=A_ ((by rw [hg];exact (below_size bb_) : w.heap.size ≤ gb266));replace HB:=A_ (below_step bb_ hb);clear hb hbox hg;have hcz9_0 : w8.cell? ⟨gb266,0,none⟩ = some (.int .i64 a0_0):=blk_cell BK266.out 0;have hcz9_1 : w8.cell? ⟨gb266,1,none⟩ = some (.slice A0_1 l0_1.length c0_1):=blk_cell BK266.out 1;have hfz9_0:=blk_frozen BK266.out 0;have hfz9_1:=blk_frozen BK266.out 1;have p267 : 0 ≤ (a1 : Int):=of_decide_eq_true (by first|(with_reducible assumption)|assumption);have q267 : a1 < (l0_1.length : Int):=of_decide_eq_true (by first|(with_reducible assumption)|assumption);obtain ⟨ad267,e267,hx267_0⟩:=Kd.at_int HR0_1.out a1 p267 q267;cases e267;(try replace hx267_0:=(HB.out.cell (World.block_lt_of_cell? w _ hx267_0)).trans hx267_0);replace p267:=eq_true p267;replace q267:=eq_true q267))
    go_ret
    exact ⟨by first|rfl|(simp [errW_none,errW_some] <;> rfl)|(simp only [← hji7];first|rfl|(simp [errW_none,errW_some] <;> rfl))|(simp [*,errW_none,errW_some] <;> rfl),bb_⟩
   ·rw [if_neg c6] at H;exact absurd H (by simp)
  ·rw [if_neg c5] at H;exact absurd H (by simp)
 ·rw [if_neg c4] at H;exact absurd H (by simp)
mutual
def impl_IsOrder.l0 : Nat → List Int → Int → Int → Int → List Int → Option (Bool)
 | 0,_,_,_,_,_=>none
 | k + 1,x11,x12,x13,x269000,x269001=>if x13 < x12 then (if 0 ≤ x13 then (if x13 < (x11.length : Int) then ((impl_Order_better.f x269000 x269001 x13 x13).bind fun t271=>(if t271 = true then (some false) else ((impl_members.f k (rd x11 x13)).bind fun t272=>(impl_IsOrder.l1 k (rd x11 x13) x11 x12 x13 t272 (t272.length : Int) 0 x269000 x269001)))) else (none)) else (none)) else (some true)
def impl_IsOrder.l1 : Nat → Int → List Int → Int → Int → List Int → Int → Int → Int → List Int → Option (Bool)
 | 0,_,_,_,_,_,_,_,_,_=>none
 | k + 1,x4,x11,x12,x13,x23,x24,x25,x269000,x269001=>if x25 < x24 then (if 0 ≤ x25 then (if x25 < (x23.length : Int) then (if 0 ≤ (rd x23 x25) then (if (rd x23 x25) < (x269001.length : Int) then (if (Go.bits .andNot .i64 (rd x269001 (rd x23 x25)) x4) = 0 then (impl_IsOrder.l1 k x4 x11 x12 x13 x23 x24 (wrap64 (x25 + 1)) x269000 x269001) else (some false)) else (none)) else (none)) else (none)) else (none)) else (impl_IsOrder.l0 k x11 x12 (wrap64 (x13 + 1)) x269000 x269001)
end
def impl_IsOrder.f (k : Nat) (a0_0 : Int) (l0_1 : List Int) : Option (Bool) := (impl_IsRelation.f k a0_0 l0_1).bind fun t269 => (if t269 = true then (impl_IsOrder.l0 k l0_1 (l0_1.length : Int) 0 a0_0 l0_1) else (some false))
set_option maxHeartbeats 8000000 in
set_option maxRecDepth 100000 in
theorem impl_IsOrder.calls (k : Nat) (a0_0 : Int) (A0_1 : Option Addr) (c0_1 : Nat) (l0_1 : List Int) (r : Bool) (w : World) (hr0_1 : Kd.C (Kd.int .i64) w A0_1 l0_1.length l0_1) (hc0_1 : l0_1.length ≤ c0_1) (hT : TabOK w) (h : impl_IsOrder.f k a0_0 l0_1 = some r) :
 Calls Tryd.prog 61 #[.agg #[.int .i64 a0_0,.slice A0_1 l0_1.length c0_1]] w fun e w'=>e = .returned (.bool r) ∧ Below w.heap.size w w':=by
 have hu28:=Tryd.underlying28;have HT:=A_ hT;clear hT;have HR0_1:=A_ hr0_1;have HC0_1:=A_ hc0_1;clear hr0_1 hc0_1;have HB:=A_ (Below.refl w.heap.size w);have H : ((impl_IsRelation.f k a0_0 l0_1).bind fun t269=>(if t269 = true then (impl_IsOrder.l0 k l0_1 (l0_1.length : Int) 0 a0_0 l0_1) else (some false))) = some r:=h;clear h;replace H:=Option.bind_eq_some_iff.mp H;obtain ⟨t269,A20,H⟩:=H;replace H : (if t269 = true then (impl_IsOrder.l0 k l0_1 (l0_1.length : Int) 0 a0_0 l0_1) else (some false)) = some r:=H;have A2:=A_ A20;clear A20;by_cases c3 : t269 = true
 ·subst c3;have H1 : (impl_IsOrder.l0 k l0_1 (l0_1.length : Int) 0 a0_0 l0_1) = some r:=by rw [if_pos rfl] at H;exact H
  clear H;have H:=H1;clear H1;have H':=A_ H;clear H;go_enter Tryd.func61,Tryd.ntmps61
  go_wp2_with (first|((with_reducible refine gate_dst (N:=1) rfl ?_);refine box_event ?hg (N:=1) ?hd (cs:=#[.int .i64 a0_0,.slice A0_1 l0_1.length c0_1]) (t:=28) ?hr ?_;(case hd=>rfl);(case hg=>rfl);(case hr=>first|(go_simp;done)|(go_simp;rfl));intro gb268 hg w4 hbox hb;have BK268:=A_ (hbox);have GW268:=A_ ((by rw [hg];exact (below_size bb_) : w.heap.size ≤ gb268));have GE268:=A_ ((by rw [hg];exact (below_size bb_) : w.heap.size ≤ gb268));replace HB:=A_ (below_step bb_ hb);clear hb hbox hg;have hcz5_0 : w4.cell? ⟨gb268,0,none⟩ = some (.int .i64 a0_0):=blk_cell BK268.out 0;have hcz5_1 : w4.cell? ⟨gb268,1,none⟩ = some (.slice A0_1 l0_1.length c0_1):=blk_cell BK268.out 1;have hfz5_0:=blk_frozen BK268.out 0;have hfz5_1:=blk_frozen BK268.out 1)|((with_reducible refine gate_callee (f:=122) rfl ?_);refine goesL_ (some 8) rfl rfl Tryd.func122 (by kernel_rfl) rfl #[.agg #[.int .i64 a0_0,.slice A0_1 l0_1.length c0_1]] rfl au_ ?_;(with_reducible refine (impl_IsRelation.calls k a0_0 _ _ l0_1 true _ ?side1 ?side2 A2.out).mono ?_);(case side1=>exact cl_ (Kd.C_below HR0_1.out HB.out));(case side2=>exact HC0_1.out);rintro e w6 ⟨rfl,hb⟩;refine ⟨_,rfl,?_⟩;replace BK268:=bz BK268 hb;replace HB:=A_ (below_step bb_ hb);(try clear hb);(try clear hb2);(try clear hk);(try clear hi);have hcz7_0 : w6.cell? ⟨gb268,0,none⟩ = some (.int .i64 a0_0):=blk_cell BK268.out 0;have hcz7_1 : w6.cell? ⟨gb268,1,none⟩ = some (.slice A0_1 l0_1.length c0_1):=blk_cell BK268.out 1;have hfz7_0:=blk_frozen BK268.out 0;have hfz7_1:=blk_frozen BK268.out 1))
  go_loopg [13] k (fun kq v13 w'=>∃ (x13_1 : Int),v13 = .int .i64 x13_1 ∧ Aside0 (impl_IsOrder.l0 kq l0_1 (l0_1.length : Int) x13_1 a0_0 l0_1 = some r) ∧ Aside0 (kq ≤ k) ∧ Aside0 (w'.heap[gb268]? = some (.cells #[.int .i64 a0_0,(.slice A0_1 l0_1.length c0_1)] 28 (0,0))) ∧ Aside0 (Below w.heap.size w w'))
  case atStart=>exact ⟨(0),(by first|rfl|(simp;done)|(simp [*];done)),H',⟨Nat.le_refl _⟩,⟨bl_ BK268⟩,⟨bb_⟩⟩
  case round =>
   clear H';try clear c1
   try clear p2
   try clear c3
   try clear c6
   try clear hcz5_0
   try clear hcz5_1
   try clear hcz7_0
   try clear hcz7_1
   try clear hfz5_0
   try clear hfz5_1
   try clear hfz7_0
   try clear hfz7_1
   obtain ⟨x13_1,rfl,HA,HK1,BK268,HB⟩:=hrel;cases gk with
   | zero=>exact absurd HA.out (by simp [impl_IsOrder.l0])
   | succ k1 =>
    have H:=HA.out;clear HA;simp only [impl_IsOrder.l0] at H
    by_cases c8 : x13_1 < (l0_1.length : Int)
    ·rw [if_pos c8] at H;have c8b0 : decide (x13_1 < (l0_1.length : Int)) = true:=decide_eq_true c8;clear c8;by_cases c9 : 0 ≤ x13_1
     ·rw [if_pos c9] at H;have c9b0 : decide (0 ≤ x13_1) = true:=decide_eq_true c9;clear c9;by_cases c10 : x13_1 < (l0_1.length : Int)
      ·rw [if_pos c10] at H;have c10b0 : decide (x13_1 < (l0_1.length : Int)) = true:=decide_eq_true c10;clear c10;replace H:=Option.bind_eq_some_iff.mp H;obtain ⟨t271,A110,H⟩:=H;replace H : (if t271 = true then (some false) else ((impl_members.f k1 (rd l0_1 x13_1)).bind fun t272=>(impl_IsOrder.l1 k1 (rd l0_1 x13_1) l0_1 (l0_1.length : Int) x13_1 t272 (t272.length : Int) 0 a0_0 l0_1))) = some r:=H;have A11:=A_ A110;clear A110;by_cases c12 : t271 = true
       ·subst c12;have H1 : (some false) = some r:=by rw [if_pos rfl] at H;exact H
        clear H;have H:=H1;clear H1;obtain rfl:=Option.some.inj H;have p270 : 0 ≤ (x13_1 : Int):=of_decide_eq_true (by first|(with_reducible assumption)|assumption);have q270 : x13_1 < (l0_1.length : Int):=of_decide_eq_true (by first|(with_reducible assumption)|assumption);obtain ⟨ad270,e270,hx270_0⟩:=Kd.at_int HR0_1.out x13_1 p270 q270;cases e270
        (try replace hx270_0:=(HB.out.cell (World.block_lt_of_cell? w _ hx270_0)).trans hx270_0);replace p270:=eq_true p270;replace q270:=eq_true q270;have hcz13_0 : wr.cell? ⟨gb268,0,none⟩ = some (.int .i64 a0_0):=blk_cell BK268.out 0;have hcz13_1 : wr.cell? ⟨gb268,1,none⟩ = some (.slice (some ad270) l0_1.length c0_1):=blk_cell BK268.out 1;have hfz13_0:=blk_frozen BK268.out 0;have hfz13_1:=blk_frozen BK268.out 1;go_wp2_with (first|((with_reducible refine gate_callee (f:=146) rfl ?_);refine goesL_ (some 21) rfl rfl Tryd.func146 (by kernel_rfl) rfl #[.agg #[.int .i64 a0_0,.slice (some ad270) l0_1.length c0_1],.int .i64 x13_1,.int .i64 x13_1] rfl au_ ?_;(with_reducible refine (impl_Order_better.calls a0_0 _ _ l0_1 x13_1 x13_1 true _ ?side1 ?side2 A11.out).mono ?_);(case side1=>exact cl_ (Kd.C_below HR0_1.out HB.out));(case side2=>exact HC0_1.out);rintro e w14 ⟨rfl,hb⟩;refine ⟨_,rfl,?_⟩;replace BK268:=bz BK268 hb;replace HB:=A_ (below_step bb_ hb);(try clear hb);(try clear hb2);(try clear hk);(try clear hi)))
        go_ret
        exact ⟨by first|rfl|(simp [errW_none,errW_some] <;> rfl)|(simp [*,errW_none,errW_some] <;> rfl),bb_⟩
       ·replace c12:=Bool.eq_false_iff.mpr c12;subst c12;have H1 : ((impl_members.f k1 (rd l0_1 x13_1)).bind fun t272=>(impl_IsOrder.l1 k1 (rd l0_1 x13_1) l0_1 (l0_1.length : Int) x13_1 t272 (t272.length : Int) 0 a0_0 l0_1)) = some r:=by rw [if_neg (show ¬ (false = true) by decide)] at H;exact H
        clear H;have H:=H1;clear H1;replace H:=Option.bind_eq_some_iff.mp H;obtain ⟨t272,A150,H⟩:=H;replace H : (impl_IsOrder.l1 k1 (rd l0_1 x13_1) l0_1 (l0_1.length : Int) x13_1 t272 (t272.length : Int) 0 a0_0 l0_1) = some r:=H;have A15:=A_ A150;clear A150;have H':=A_ H;clear H;have p270 : 0 ≤ (x13_1 : Int):=of_decide_eq_true (by first|(with_reducible assumption)|assumption);have q270 : x13_1 < (l0_1.length : Int):=of_decide_eq_true (by first|(with_reducible assumption)|assumption);obtain ⟨ad270,e270,hx270_0⟩:=Kd.at_int HR0_1.out x13_1 p270 q270;cases e270
        (try replace hx270_0:=(HB.out.cell (World.block_lt_of_cell? w _ hx270_0)).trans hx270_0);replace p270:=eq_true p270;replace q270:=eq_true q270;have hcz16_0 : wr.cell? ⟨gb268,0,none⟩ = some (.int .i64 a0_0):=blk_cell BK268.out 0;have hcz16_1 : wr.cell? ⟨gb268,1,none⟩ = some (.slice (some ad270) l0_1.length c0_1):=blk_cell BK268.out 1;have hfz16_0:=blk_frozen BK268.out 0;have hfz16_1:=blk_frozen BK268.out 1;go_wp2_with (first|((with_reducible refine gate_callee (f:=146) rfl ?_);refine goesL_ (some 21) rfl rfl Tryd.func146 (by kernel_rfl) rfl #[.agg #[.int .i64 a0_0,.slice (some ad270) l0_1.length c0_1],.int .i64 x13_1,.int .i64 x13_1] rfl au_ ?_;(with_reducible refine (impl_Order_better.calls a0_0 _ _ l0_1 x13_1 x13_1 false _ ?side1 ?side2 A11.out).mono ?_);(case side1=>exact cl_ (Kd.C_below HR0_1.out HB.out));(case side2=>exact HC0_1.out);rintro e w17 ⟨rfl,hb⟩;refine ⟨_,rfl,?_⟩;replace BK268:=bz BK268 hb;replace HB:=A_ (below_step bb_ hb);(try clear hb);(try clear hb2);(try clear hk);(try clear hi))|((with_reducible refine gate_callee (f:=124) rfl ?_);refine goesL_ (some 23) rfl rfl Tryd.func124 (by kernel_rfl) rfl #[.int .i64 (rd l0_1 x13_1)] rfl au_ ?_;(with_reducible refine (impl_members.calls k1 (rd l0_1 x13_1) t272 _ ?side1 A15.out).mono ?_);(case side1=>first|exact HT.out|exact HT.out.below bb_|(repeat (first|exact HT.out|apply TabOK.drewN|apply TabOK.drew|apply TabOK.alloc)));rintro e w18 ⟨v273,rfl,ho0,hb⟩;refine ⟨_,rfl,?_⟩;have HO274:=A_ (Kd.R_lower ho0 (below_size bb_));replace BK268:=bz BK268 hb;replace HB:=A_ (below_step bb_ hb);(try clear hb);(try clear hb2);(try clear hk);(try clear hi);(try clear ho0);obtain ⟨Ao19,co19,eo19⟩:=Kd.R_slice HO274.out;subst eo19))
        go_loopg [25] k1 (fun kq v25 w'=>∃ (x25_2 : Int),v25 = .int .i64 x25_2 ∧ Aside0 (impl_IsOrder.l1 kq (rd l0_1 x13_1) l0_1 (l0_1.length : Int) x13_1 t272 (t272.length : Int) x25_2 a0_0 l0_1 = some r) ∧ Aside0 (kq ≤ k1) ∧ Aside0 (Kd.R (Kd.int .i64) 3 w' w.heap.size (fun _=>True) (.slice Ao19 t272.length co19) t272) ∧ Aside0 (w'.heap[gb268]? = some (.cells #[.int .i64 a0_0,(.slice (some ad270) l0_1.length c0_1)] 28 (0,0))) ∧ Aside0 (Below w.heap.size w w'))
        case atStart=>exact ⟨(0),(by first|rfl|(simp;done)|(simp [*];done)),H',⟨Nat.le_refl _⟩,⟨by (with_reducible repeat (first|apply Kd.R_alloc|apply Kd.R_drewN|apply Kd.R_drew));exact HO274.out⟩,⟨bl_ BK268⟩,⟨bb_⟩⟩
        case round =>
         clear H';try clear c1
         try clear p2
         try clear q2
         try clear hx2
         try clear c3
         try clear c6
         try clear c8
         try clear c8b0
         try clear c9
         try clear c9b0
         try clear c10
         try clear c10b0
         try clear c12
         try clear c14
         try clear hcz13_0
         try clear hcz13_1
         try clear hcz16_0
         try clear hcz16_1
         try clear hcz5_0
         try clear hcz5_1
         try clear hcz7_0
         try clear hcz7_1
         try clear hfz13_0
         try clear hfz13_1
         try clear hfz16_0
         try clear hfz16_1
         try clear hfz5_0
         try clear hfz5_1
         try clear hfz7_0
         try clear hfz7_1
         try clear hx270_0
         try clear p2
         try clear p270
         try clear q270
         obtain ⟨x25_2,rfl,HA,HK2,HO_23,BK268,HB⟩:=hrel;cases gk with
         | zero=>exact absurd HA.out (by simp [impl_IsOrder.l1])
         | succ k2 =>
          have H:=HA.out;clear HA;simp only [impl_IsOrder.l1] at H
          by_cases c20 : x25_2 < (t272.length : Int)
          ·rw [if_pos c20] at H;have c20b0 : decide (x25_2 < (t272.length : Int)) = true:=decide_eq_true c20;clear c20;by_cases c21 : 0 ≤ x25_2
           ·rw [if_pos c21] at H;have c21b0 : decide (0 ≤ x25_2) = true:=decide_eq_true c21;clear c21;by_cases c22 : x25_2 < (t272.length : Int)
            ·rw [if_pos c22] at H;have c22b0 : decide (x25_2 < (t272.length : Int)) = true:=decide_eq_true c22;clear c22;by_cases c23 : 0 ≤ (rd t272 x25_2)
             ·rw [if_pos c23] at H;have c23b0 : decide (0 ≤ (rd t272 x25_2)) = true:=decide_eq_true c23;clear c23;by_cases c24 : (rd t272 x25_2) < (l0_1.length : Int)
              ·rw [if_pos c24] at H;have c24b0 : decide ((rd t272 x25_2) < (l0_1.length : Int)) = true:=decide_eq_true c24;clear c24;by_cases c25 : (Go.bits .andNot .i64 (rd l0_1 (rd t272 x25_2)) (rd l0_1 x13_1)) = 0
               ·rw [if_pos c25] at H;have c25b0 : ((Go.bits .andNot .i64 (rd l0_1 (rd t272 x25_2)) (rd l0_1 x13_1)) == 0) = true:=beq_iff_eq.mpr c25;have c25b1 : ((Go.bits .andNot .i64 (rd l0_1 (rd t272 x25_2)) (rd l0_1 x13_1)) != 0) = false:=bne_eq_false_iff_eq.mpr c25;clear c25;have H':=A_ H;clear H;have p275 : 0 ≤ (x25_2 : Int):=of_decide_eq_true (by first|(with_reducible assumption)|assumption);have q275 : x25_2 < (t272.length : Int):=of_decide_eq_true (by first|(with_reducible assumption)|assumption);obtain ⟨ad275,e275,hx275_0⟩:=Kd.at_int (Kd.R_reads' HO_23.out).2.2 x25_2 p275 q275;cases e275
                replace p275:=eq_true p275;replace q275:=eq_true q275;have hcz26_0 : wr.cell? ⟨gb268,0,none⟩ = some (.int .i64 a0_0):=blk_cell BK268.out 0;have hcz26_1 : wr.cell? ⟨gb268,1,none⟩ = some (.slice (some ad270) l0_1.length c0_1):=blk_cell BK268.out 1;have hfz26_0:=blk_frozen BK268.out 0;have hfz26_1:=blk_frozen BK268.out 1;have p276 : 0 ≤ ((rd t272 x25_2) : Int):=of_decide_eq_true (by first|(with_reducible assumption)|assumption);have q276 : (rd t272 x25_2) < (l0_1.length : Int):=of_decide_eq_true (by first|(with_reducible assumption)|assumption);obtain ⟨ad276,e276,hx276_0⟩:=Kd.at_int HR0_1.out (rd t272 x25_2) p276 q276;obtain rfl : ad270 = ad276:=(by injection e276);(try replace hx276_0:=(HB.out.cell (World.block_lt_of_cell? w _ hx276_0)).trans hx276_0);replace p276:=eq_true p276;replace q276:=eq_true q276;go_wp2
                go_roundg k2
                case measure=>have:=HK1.out;have:=HK2.out;omega
                case rel=>exact ⟨(wrap64 (x25_2 + 1)),(by first|rfl|(simp;done)|(simp [*];done)),H',⟨by have:=HK1.out;have:=HK2.out;omega⟩,⟨by (with_reducible repeat (first|apply Kd.R_alloc|apply Kd.R_drewN|apply Kd.R_drew));exact HO_23.out⟩,⟨bl_ BK268⟩,⟨bb_⟩⟩
               ·rw [if_neg c25] at H;have c25b0 : ((Go.bits .andNot .i64 (rd l0_1 (rd t272 x25_2)) (rd l0_1 x13_1)) == 0) = false:=beq_eq_false_iff_ne.mpr c25;have c25b1 : ((Go.bits .andNot .i64 (rd l0_1 (rd t272 x25_2)) (rd l0_1 x13_1)) != 0) = true:=bne_iff_ne.mpr c25;obtain rfl:=Option.some.inj H;have p275 : 0 ≤ (x25_2 : Int):=of_decide_eq_true (by first|(with_reducible assumption)|assumption);have q275 : x25_2 < (t272.length : Int):=of_decide_eq_true (by first|(with_reducible assumption)|assumption);obtain ⟨ad275,e275,hx275_0⟩:=Kd.at_int (Kd.R_reads' HO_23.out).2.2 x25_2 p275 q275;cases e275
                replace p275:=eq_true p275;replace q275:=eq_true q275;have hcz27_0 : wr.cell? ⟨gb268,0,none⟩ = some (.int .i64 a0_0):=blk_cell BK268.out 0;have hcz27_1 : wr.cell? ⟨gb268,1,none⟩ = some (.slice (some ad270) l0_1.length c0_1):=blk_cell BK268.out 1;have hfz27_0:=blk_frozen BK268.out 0;have hfz27_1:=blk_frozen BK268.out 1;have p276 : 0 ≤ ((rd t272 x25_2) : Int):=of_decide_eq_true (by first|(with_reducible assumption)|assumption);have q276 : (rd t272 x25_2) < (l0_1.length : Int):=of_decide_eq_true (by first|(with_reducible assumption)|assumption);obtain ⟨ad276,e276,hx276_0⟩:=Kd.at_int HR0_1.out (rd t272 x25_2) p276 q276;obtain rfl : ad270 = ad276:=(by injection e276);(try replace hx276_0:=(HB.out.cell (World.block_lt_of_cell? w _ hx276_0)).trans hx276_0);replace p276:=eq_true p276;replace q276:=eq_true q276;go_wp2
                go_ret
                exact ⟨by first|rfl|(simp [errW_none,errW_some] <;> rfl)|(simp [*,errW_none,errW_some] <;> rfl),bb_⟩
              ·rw [if_neg c24] at H;exact absurd H (by simp)
             ·rw [if_neg c23] at H;exact absurd H (by simp)
            ·rw [if_neg c22] at H;exact absurd H (by simp)
           ·rw [if_neg c21] at H;exact absurd H (by simp)
          ·rw [if_neg c20] at H;have c20b0 : decide (x25_2 < (t272.length : Int)) = false:=decide_eq_false c20;clear c20;have H':=A_ H;clear H;go_wp2
           go_roundg k2
           case measure=>have:=HK1.out;have:=HK2.out;omega
           case rel=>exact ⟨(wrap64 (x13_1 + 1)),(by first|rfl|(simp;done)|(simp [*];done)),H',⟨by have:=HK1.out;have:=HK2.out;omega⟩,⟨bl_ BK268⟩,⟨bb_⟩⟩
      ·rw [if_neg c10] at H;exact absurd H (by simp)
     ·rw [if_neg c9] at H;exact absurd H (by simp)
    ·rw [if_neg c8] at H;have c8b0 : decide (x13_1 < (l0_1.length : Int)) = false:=decide_eq_false c8;clear c8;obtain rfl:=Option.some.inj H;go_wp2
     go_ret
     exact ⟨by first|rfl|(simp [errW_none,errW_some] <;> rfl)|(simp [*,errW_none,errW_some] <;> rfl),bb_⟩
 ·replace c3:=Bool.eq_false_iff.mpr c3;subst c3;have H1 : (some false) = some r:=by rw [if_neg (show ¬ (false = true) by decide)] at H;exact H
  clear H;have H:=H1;clear H1;obtain rfl:=Option.some.inj H;go_enter Tryd.func61,Tryd.ntmps61
  go_wp2_with (first|((with_reducible refine gate_dst (N:=1) rfl ?_);refine box_event ?hg (N:=1) ?hd (cs:=#[.int .i64 a0_0,.slice A0_1 l0_1.length c0_1]) (t:=28) ?hr ?_;(case hd=>rfl);(case hg=>rfl);(case hr=>first|(go_simp;done)|(go_simp;rfl));intro gb268 hg w28 hbox hb;have BK268:=A_ (hbox);have GW268:=A_ ((by rw [hg];exact (below_size bb_) : w.heap.size ≤ gb268));have GE268:=A_ ((by rw [hg];exact (below_size bb_) : w.heap.size ≤ gb268));replace HB:=A_ (below_step bb_ hb);clear hb hbox hg;have hcz29_0 : w28.cell? ⟨gb268,0,none⟩ = some (.int .i64 a0_0):=blk_cell BK268.out 0;have hcz29_1 : w28.cell? ⟨gb268,1,none⟩ = some (.slice A0_1 l0_1.length c0_1):=blk_cell BK268.out 1;have hfz29_0:=blk_frozen BK268.out 0;have hfz29_1:=blk_frozen BK268.out 1)|((with_reducible refine gate_callee (f:=122) rfl ?_);refine goesL_ (some 8) rfl rfl Tryd.func122 (by kernel_rfl) rfl #[.agg #[.int .i64 a0_0,.slice A0_1 l0_1.length c0_1]] rfl au_ ?_;(with_reducible refine (impl_IsRelation.calls k a0_0 _ _ l0_1 false _ ?side1 ?side2 A2.out).mono ?_);(case side1=>exact cl_ (Kd.C_below HR0_1.out HB.out));(case side2=>exact HC0_1.out);rintro e w30 ⟨rfl,hb⟩;refine ⟨_,rfl,?_⟩;replace BK268:=bz BK268 hb;replace HB:=A_ (below_step bb_ hb);(try clear hb);(try clear hb2);(try clear hk);(try clear hi)))
  go_ret
  exact ⟨by first|rfl|(simp [errW_none,errW_some] <;> rfl)|(simp [*,errW_none,errW_some] <;> rfl),bb_⟩
mutual
def impl_Order_twoTwo.l0 : Nat → Int → Int → Int → List Int → Option (List Int)
 | 0,_,_,_,_=>none
 | k + 1,x8,x9,x278000,x278001=>if x9 < x8 then (impl_Order_twoTwo.l1 k x9 x8 x9 x278000 0 x278000 x278001) else (some ([] : List Int))
def impl_Order_twoTwo.l1 : Nat → Int → Int → Int → Int → Int → Int → List Int → Option (List Int)
 | 0,_,_,_,_,_,_,_=>none
 | k + 1,x3,x8,x9,x13,x14,x278000,x278001=>if x14 < x13 then (impl_Order_twoTwo.l2 k x3 x14 x8 x9 x13 x14 x278000 0 x278000 x278001) else (impl_Order_twoTwo.l0 k x8 (wrap64 (x9 + 1)) x278000 x278001)
def impl_Order_twoTwo.l2 : Nat → Int → Int → Int → Int → Int → Int → Int → Int → Int → List Int → Option (List Int)
 | 0,_,_,_,_,_,_,_,_,_,_=>none
 | k + 1,x3,x4,x8,x9,x13,x14,x18,x19,x278000,x278001=>if x19 < x18 then (impl_Order_twoTwo.l3 k x3 x4 x19 x8 x9 x13 x14 x18 x19 x278000 0 x278000 x278001) else (impl_Order_twoTwo.l1 k x3 x8 x9 x13 (wrap64 (x14 + 1)) x278000 x278001)
def impl_Order_twoTwo.l3 : Nat → Int → Int → Int → Int → Int → Int → Int → Int → Int → Int → Int → Int → List Int → Option (List Int)
 | 0,_,_,_,_,_,_,_,_,_,_,_,_,_=>none
 | k + 1,x3,x4,x5,x8,x9,x13,x14,x18,x19,x23,x24,x278000,x278001=>if x24 < x23 then ((impl_Order_better.f x278000 x278001 x3 x4).bind fun t278=>(if t278 = true then ((impl_Order_better.f x278000 x278001 x5 x24).bind fun t279=>(if t279 = true then ((impl_Order_better.f x278000 x278001 x5 x4).bind fun t280=>(if t280 = true then (impl_Order_twoTwo.l3 k x3 x4 x5 x8 x9 x13 x14 x18 x19 x23 (wrap64 (x24 + 1)) x278000 x278001) else ((impl_Order_better.f x278000 x278001 x3 x24).bind fun t281=>(if t281 = true then (impl_Order_twoTwo.l3 k x3 x4 x5 x8 x9 x13 x14 x18 x19 x23 (wrap64 (x24 + 1)) x278000 x278001) else (some (([x3,x4,x5,x24] : List Int))))))) else (impl_Order_twoTwo.l3 k x3 x4 x5 x8 x9 x13 x14 x18 x19 x23 (wrap64 (x24 + 1)) x278000 x278001))) else (impl_Order_twoTwo.l3 k x3 x4 x5 x8 x9 x13 x14 x18 x19 x23 (wrap64 (x24 + 1)) x278000 x278001))) else (impl_Order_twoTwo.l2 k x3 x4 x8 x9 x13 x14 x18 (wrap64 (x19 + 1)) x278000 x278001)
end
def impl_Order_twoTwo.f (k : Nat) (a0_0 : Int) (l0_1 : List Int) : Option (List Int) := impl_Order_twoTwo.l0 k a0_0 0 a0_0 l0_1
set_option maxHeartbeats 8000000 in
set_option maxRecDepth 100000 in
theorem impl_Order_twoTwo.calls (k : Nat) (a0_0 : Int) (A0_1 : Option Addr) (c0_1 : Nat) (l0_1 : List Int) (r : List Int) (w : World) (hr0_1 : Kd.C (Kd.int .i64) w A0_1 l0_1.length l0_1) (hc0_1 : l0_1.length ≤ c0_1) (h : impl_Order_twoTwo.f k a0_0 l0_1 = some r) :
 Calls Tryd.prog 141 #[.agg #[.int .i64 a0_0,.slice A0_1 l0_1.length c0_1]] w fun e w'=>∃ v0_ : Value,e = .returned (v0_) ∧ Kd.R (Kd.int .i64) 3 w' w.heap.size (fun _=>True) v0_ r ∧ Below w.heap.size w w' ∧ (r = [] → v0_ = .slice none 0 0):=by
 have hu28:=Tryd.underlying28;have HR0_1:=A_ hr0_1;have HC0_1:=A_ hc0_1;clear hr0_1 hc0_1;have HB:=A_ (Below.refl w.heap.size w);have H : (impl_Order_twoTwo.l0 k a0_0 0 a0_0 l0_1) = some r:=h;clear h;have H':=A_ H;clear H;go_enter Tryd.func141,Tryd.ntmps141
 go_wp2_with (first|((with_reducible refine gate_dst (N:=1) rfl ?_);refine box_event ?hg (N:=1) ?hd (cs:=#[.int .i64 a0_0,.slice A0_1 l0_1.length c0_1]) (t:=28) ?hr ?_;(case hd=>rfl);(case hg=>rfl);(case hr=>first|(go_simp;done)|(go_simp;rfl));intro gb277 hg w2 hbox hb;have BK277:=A_ (hbox);have GW277:=A_ ((by rw [hg];exact (below_size bb_) : w.heap.size ≤ gb277));have GE277:=A_ ((by rw [hg];exact (below_size bb_) : w.heap.size ≤ gb277));replace HB:=A_ (below_step bb_ hb);clear hb hbox hg;have hcz3_0 : w2.cell? ⟨gb277,0,none⟩ = some (.int .i64 a0_0):=blk_cell BK277.out 0;have hcz3_1 : w2.cell? ⟨gb277,1,none⟩ = some (.slice A0_1 l0_1.length c0_1):=blk_cell BK277.out 1;have hfz3_0:=blk_frozen BK277.out 0;have hfz3_1:=blk_frozen BK277.out 1))
 go_loopg [9] k (fun kq v9 w'=>∃ (x9_1 : Int),v9 = .int .i64 x9_1 ∧ Aside0 (impl_Order_twoTwo.l0 kq a0_0 x9_1 a0_0 l0_1 = some r) ∧ Aside0 (kq ≤ k) ∧ Aside0 (w'.heap[gb277]? = some (.cells #[.int .i64 a0_0,(.slice A0_1 l0_1.length c0_1)] 28 (0,0))) ∧ Aside0 (Below w.heap.size w w'))
 case atStart=>exact ⟨(0),(by first|rfl|(simp;done)|(simp [*];done)),H',⟨Nat.le_refl _⟩,⟨bl_ BK277⟩,⟨bb_⟩⟩
 case round =>
  clear H';try clear c1
  try clear p2
  try clear hcz3_0
  try clear hcz3_1
  try clear hfz3_0
  try clear hfz3_1
  obtain ⟨x9_1,rfl,HA,HK1,BK277,HB⟩:=hrel;cases gk with
  | zero => exact absurd HA.out (by simp [impl_Order_twoTwo.l0])
  | succ k1 =>
   have H:=HA.out;clear HA;simp only [impl_Order_twoTwo.l0] at H
   by_cases c4 : x9_1 < a0_0
   ·rw [if_pos c4] at H;have c4b0 : decide (x9_1 < a0_0) = true:=decide_eq_true c4;clear c4;have H':=A_ H;clear H;have hcz5_0 : wr.cell? ⟨gb277,0,none⟩ = some (.int .i64 a0_0):=blk_cell BK277.out 0;have hcz5_1 : wr.cell? ⟨gb277,1,none⟩ = some (.slice A0_1 l0_1.length c0_1):=blk_cell BK277.out 1;have hfz5_0:=blk_frozen BK277.out 0;have hfz5_1:=blk_frozen BK277.out 1;go_wp2
    go_loopg [14] k1 (fun kq v14 w'=>∃ (x14_2 : Int),v14 = .int .i64 x14_2 ∧ Aside0 (impl_Order_twoTwo.l1 kq x9_1 a0_0 x9_1 a0_0 x14_2 a0_0 l0_1 = some r) ∧ Aside0 (kq ≤ k1) ∧ Aside0 (w'.heap[gb277]? = some (.cells #[.int .i64 a0_0,(.slice A0_1 l0_1.length c0_1)] 28 (0,0))) ∧ Aside0 (Below w.heap.size w w'))
    case atStart=>exact ⟨(0),(by first|rfl|(simp;done)|(simp [*];done)),H',⟨Nat.le_refl _⟩,⟨bl_ BK277⟩,⟨bb_⟩⟩
    case round =>
     clear H';try clear c1
     try clear p2
     try clear c4
     try clear c4b0
     try clear hcz3_0
     try clear hcz3_1
     try clear hcz5_0
     try clear hcz5_1
     try clear hfz3_0
     try clear hfz3_1
     try clear hfz5_0
     try clear hfz5_1
     try clear p2
     obtain ⟨x14_2,rfl,HA,HK2,BK277,HB⟩:=hrel;cases gk with
     | zero=>exact absurd HA.out (by simp [impl_Order_twoTwo.l1])
     | succ k2 =>
      have H:=HA.out;clear HA;simp only [impl_Order_twoTwo.l1] at H
      by_cases c6 : x14_2 < a0_0
      ·rw [if_pos c6] at H;have c6b0 : decide (x14_2 < a0_0) = true:=decide_eq_true c6;clear c6;have H':=A_ H;clear H;have hcz7_0 : wr.cell? ⟨gb277,0,none⟩ = some (.int .i64 a0_0):=blk_cell BK277.out 0;have hcz7_1 : wr.cell? ⟨gb277,1,none⟩ = some (.slice A0_1 l0_1.length c0_1):=blk_cell BK277.out 1;have hfz7_0:=blk_frozen BK277.out 0;have hfz7_1:=blk_frozen BK277.out 1;go_wp2
       go_loopg [19] k2 (fun kq v19 w'=>∃ (x19_3 : Int),v19 = .int .i64 x19_3 ∧ Aside0 (impl_Order_twoTwo.l2 kq x9_1 x14_2 a0_0 x9_1 a0_0 x14_2 a0_0 x19_3 a0_0 l0_1 = some r) ∧ Aside0 (kq ≤ k2) ∧ Aside0 (w'.heap[gb277]? = some (.cells #[.int .i64 a0_0,(.slice A0_1 l0_1.length c0_1)] 28 (0,0))) ∧ Aside0 (Below w.heap.size w w'))
       case atStart=>exact ⟨(0),(by first|rfl|(simp;done)|(simp [*];done)),H',⟨Nat.le_refl _⟩,⟨bl_ BK277⟩,⟨bb_⟩⟩
       case round =>
        clear H';try clear c1
        try clear p2
        try clear c4
        try clear c4b0
        try clear c6
        try clear c6b0
        try clear hcz3_0
        try clear hcz3_1
        try clear hcz5_0
        try clear hcz5_1
        try clear hcz7_0
        try clear hcz7_1
        try clear hfz3_0
        try clear hfz3_1
        try clear hfz5_0
        try clear hfz5_1
        try clear hfz7_0
        try clear hfz7_1
        try clear p2
        obtain ⟨x19_3,rfl,HA,HK3,BK277,HB⟩:=hrel;cases gk with
        | zero=>exact absurd HA.out (by simp [impl_Order_twoTwo.l2])
        | succ k3 =>
         have H:=HA.out;clear HA;simp only [impl_Order_twoTwo.l2] at H
         by_cases c8 : x19_3 < a0_0
         ·rw [if_pos c8] at H;have c8b0 : decide (x19_3 < a0_0) = true:=decide_eq_true c8;clear c8;have H':=A_ H;clear H;have hcz9_0 : wr.cell? ⟨gb277,0,none⟩ = some (.int .i64 a0_0):=blk_cell BK277.out 0;have hcz9_1 : wr.cell? ⟨gb277,1,none⟩ = some (.slice A0_1 l0_1.length c0_1):=blk_cell BK277.out 1;have hfz9_0:=blk_frozen BK277.out 0;have hfz9_1:=blk_frozen BK277.out 1;go_wp2
          go_loopg [24] k3 (fun kq v24 w'=>∃ (x24_4 : Int),v24 = .int .i64 x24_4 ∧ Aside0 (impl_Order_twoTwo.l3 kq x9_1 x14_2 x19_3 a0_0 x9_1 a0_0 x14_2 a0_0 x19_3 a0_0 x24_4 a0_0 l0_1 = some r) ∧ Aside0 (kq ≤ k3) ∧ Aside0 (w'.heap[gb277]? = some (.cells #[.int .i64 a0_0,(.slice A0_1 l0_1.length c0_1)] 28 (0,0))) ∧ Aside0 (Below w.heap.size w w'))
          case atStart=>exact ⟨(0),(by first|rfl|(simp;done)|(simp [*];done)),H',⟨Nat.le_refl _⟩,⟨bl_ BK277⟩,⟨bb_⟩⟩
          case round =>
           clear H';try clear c1
           try clear p2
           try clear c4
           try clear c4b0
           try clear c6
           try clear c6b0
           try clear c8
           try clear c8b0
           try clear hcz3_0
           try clear hcz3_1
           try clear hcz5_0
           try clear hcz5_1
           try clear hcz7_0
           try clear hcz7_1
           try clear hcz9_0
           try clear hcz9_1
           try clear hfz3_0
           try clear hfz3_1
           try clear hfz5_0
           try clear hfz5_1
           try clear hfz7_0
           try clear hfz7_1
           try clear hfz9_0
           try clear hfz9_1
           try clear p2
           obtain ⟨x24_4,rfl,HA,HK4,BK277,HB⟩:=hrel;cases gk with
           | zero=>exact absurd HA.out (by simp [impl_Order_twoTwo.l3])
           | succ k4 =>
            have H:=HA.out;clear HA;simp only [impl_Order_twoTwo.l3] at H
            by_cases c10 : x24_4 < a0_0
            ·rw [if_pos c10] at H;have c10b0 : decide (x24_4 < a0_0) = true:=decide_eq_true c10;clear c10;replace H:=Option.bind_eq_some_iff.mp H;obtain ⟨t278,A110,H⟩:=H;replace H : (if t278 = true then ((impl_Order_better.f a0_0 l0_1 x19_3 x24_4).bind fun t279=>(if t279 = true then ((impl_Order_better.f a0_0 l0_1 x19_3 x14_2).bind fun t280=>(if t280 = true then (impl_Order_twoTwo.l3 k4 x9_1 x14_2 x19_3 a0_0 x9_1 a0_0 x14_2 a0_0 x19_3 a0_0 (wrap64 (x24_4 + 1)) a0_0 l0_1) else ((impl_Order_better.f a0_0 l0_1 x9_1 x24_4).bind fun t281=>(if t281 = true then (impl_Order_twoTwo.l3 k4 x9_1 x14_2 x19_3 a0_0 x9_1 a0_0 x14_2 a0_0 x19_3 a0_0 (wrap64 (x24_4 + 1)) a0_0 l0_1) else (some (([x9_1,x14_2,x19_3,x24_4] : List Int))))))) else (impl_Order_twoTwo.l3 k4 x9_1 x14_2 x19_3 a0_0 x9_1 a0_0 x14_2 a0_0 x19_3 a0_0 (wrap64 (x24_4 + 1)) a0_0 l0_1))) else (impl_Order_twoTwo.l3 k4 x9_1 x14_2 x19_3 a0_0 x9_1 a0_0 x14_2 a0_0 x19_3 a0_0 (wrap64 (x24_4 + 1)) a0_0 l0_1)) = some r:=H;have A11:=A_ A110;clear A110;by_cases c12 : t278 = true
             ·subst c12;have H1 : ((impl_Order_better.f a0_0 l0_1 x19_3 x24_4).bind fun t279=>(if t279 = true then ((impl_Order_better.f a0_0 l0_1 x19_3 x14_2).bind fun t280=>(if t280 = true then (impl_Order_twoTwo.l3 k4 x9_1 x14_2 x19_3 a0_0 x9_1 a0_0 x14_2 a0_0 x19_3 a0_0 (wrap64 (x24_4 + 1)) a0_0 l0_1) else ((impl_Order_better.f a0_0 l0_1 x9_1 x24_4).bind fun t281=>(if t281 = true then (impl_Order_twoTwo.l3 k4 x9_1 x14_2 x19_3 a0_0 x9_1 a0_0 x14_2 a0_0 x19_3 a0_0 (wrap64 (x24_4 + 1)) a0_0 l0_1) else (some (([x9_1,x14_2,x19_3,x24_4] : List Int))))))) else (impl_Order_twoTwo.l3 k4 x9_1 x14_2 x19_3 a0_0 x9_1 a0_0 x14_2 a0_0 x19_3 a0_0 (wrap64 (x24_4 + 1)) a0_0 l0_1))) = some r:=by rw [if_pos rfl] at H;exact H
              clear H;have H:=H1;clear H1;replace H:=Option.bind_eq_some_iff.mp H;obtain ⟨t279,A130,H⟩:=H;replace H : (if t279 = true then ((impl_Order_better.f a0_0 l0_1 x19_3 x14_2).bind fun t280=>(if t280 = true then (impl_Order_twoTwo.l3 k4 x9_1 x14_2 x19_3 a0_0 x9_1 a0_0 x14_2 a0_0 x19_3 a0_0 (wrap64 (x24_4 + 1)) a0_0 l0_1) else ((impl_Order_better.f a0_0 l0_1 x9_1 x24_4).bind fun t281=>(if t281 = true then (impl_Order_twoTwo.l3 k4 x9_1 x14_2 x19_3 a0_0 x9_1 a0_0 x14_2 a0_0 x19_3 a0_0 (wrap64 (x24_4 + 1)) a0_0 l0_1) else (some (([x9_1,x14_2,x19_3,x24_4] : List Int))))))) else (impl_Order_twoTwo.l3 k4 x9_1 x14_2 x19_3 a0_0 x9_1 a0_0 x14_2 a0_0 x19_3 a0_0 (wrap64 (x24_4 + 1)) a0_0 l0_1)) = some r:=H;have A13:=A_ A130;clear A130;by_cases c14 : t279 = true
              ·subst c14;have H1 : ((impl_Order_better.f a0_0 l0_1 x19_3 x14_2).bind fun t280=>(if t280 = true then (impl_Order_twoTwo.l3 k4 x9_1 x14_2 x19_3 a0_0 x9_1 a0_0 x14_2 a0_0 x19_3 a0_0 (wrap64 (x24_4 + 1)) a0_0 l0_1) else ((impl_Order_better.f a0_0 l0_1 x9_1 x24_4).bind fun t281=>(if t281 = true then (impl_Order_twoTwo.l3 k4 x9_1 x14_2 x19_3 a0_0 x9_1 a0_0 x14_2 a0_0 x19_3 a0_0 (wrap64 (x24_4 + 1)) a0_0 l0_1) else (some (([x9_1,x14_2,x19_3,x24_4] : List Int))))))) = some r:=by rw [if_pos rfl] at H;exact H
               clear H;have H:=H1;clear H1;replace H:=Option.bind_eq_some_iff.mp H;obtain ⟨t280,A150,H⟩:=H;replace H : (if t280 = true then (impl_Order_twoTwo.l3 k4 x9_1 x14_2 x19_3 a0_0 x9_1 a0_0 x14_2 a0_0 x19_3 a0_0 (wrap64 (x24_4 + 1)) a0_0 l0_1) else ((impl_Order_better.f a0_0 l0_1 x9_1 x24_4).bind fun t281=>(if t281 = true then (impl_Order_twoTwo.l3 k4 x9_1 x14_2 x19_3 a0_0 x9_1 a0_0 x14_2 a0_0 x19_3 a0_0 (wrap64 (x24_4 + 1)) a0_0 l0_1) else (some (([x9_1,x14_2,x19_3,x24_4] : List Int)))))) = some r:=H;have A15:=A_ A150;clear A150;by_cases c16 : t280 = true
               ·subst c16;have H1 : (impl_Order_twoTwo.l3 k4 x9_1 x14_2 x19_3 a0_0 x9_1 a0_0 x14_2 a0_0 x19_3 a0_0 (wrap64 (x24_4 + 1)) a0_0 l0_1) = some r:=by rw [if_pos rfl] at H;exact H
                clear H;have H:=H1;clear H1;have H':=A_ H;clear H;have hcz17_0 : wr.cell? ⟨gb277,0,none⟩ = some (.int .i64 a0_0):=blk_cell BK277.out 0;have hcz17_1 : wr.cell? ⟨gb277,1,none⟩ = some (.slice A0_1 l0_1.length c0_1):=blk_cell BK277.out 1;have hfz17_0:=blk_frozen BK277.out 0;have hfz17_1:=blk_frozen BK277.out 1;go_wp2_with (first|((with_reducible refine gate_callee (f:=146) rfl ?_);refine goesL_ (some 30) rfl rfl Tryd.func146 (by kernel_rfl) rfl #[.agg #[.int .i64 a0_0,.slice A0_1 l0_1.length c0_1],.int .i64 x9_1,.int .i64 x14_2] rfl au_ ?_;(with_reducible refine (impl_Order_better.calls a0_0 _ _ l0_1 x9_1 x14_2 true _ ?side1 ?side2 A11.out).mono ?_);(case side1=>exact cl_ (Kd.C_below HR0_1.out HB.out));(case side2=>exact HC0_1.out);rintro e w18 ⟨rfl,hb⟩;refine ⟨_,rfl,?_⟩;replace BK277:=bz BK277 hb;replace HB:=A_ (below_step bb_ hb);(try clear hb);(try clear hb2);(try clear hk);(try clear hi);have hcz19_0 : w18.cell? ⟨gb277,0,none⟩ = some (.int .i64 a0_0):=blk_cell BK277.out 0;have hcz19_1 : w18.cell? ⟨gb277,1,none⟩ = some (.slice A0_1 l0_1.length c0_1):=blk_cell BK277.out 1;have hfz19_0:=blk_frozen BK277.out 0;have hfz19_1:=blk_frozen BK277.out 1)|(go_at_call 146;(with_reducible refine (impl_Order_better.calls a0_0 _ _ l0_1 x19_3 x24_4 true _ ?side1 ?side2 A13.out).mono ?_);(case side1=>exact cl_ (Kd.C_below HR0_1.out HB.out));(case side2=>exact HC0_1.out);rintro e w20 ⟨rfl,hb⟩;replace BK277:=bz BK277 hb;replace HB:=A_ (below_step bb_ hb);(try clear hb);(try clear hb2);(try clear hk);(try clear hi);have hcz21_0 : w20.cell? ⟨gb277,0,none⟩ = some (.int .i64 a0_0):=blk_cell BK277.out 0;have hcz21_1 : w20.cell? ⟨gb277,1,none⟩ = some (.slice A0_1 l0_1.length c0_1):=blk_cell BK277.out 1;have hfz21_0:=blk_frozen BK277.out 0;have hfz21_1:=blk_frozen BK277.out 1)|(go_at_call 146;(with_reducible refine (impl_Order_better.calls a0_0 _ _ l0_1 x19_3 x14_2 true _ ?side1 ?side2 A15.out).mono ?_);(case side1=>exact cl_ (Kd.C_below HR0_1.out HB.out));(case side2=>exact HC0_1.out);rintro e w22 ⟨rfl,hb⟩;replace BK277:=bz BK277 hb;replace HB:=A_ (below_step bb_ hb);(try clear hb);(try clear hb2);(try clear hk);(try clear hi)))
                go_roundg k4
                case measure=>have:=HK1.out;have:=HK2.out;have:=HK3.out;have:=HK4.out;omega
                case rel=>exact ⟨(wrap64 (x24_4 + 1)),(by first|rfl|(simp;done)|(simp [*];done)),H',⟨by have:=HK1.out;have:=HK2.out;have:=HK3.out;have:=HK4.out;omega⟩,⟨bl_ BK277⟩,⟨bb_⟩⟩
               ·replace c16:=Bool.eq_false_iff.mpr c16;subst c16;have H1 : ((impl_Order_better.f a0_0 l0_1 x9_1 x24_4).bind fun t281=>(if t281 = true then (impl_Order_twoTwo.l3 k4 x9_1 x14_2 x19_3 a0_0 x9_1 a0_0 x14_2 a0_0 x19_3 a0_0 (wrap64 (x24_4 + 1)) a0_0 l0_1) else (some (([x9_1,x14_2,x19_3,x24_4] : List Int))))) = some r:=by rw [if_neg (show ¬ (false = true) by decide)] at H;exact H
                clear H;have H:=H1;clear H1;replace H:=Option.bind_eq_some_iff.mp H;obtain ⟨t281,A230,H⟩:=H;replace H : (if t281 = true then (impl_Order_twoTwo.l3 k4 x9_1 x14_2 x19_3 a0_0 x9_1 a0_0 x14_2 a0_0 x19_3 a0_0 (wrap64 (x24_4 + 1)) a0_0 l0_1) else (some (([x9_1,x14_2,x19_3,x24_4] : List Int)))) = some r:=H;have A23:=A_ A230;clear A230;by_cases c24 : t281 = true
                ·subst c24;have H1 : (impl_Order_twoTwo.l3 k4 x9_1 x14_2 x19_3 a0_0 x9_1 a0_0 x14_2 a0_0 x19_3 a0_0 (wrap64 (x24_4 + 1)) a0_0 l0_1) = some r:=by rw [if_pos rfl] at H;exact H
                 clear H;have H:=H1;clear H1;have H':=A_ H;clear H;have hcz25_0 : wr.cell? ⟨gb277,0,none⟩ = some (.int .i64 a0_0):=blk_cell BK277.out 0;have hcz25_1 : wr.cell? ⟨gb277,1,none⟩ = some (.slice A0_1 l0_1.length c0_1):=blk_cell BK277.out 1;have hfz25_0:=blk_frozen BK277.out 0;have hfz25_1:=blk_frozen BK277.out 1;go_wp2_with (first|((with_reducible refine gate_callee (f:=146) rfl ?_);refine goesL_ (some 30) rfl rfl Tryd.func146 (by kernel_rfl) rfl #[.agg #[.int .i64 a0_0,.slice A0_1 l0_1.length c0_1],.int .i64 x9_1,.int .i64 x14_2] rfl au_ ?_;(with_reducible refine (impl_Order_better.calls a0_0 _ _ l0_1 x9_1 x14_2 true _ ?side1 ?side2 A11.out).mono ?_);(case side1=>exact cl_ (Kd.C_below HR0_1.out HB.out));(case side2=>exact HC0_1.out);rintro e w26 ⟨rfl,hb⟩;refine ⟨_,rfl,?_⟩;replace BK277:=bz BK277 hb;replace HB:=A_ (below_step bb_ hb);(try clear hb);(try clear hb2);(try clear hk);(try clear hi);have hcz27_0 : w26.cell? ⟨gb277,0,none⟩ = some (.int .i64 a0_0):=blk_cell BK277.out 0;have hcz27_1 : w26.cell? ⟨gb277,1,none⟩ = some (.slice A0_1 l0_1.length c0_1):=blk_cell BK277.out 1;have hfz27_0:=blk_frozen BK277.out 0;have hfz27_1:=blk_frozen BK277.out 1)|(go_at_call 146;(with_reducible refine (impl_Order_better.calls a0_0 _ _ l0_1 x19_3 x24_4 true _ ?side1 ?side2 A13.out).mono ?_);(case side1=>exact cl_ (Kd.C_below HR0_1.out HB.out));(case side2=>exact HC0_1.out);rintro e w28 ⟨rfl,hb⟩;replace BK277:=bz BK277 hb;replace HB:=A_ (below_step bb_ hb);(try clear hb);(try clear hb2);(try clear hk);(try clear hi);have hcz29_0 : w28.cell? ⟨gb277,0,none⟩ = some (.int .i64 a0_0):=blk_cell BK277.out 0;have hcz29_1 : w28.cell? ⟨gb277,1,none⟩ = some (.slice A0_1 l0_1.length c0_1):=blk_cell BK277.out 1;have hfz29_0:=blk_frozen BK277.out 0;have hfz29_1:=blk_frozen BK277.out 1)|(go_at_call 146;(with_reducible refine (impl_Order_better.calls a0_0 _ _ l0_1 x19_3 x14_2 false _ ?side1 ?side2 A15.out).mono ?_);(case side1=>exact cl_ (Kd.C_below HR0_1.out HB.out));(case side2=>exact HC0_1.out);rintro e w30 ⟨rfl,hb⟩;replace BK277:=bz BK277 hb;replace HB:=A_ (below_step bb_ hb);(try clear hb);(try clear hb2);(try clear hk);(try clear hi);have hcz31_0 : w30.cell? ⟨gb277,0,none⟩ = some (.int .i64 a0_0):=blk_cell BK277.out 0;have hcz31_1 : w30.cell? ⟨gb277,1,none⟩ = some (.slice A0_1 l0_1.length c0_1):=blk_cell BK277.out 1;have hfz31_0:=blk_frozen BK277.out 0;have hfz31_1:=blk_frozen BK277.out 1)|(go_at_call 146;(with_reducible refine (impl_Order_better.calls a0_0 _ _ l0_1 x9_1 x24_4 true _ ?side1 ?side2 A23.out).mono ?_);(case side1=>exact cl_ (Kd.C_below HR0_1.out HB.out));(case side2=>exact HC0_1.out);rintro e w32 ⟨rfl,hb⟩;replace BK277:=bz BK277 hb;replace HB:=A_ (below_step bb_ hb);(try clear hb);(try clear hb2);(try clear hk);(try clear hi)))
                 go_roundg k4
                 case measure=>have:=HK1.out;have:=HK2.out;have:=HK3.out;have:=HK4.out;omega
                 case rel=>exact ⟨(wrap64 (x24_4 + 1)),(by first|rfl|(simp;done)|(simp [*];done)),H',⟨by have:=HK1.out;have:=HK2.out;have:=HK3.out;have:=HK4.out;omega⟩,⟨bl_ BK277⟩,⟨bb_⟩⟩
                ·replace c24:=Bool.eq_false_iff.mpr c24;subst c24;have H1 : (some (([x9_1,x14_2,x19_3,x24_4] : List Int))) = some r:=by rw [if_neg (show ¬ (false = true) by decide)] at H;exact H
                 clear H;have H:=H1;clear H1;obtain ⟨y282,hy282⟩ : ∃ y_ : List Int,y_ = (([x9_1,x14_2,x19_3,x24_4] : List Int)):=⟨_,rfl⟩;replace H : (some y282) = some r:=by first|(rw [hy282];with_reducible exact H)|(have H2_:=(Option.bind_some _ _).symm.trans H;rw [hy282];with_reducible exact H2_)|(have H2_:=(Option.bind_some _ _).symm.trans H;with_reducible exact H2_)|with_reducible exact H|(rw [hy282];exact H)|exact H
                 have Ny282:=A_ hy282;clear hy282;obtain rfl:=Option.some.inj H;have hcz33_0 : wr.cell? ⟨gb277,0,none⟩ = some (.int .i64 a0_0):=blk_cell BK277.out 0;have hcz33_1 : wr.cell? ⟨gb277,1,none⟩ = some (.slice A0_1 l0_1.length c0_1):=blk_cell BK277.out 1;have hfz33_0:=blk_frozen BK277.out 0;have hfz33_1:=blk_frozen BK277.out 1;go_wp2_with (first|((with_reducible refine gate_callee (f:=146) rfl ?_);refine goesL_ (some 30) rfl rfl Tryd.func146 (by kernel_rfl) rfl #[.agg #[.int .i64 a0_0,.slice A0_1 l0_1.length c0_1],.int .i64 x9_1,.int .i64 x14_2] rfl au_ ?_;(with_reducible refine (impl_Order_better.calls a0_0 _ _ l0_1 x9_1 x14_2 true _ ?side1 ?side2 A11.out).mono ?_);(case side1=>exact cl_ (Kd.C_below HR0_1.out HB.out));(case side2=>exact HC0_1.out);rintro e w34 ⟨rfl,hb⟩;refine ⟨_,rfl,?_⟩;replace BK277:=bz BK277 hb;replace HB:=A_ (below_step bb_ hb);(try clear hb);(try clear hb2);(try clear hk);(try clear hi);have hcz35_0 : w34.cell? ⟨gb277,0,none⟩ = some (.int .i64 a0_0):=blk_cell BK277.out 0;have hcz35_1 : w34.cell? ⟨gb277,1,none⟩ = some (.slice A0_1 l0_1.length c0_1):=blk_cell BK277.out 1;have hfz35_0:=blk_frozen BK277.out 0;have hfz35_1:=blk_frozen BK277.out 1)|(go_at_call 146;(with_reducible refine (impl_Order_better.calls a0_0 _ _ l0_1 x19_3 x24_4 true _ ?side1 ?side2 A13.out).mono ?_);(case side1=>exact cl_ (Kd.C_below HR0_1.out HB.out));(case side2=>exact HC0_1.out);rintro e w36 ⟨rfl,hb⟩;replace BK277:=bz BK277 hb;replace HB:=A_ (below_step bb_ hb);(try clear hb);(try clear hb2);(try clear hk);(try clear hi);have hcz37_0 : w36.cell? ⟨gb277,0,none⟩ = some (.int .i64 a0_0):=blk_cell BK277.out 0;have hcz37_1 : w36.cell? ⟨gb277,1,none⟩ = some (.slice A0_1 l0_1.length c0_1):=blk_cell BK277.out 1;have hfz37_0:=blk_frozen BK277.out 0;have hfz37_1:=blk_frozen BK277.out 1)|(go_at_call 146;(with_reducible refine (impl_Order_better.calls a0_0 _ _ l0_1 x19_3 x14_2 false _ ?side1 ?side2 A15.out).mono ?_);(case side1=>exact cl_ (Kd.C_below HR0_1.out HB.out));(case side2=>exact HC0_1.out);rintro e w38 ⟨rfl,hb⟩;replace BK277:=bz BK277 hb;replace HB:=A_ (below_step bb_ hb);(try clear hb);(try clear hb2);(try clear hk);(try clear hi);have hcz39_0 : w38.cell? ⟨gb277,0,none⟩ = some (.int .i64 a0_0):=blk_cell BK277.out 0;have hcz39_1 : w38.cell? ⟨gb277,1,none⟩ = some (.slice A0_1 l0_1.length c0_1):=blk_cell BK277.out 1;have hfz39_0:=blk_frozen BK277.out 0;have hfz39_1:=blk_frozen BK277.out 1)|(go_at_call 146;(with_reducible refine (impl_Order_better.calls a0_0 _ _ l0_1 x9_1 x24_4 false _ ?side1 ?side2 A23.out).mono ?_);(case side1=>exact cl_ (Kd.C_below HR0_1.out HB.out));(case side2=>exact HC0_1.out);rintro e w40 ⟨rfl,hb⟩;replace BK277:=bz BK277 hb;replace HB:=A_ (below_step bb_ hb);(try clear hb);(try clear hb2);(try clear hk);(try clear hi))|((with_reducible refine gate_dst (N:=55) rfl ?_);refine Kd.R_lit (Kd.int .i64) _ 3 ?hg (N:=55) ?hd (xs:=([x9_1,x14_2,x19_3,x24_4] : List Int)) (inner:=[.int .i64 x9_1,.int .i64 x14_2,.int .i64 x19_3,.int .i64 x24_4]) (ok:=fun _=>True) (okp:=fun _=>True) ?hr ?hp (fun _ hk=>hk) trivial (Below.refl _ _) (Nat.le_refl _) (by simp) ?_;(case hd=>rfl);(case hg=>rfl);(case hr=>first|(go_simp;done)|(go_simp;rfl));(case hp=>exact (Reps.one (show Kd.M (Kd.int .i64) _ _ _ x9_1 [.int .i64 x9_1] from rfl) (Reps.one (show Kd.M (Kd.int .i64) _ _ _ x14_2 [.int .i64 x14_2] from rfl) (Reps.one (show Kd.M (Kd.int .i64) _ _ _ x19_3 [.int .i64 x19_3] from rfl) (Reps.one (show Kd.M (Kd.int .i64) _ _ _ x24_4 [.int .i64 x24_4] from rfl) (Reps.none _ _))))));intro v283 w41 ho42 hb hg_ hnew_;clear hg_ hnew_;(first|rw [← Ny282.out] at ho42|(simp only [Int.reduceToNat] at ho42;rw [← Ny282.out] at ho42));have HO284:=A_ (Kd.R_lower ho42 (below_size bb_));replace BK277:=bz BK277 hb;replace HB:=A_ (below_step bb_ hb);clear hb ho42))
                 go_ret
                 exact ⟨_,by first|rfl|(simp [errW_none,errW_some] <;> rfl)|(simp [*,errW_none,errW_some] <;> rfl),by (with_reducible repeat (first|apply Kd.R_alloc|apply Kd.R_drewN|apply Kd.R_drew));exact HO284.out,bb_,by first|trivial|rfl|(intro he_;first|rfl|(rw [Ny282.out] at he_;cases he_)|(cases he_))⟩
              ·replace c14:=Bool.eq_false_iff.mpr c14;subst c14;have H1 : (impl_Order_twoTwo.l3 k4 x9_1 x14_2 x19_3 a0_0 x9_1 a0_0 x14_2 a0_0 x19_3 a0_0 (wrap64 (x24_4 + 1)) a0_0 l0_1) = some r:=by rw [if_neg (show ¬ (false = true) by decide)] at H;exact H
               clear H;have H:=H1;clear H1;have H':=A_ H;clear H;have hcz43_0 : wr.cell? ⟨gb277,0,none⟩ = some (.int .i64 a0_0):=blk_cell BK277.out 0;have hcz43_1 : wr.cell? ⟨gb277,1,none⟩ = some (.slice A0_1 l0_1.length c0_1):=blk_cell BK277.out 1;have hfz43_0:=blk_frozen BK277.out 0;have hfz43_1:=blk_frozen BK277.out 1;go_wp2_with (first|((with_reducible refine gate_callee (f:=146) rfl ?_);refine goesL_ (some 30) rfl rfl Tryd.func146 (by kernel_rfl) rfl #[.agg #[.int .i64 a0_0,.slice A0_1 l0_1.length c0_1],.int .i64 x9_1,.int .i64 x14_2] rfl au_ ?_;(with_reducible refine (impl_Order_better.calls a0_0 _ _ l0_1 x9_1 x14_2 true _ ?side1 ?side2 A11.out).mono ?_);(case side1=>exact cl_ (Kd.C_below HR0_1.out HB.out));(case side2=>exact HC0_1.out);rintro e w44 ⟨rfl,hb⟩;refine ⟨_,rfl,?_⟩;replace BK277:=bz BK277 hb;replace HB:=A_ (below_step bb_ hb);(try clear hb);(try clear hb2);(try clear hk);(try clear hi);have hcz45_0 : w44.cell? ⟨gb277,0,none⟩ = some (.int .i64 a0_0):=blk_cell BK277.out 0;have hcz45_1 : w44.cell? ⟨gb277,1,none⟩ = some (.slice A0_1 l0_1.length c0_1):=blk_cell BK277.out 1;have hfz45_0:=blk_frozen BK277.out 0;have hfz45_1:=blk_frozen BK277.out 1)|(go_at_call 146;(with_reducible refine (impl_Order_better.calls a0_0 _ _ l0_1 x19_3 x24_4 false _ ?side1 ?side2 A13.out).mono ?_);(case side1=>exact cl_ (Kd.C_below HR0_1.out HB.out));(case side2=>exact HC0_1.out);rintro e w46 ⟨rfl,hb⟩;replace BK277:=bz BK277 hb;replace HB:=A_ (below_step bb_ hb);(try clear hb);(try clear hb2);(try clear hk);(try clear hi)))
               go_roundg k4
               case measure=>have:=HK1.out;have:=HK2.out;have:=HK3.out;have:=HK4.out;omega
               case rel=>exact ⟨(wrap64 (x24_4 + 1)),(by first|rfl|(simp;done)|(simp [*];done)),H',⟨by have:=HK1.out;have:=HK2.out;have:=HK3.out;have:=HK4.out;omega⟩,⟨bl_ BK277⟩,⟨bb_⟩⟩
             ·replace c12:=Bool.eq_false_iff.mpr c12;subst c12;have H1 : (impl_Order_twoTwo.l3 k4 x9_1 x14_2 x19_3 a0_0 x9_1 a0_0 x14_2 a0_0 x19_3 a0_0 (wrap64 (x24_4 + 1)) a0_0 l0_1) = some r:=by rw [if_neg (show ¬ (false = true) by decide)] at H;exact H
              clear H;have H:=H1;clear H1;have H':=A_ H;clear H;have hcz47_0 : wr.cell? ⟨gb277,0,none⟩ = some (.int .i64 a0_0):=blk_cell BK277.out 0;have hcz47_1 : wr.cell? ⟨gb277,1,none⟩ = some (.slice A0_1 l0_1.length c0_1):=blk_cell BK277.out 1;have hfz47_0:=blk_frozen BK277.out 0;have hfz47_1:=blk_frozen BK277.out 1;go_wp2_with (first|((with_reducible refine gate_callee (f:=146) rfl ?_);refine goesL_ (some 30) rfl rfl Tryd.func146 (by kernel_rfl) rfl #[.agg #[.int .i64 a0_0,.slice A0_1 l0_1.length c0_1],.int .i64 x9_1,.int .i64 x14_2] rfl au_ ?_;(with_reducible refine (impl_Order_better.calls a0_0 _ _ l0_1 x9_1 x14_2 false _ ?side1 ?side2 A11.out).mono ?_);(case side1=>exact cl_ (Kd.C_below HR0_1.out HB.out));(case side2=>exact HC0_1.out);rintro e w48 ⟨rfl,hb⟩;refine ⟨_,rfl,?_⟩;replace BK277:=bz BK277 hb;replace HB:=A_ (below_step bb_ hb);(try clear hb);(try clear hb2);(try clear hk);(try clear hi)))
              go_roundg k4
              case measure=>have:=HK1.out;have:=HK2.out;have:=HK3.out;have:=HK4.out;omega
              case rel=>exact ⟨(wrap64 (x24_4 + 1)),(by first|rfl|(simp;done)|(simp [*];done)),H',⟨by have:=HK1.out;have:=HK2.out;have:=HK3.out;have:=HK4.out;omega⟩,⟨bl_ BK277⟩,⟨bb_⟩⟩
            ·rw [if_neg c10] at H;have c10b0 : decide (x24_4 < a0_0) = false:=decide_eq_false c10;clear c10;have H':=A_ H;clear H;go_wp2
             go_roundg k4
             case measure=>have:=HK1.out;have:=HK2.out;have:=HK3.out;have:=HK4.out;omega
             case rel=>exact ⟨(wrap64 (x19_3 + 1)),(by first|rfl|(simp;done)|(simp [*];done)),H',⟨by have:=HK1.out;have:=HK2.out;have:=HK3.out;have:=HK4.out;omega⟩,⟨bl_ BK277⟩,⟨bb_⟩⟩
         ·rw [if_neg c8] at H;have c8b0 : decide (x19_3 < a0_0) = false:=decide_eq_false c8;clear c8;have H':=A_ H;clear H;go_wp2
          go_roundg k3
          case measure=>have:=HK1.out;have:=HK2.out;have:=HK3.out;omega
          case rel=>exact ⟨(wrap64 (x14_2 + 1)),(by first|rfl|(simp;done)|(simp [*];done)),H',⟨by have:=HK1.out;have:=HK2.out;have:=HK3.out;omega⟩,⟨bl_ BK277⟩,⟨bb_⟩⟩
      ·rw [if_neg c6] at H;have c6b0 : decide (x14_2 < a0_0) = false:=decide_eq_false c6;clear c6;have H':=A_ H;clear H;go_wp2
       go_roundg k2
       case measure=>have:=HK1.out;have:=HK2.out;omega
       case rel=>exact ⟨(wrap64 (x9_1 + 1)),(by first|rfl|(simp;done)|(simp [*];done)),H',⟨by have:=HK1.out;have:=HK2.out;omega⟩,⟨bl_ BK277⟩,⟨bb_⟩⟩
   ·rw [if_neg c4] at H;have c4b0 : decide (x9_1 < a0_0) = false:=decide_eq_false c4;clear c4;obtain rfl:=Option.some.inj H;go_wp2
    go_ret
    exact ⟨_,by first|rfl|(simp [errW_none,errW_some] <;> rfl)|(simp [*,errW_none,errW_some] <;> rfl),by first|exact Kd.R_nil _ _ _ _ _|exact Kd.N_nil _ _ _ _ _|exact Kd.V_nil _ _ _ _ _|exact Kd.Q_nil _ _ _ _ _|exact Kd.S_nil _ _ _ _ _,bb_,by first|trivial|rfl|(intro he_;first|rfl|(rw [Ny282.out] at he_;cases he_)|(cases he_))⟩
theorem impl_isInterval.nilAt {P : Program} (w : World) (d : Nat) (t e : TypeId) (a : Option Addr) (l c : Nat) (h : P.underlying t = some (.slice e)) : (Op.equalIn (d + 1) t (.slice a l c) (.slice none 0 0)).run P w = .ok a.isNone w:=by
 cases a <;> simp [Op.equalIn,run_underlying h]
theorem impl_isInterval.nilOf {P : Program} (w : World) (t e : TypeId) (a : Option Addr) (l c : Nat) (h : P.underlying t = some (.slice e)) : (binOp .eql t (.slice a l c) (.slice none 0 0)).run P w = .ok (.bool a.isNone) w:=by
 have h1 : (Op.equal t (.slice a l c) (.slice none 0 0)).run P w = .ok a.isNone w:=impl_isInterval.nilAt w 9999 t e a l c h;simp [binOp,h1]
theorem impl_isInterval.nilNo {P : Program} (w : World) (t e : TypeId) (a : Option Addr) (l c : Nat) (h : P.underlying t = some (.slice e)) : (binOp .neq t (.slice a l c) (.slice none 0 0)).run P w = .ok (.bool (!a.isNone)) w:=by
 have h1 : (Op.equal t (.slice a l c) (.slice none 0 0)).run P w = .ok a.isNone w:=impl_isInterval.nilAt w 9999 t e a l c h;simp [binOp,h1]
theorem impl_isInterval.nilE (w : World) (a : Option Addr) (l c : Nat) : (binOp .eql 22 (.slice a l c) (.slice none 0 0)).run Tryd.prog w = .ok (.bool a.isNone) w:=impl_isInterval.nilOf w _ _ a l c Tryd.underlying22
theorem impl_isInterval.nilN (w : World) (a : Option Addr) (l c : Nat) : (binOp .neq 22 (.slice a l c) (.slice none 0 0)).run Tryd.prog w = .ok (.bool (!a.isNone)) w:=impl_isInterval.nilNo w _ _ a l c Tryd.underlying22
theorem impl_isInterval.nilFact {w : World} {base e : Nat} {ok : Nat → Prop} {A : Option Addr} {n c : Nat} {xs : List Int} (h : Kd.R (Kd.int .i64) e w base ok (.slice A n c) xs) (hz : xs = [] → (.slice A n c : Value) = .slice none 0 0) : A.isNone = (xs == ([] : List Int)):=by
 by_cases hx : xs = []
 ·have:=hz hx;injection this with h1;rw [h1,hx];rfl
 ·obtain ⟨hn,_,hC⟩:=Kd.R_reads' h;have hpos : 0 < xs.length:=List.length_pos_iff.2 hx;obtain ⟨ad,e1,_⟩:=hC.2.2 hpos;rw [e1];cases xs with
  | nil => exact absurd rfl hx
  | cons x l => rfl
attribute [local go_sem] impl_isInterval.nilE impl_isInterval.nilN
def impl_isInterval.f (k : Nat) (a0_0 : Int) (l0_1 : List Int) : Option (Bool) := (impl_IsOrder.f k a0_0 l0_1).bind fun t286 => (if t286 = true then ((impl_Order_twoTwo.f k a0_0 l0_1).bind fun t287 => (some (t287 == ([] : List Int)))) else (some false))
set_option maxHeartbeats 8000000 in
set_option maxRecDepth 100000 in
theorem impl_isInterval.calls (k : Nat) (a0_0 : Int) (A0_1 : Option Addr) (c0_1 : Nat) (l0_1 : List Int) (r : Bool) (w : World) (hr0_1 : Kd.C (Kd.int .i64) w A0_1 l0_1.length l0_1) (hc0_1 : l0_1.length ≤ c0_1) (hT : TabOK w) (h : impl_isInterval.f k a0_0 l0_1 = some r) :
 Calls Tryd.prog 134 #[.agg #[.int .i64 a0_0,.slice A0_1 l0_1.length c0_1]] w fun e w'=>e = .returned (.bool r) ∧ Below w.heap.size w w':=by
 have hu28:=Tryd.underlying28;have HT:=A_ hT;clear hT;have HR0_1:=A_ hr0_1;have HC0_1:=A_ hc0_1;clear hr0_1 hc0_1;have HB:=A_ (Below.refl w.heap.size w);have H : ((impl_IsOrder.f k a0_0 l0_1).bind fun t286=>(if t286 = true then ((impl_Order_twoTwo.f k a0_0 l0_1).bind fun t287=>(some (t287 == ([] : List Int)))) else (some false))) = some r:=h;clear h;replace H:=Option.bind_eq_some_iff.mp H;obtain ⟨t286,A20,H⟩:=H;replace H : (if t286 = true then ((impl_Order_twoTwo.f k a0_0 l0_1).bind fun t287=>(some (t287 == ([] : List Int)))) else (some false)) = some r:=H;have A2:=A_ A20;clear A20;by_cases c3 : t286 = true
 ·subst c3;have H1 : ((impl_Order_twoTwo.f k a0_0 l0_1).bind fun t287=>(some (t287 == ([] : List Int)))) = some r:=by rw [if_pos rfl] at H;exact H
  clear H;have H:=H1;clear H1;replace H:=Option.bind_eq_some_iff.mp H;obtain ⟨t287,A40,H⟩:=H;replace H : (some (t287 == ([] : List Int))) = some r:=H;have A4:=A_ A40;clear A40;obtain rfl:=Option.some.inj H;go_enter Tryd.func134,Tryd.ntmps134
  go_wp2_with (first|((with_reducible refine gate_dst (N:=1) rfl ?_);refine box_event ?hg (N:=1) ?hd (cs:=#[.int .i64 a0_0,.slice A0_1 l0_1.length c0_1]) (t:=28) ?hr ?_;(case hd=>rfl);(case hg=>rfl);(case hr=>first|(go_simp;done)|(go_simp;rfl));intro gb285 hg w5 hbox hb;have BK285:=A_ (hbox);have GW285:=A_ ((by rw [hg];exact (below_size bb_) : w.heap.size ≤ gb285));have GE285:=A_ ((by rw [hg];exact (below_size bb_) : w.heap.size ≤ gb285));replace HB:=A_ (below_step bb_ hb);clear hb hbox hg;have hcz6_0 : w5.cell? ⟨gb285,0,none⟩ = some (.int .i64 a0_0):=blk_cell BK285.out 0;have hcz6_1 : w5.cell? ⟨gb285,1,none⟩ = some (.slice A0_1 l0_1.length c0_1):=blk_cell BK285.out 1;have hfz6_0:=blk_frozen BK285.out 0;have hfz6_1:=blk_frozen BK285.out 1)|((with_reducible refine gate_callee (f:=61) rfl ?_);refine goesL_ (some 4) rfl rfl Tryd.func61 (by kernel_rfl) rfl #[.agg #[.int .i64 a0_0,.slice A0_1 l0_1.length c0_1]] rfl au_ ?_;(with_reducible refine (impl_IsOrder.calls k a0_0 _ _ l0_1 true _ ?side1 ?side2 ?side3 A2.out).mono ?_);(case side1=>exact cl_ (Kd.C_below HR0_1.out HB.out));(case side2=>exact HC0_1.out);(case side3=>first|exact HT.out|exact HT.out.below bb_|(repeat (first|exact HT.out|apply TabOK.drewN|apply TabOK.drew|apply TabOK.alloc)));rintro e w7 ⟨rfl,hb⟩;refine ⟨_,rfl,?_⟩;replace BK285:=bz BK285 hb;replace HB:=A_ (below_step bb_ hb);(try clear hb);(try clear hb2);(try clear hk);(try clear hi);have hcz8_0 : w7.cell? ⟨gb285,0,none⟩ = some (.int .i64 a0_0):=blk_cell BK285.out 0;have hcz8_1 : w7.cell? ⟨gb285,1,none⟩ = some (.slice A0_1 l0_1.length c0_1):=blk_cell BK285.out 1;have hfz8_0:=blk_frozen BK285.out 0;have hfz8_1:=blk_frozen BK285.out 1)|(go_at_call 141;(with_reducible refine (impl_Order_twoTwo.calls k a0_0 _ _ l0_1 t287 _ ?side1 ?side2 A4.out).mono ?_);(case side1=>exact cl_ (Kd.C_below HR0_1.out HB.out));(case side2=>exact HC0_1.out);rintro e w9 ⟨v288,rfl,ho0,hb,hz_⟩;have HO289:=A_ (Kd.R_lower ho0 (below_size bb_));replace BK285:=bz BK285 hb;replace HB:=A_ (below_step bb_ hb);(try clear hb);(try clear hb2);(try clear hk);(try clear hi);(try clear ho0);obtain ⟨Ao10,co10,eo10⟩:=Kd.R_slice HO289.out;subst eo10;(try have hnl10:=impl_isInterval.nilFact HO289.out hz_);(try clear hz_)))
  go_ret
  exact ⟨by first|rfl|(rw [hnl10] <;> rfl)|(simp [*,errW_none,errW_some] <;> exact ⟨rfl,impl_isInterval.nilB _⟩)|(simp [errW_none,errW_some] <;> rfl)|(simp [*,errW_none,errW_some] <;> rfl),bb_⟩
 ·replace c3:=Bool.eq_false_iff.mpr c3;subst c3;have H1 : (some false) = some r:=by rw [if_neg (show ¬ (false = true) by decide)] at H;exact H
  clear H;have H:=H1;clear H1;obtain rfl:=Option.some.inj H;go_enter Tryd.func134,Tryd.ntmps134
  go_wp2_with (first|((with_reducible refine gate_dst (N:=1) rfl ?_);refine box_event ?hg (N:=1) ?hd (cs:=#[.int .i64 a0_0,.slice A0_1 l0_1.length c0_1]) (t:=28) ?hr ?_;(case hd=>rfl);(case hg=>rfl);(case hr=>first|(go_simp;done)|(go_simp;rfl));intro gb285 hg w11 hbox hb;have BK285:=A_ (hbox);have GW285:=A_ ((by rw [hg];exact (below_size bb_) : w.heap.size ≤ gb285));have GE285:=A_ ((by rw [hg];exact (below_size bb_) : w.heap.size ≤ gb285));replace HB:=A_ (below_step bb_ hb);clear hb hbox hg;have hcz12_0 : w11.cell? ⟨gb285,0,none⟩ = some (.int .i64 a0_0):=blk_cell BK285.out 0;have hcz12_1 : w11.cell? ⟨gb285,1,none⟩ = some (.slice A0_1 l0_1.length c0_1):=blk_cell BK285.out 1;have hfz12_0:=blk_frozen BK285.out 0;have hfz12_1:=blk_frozen BK285.out 1)|((with_reducible refine gate_callee (f:=61) rfl ?_);refine goesL_ (some 4) rfl rfl Tryd.func61 (by kernel_rfl) rfl #[.agg #[.int .i64 a0_0,.slice A0_1 l0_1.length c0_1]] rfl au_ ?_;(with_reducible refine (impl_IsOrder.calls k a0_0 _ _ l0_1 false _ ?side1 ?side2 ?side3 A2.out).mono ?_);(case side1=>exact cl_ (Kd.C_below HR0_1.out HB.out));(case side2=>exact HC0_1.out);(case side3=>first|exact HT.out|exact HT.out.below bb_|(repeat (first|exact HT.out|apply TabOK.drewN|apply TabOK.drew|apply TabOK.alloc)));rintro e w13 ⟨rfl,hb⟩;refine ⟨_,rfl,?_⟩;replace BK285:=bz BK285 hb;replace HB:=A_ (below_step bb_ hb);(try clear hb);(try clear hb2);(try clear hk);(try clear hi)))
  go_ret
  exact ⟨by first|rfl|(rw [hnl10] <;> rfl)|(simp [*,errW_none,errW_some] <;> exact ⟨rfl,impl_isInterval.nilB _⟩)|(simp [errW_none,errW_some] <;> rfl)|(simp [*,errW_none,errW_some] <;> rfl),bb_⟩
end Go.Proofs.YtimjblnglhmakaaDoor.P

