/- A part of the proof that the law FnRefinements holds at every input. Written by wip/pack.py: the kit's printed words that are used, the functions' walks as wip/gen.py prints them, and hand proofs. -/
import Derived.Test.YtimjblnglhmakaaDoorKFnRefinements0
namespace Go.Proofs.YtimjblnglhmakaaDoor.P
open Go.RowKit Go.Proofs.YtimjblnglhmakaaDoorW.PrintWords Go.Proofs.YtimjblnglhmakaaDoorW.PrintLast Go.Proofs.YtimjblnglhmakaaDoorW.PrintMore
open Bool renaming true → T, false → F
open List renaming setIfInBounds_toArray → L_, set_cons_zero → M_, set_cons_succ → N_, map_toArray → P_, map_cons → Q_, map_nil → R_, length_drop → S_, length_take → U_
open Aside0 renaming mk → A_
attribute [local go_sem] max2_int min2_int max_two min_two max_three min_three max_four min_four
set_option linter.unusedVariables false
set_option linter.unusedSimpArgs false
attribute [local go_sem] fldOrder_0 fldOrder_1
def Aa0.f (k : Nat) (l0 : List Int) : Option (Int × List Int × Bool) := (Aau.f k l0).bind fun t711 => (if t711 = true then ((Abv.f k l0).bind fun bt712 => (some (bt712.1, bt712.2, true))) else (some (0, ([] : List Int), false)))
set_option maxHeartbeats 8000000 in
set_option maxRecDepth 100000 in
theorem Aa0.calls (k : Nat) (A0 : Option Addr) (c0 : Nat) (l0 : List Int) (r1 : Int) (r2 : List Int) (r3 : Bool) (w : World) (hr0 : Kd.C (Kd.int .i64) w A0 l0.length l0) (hc0 : l0.length ≤ c0) (h : Aa0.f k l0 = some (r1,r2,r3)) :
 Calls Tryd.prog 73 #[.slice A0 l0.length c0] w fun e w'=>∃ v1_ : Value,e = .returned (.tuple #[.agg #[.int .i64 r1,v1_],.bool r3]) ∧ Kd.R (Kd.int .i64) 3 w' w.heap.size (fun _=>True) v1_ r2 ∧ Below w.heap.size w w':=by
 have hu28:=Tryd.underlying28;have HR0:=A_ hr0;have HC0:=A_ hc0;clear hr0 hc0;have HB:=A_ (Below.refl w.heap.size w);have H : ((Aau.f k l0).bind fun Ae=>(if Ae = true then ((Abv.f k l0).bind fun Ac=>(some (Ac.1,Ac.2,true))) else (some (0,([] : List Int),false)))) = some (r1,r2,r3):=h;clear h;replace H:=Option.bind_eq_some_iff.mp H;obtain ⟨Ae,A20,H⟩:=H;replace H : (if Ae = true then ((Abv.f k l0).bind fun Ac=>(some (Ac.1,Ac.2,true))) else (some (0,([] : List Int),false))) = some (r1,r2,r3):=H;have A2:=A_ A20;clear A20;by_cases c3 : Ae = true
 ·subst c3;have H1 : ((Abv.f k l0).bind fun Ac=>(some (Ac.1,Ac.2,true))) = some (r1,r2,r3):=by rw [if_pos rfl] at H;exact H
  clear H;have H:=H1;clear H1;replace H:=Option.bind_eq_some_iff.mp H;obtain ⟨⟨Ad,Af⟩,A40,H⟩:=H;replace H : (some (Ad,Af,true)) = some (r1,r2,r3):=H;have A4:=A_ A40;clear A40;simp only [Option.some.injEq,Prod.mk.injEq] at H
  obtain ⟨rfl,rfl,rfl⟩:=H;go_enter Tryd.func73,Tryd.ntmps73
  go_wp2_with (first|((with_reducible refine gate_dst (N:=2) rfl ?_);refine box_event ?hg (N:=2) ?hd (cs:=#[.int .i64 0,.slice none 0 0]) (t:=28) ?hr ?_;(case hd=>rfl);(case hg=>rfl);(case hr=>go_simp;try rfl);intro Ab hg w5 hbox hb;have Aa:=A_ (hbox);have Ah:=A_ (gw_ (w:=w) hg bb_);have Ai:=A_ (gw_ (w:=w) hg bb_);replace HB:=A_ (below_step bb_ hb);clear hb hbox hg)|((with_reducible refine gate_callee (f:=153) rfl ?_);refine goesL_ (some 5) rfl rfl Tryd.func153 (by kernel_rfl) rfl #[.slice A0 l0.length c0] rfl au_ ?_;(with_reducible refine (Aau.calls k _ _ l0 true _ ?side1 ?side2 A2.out).mono ?_);(case side1=>exact cl_ (Kd.C_below HR0.out HB.out));(case side2=>exact HC0.out);rintro e w6 ⟨rfl,hb⟩;refine ⟨_,rfl,?_⟩;replace Aa:=bz Aa hb;replace HB:=A_ (below_step bb_ hb);(try clear hb);(try clear hb2);(try clear hk);(try clear hi))|((with_reducible refine gate_callee (f:=159) rfl ?_);refine goesL_ (some 9) rfl rfl Tryd.func159 (by kernel_rfl) rfl #[.slice A0 l0.length c0] rfl au_ ?_;(with_reducible refine (Abv.calls k _ _ l0 Ad Af _ ?side1 ?side2 A4.out).mono ?_);(case side1=>exact cl_ (Kd.C_below HR0.out HB.out));(case side2=>exact HC0.out);rintro e w7 ⟨Aj,rfl,ho0,hb⟩;refine ⟨_,rfl,?_⟩;have Ag:=A_ (Kd.R_lower ho0 (below_size bb_));replace Aa:=bz Aa hb;replace HB:=A_ (below_step bb_ hb);(try clear hb);(try clear hb2);(try clear hk);(try clear hi);(try clear ho0);have hcz8_0 : w7.cell? ⟨Ab,0,none⟩ = some (.int .i64 0):=blk_cell Aa.out 0;have hcz8_1 : w7.cell? ⟨Ab,1,none⟩ = some (.slice none 0 0):=blk_cell Aa.out 1;have hfz8_0:=blk_frozen Aa.out 0;have hfz8_1:=blk_frozen Aa.out 1;obtain ⟨Ao9,co9,eo9⟩:=Kd.R_slice Ag.out;subst eo9))
  refine bodyPost_ret (results_ct rfl _ _ Ab 28 #[.int .i64 Ad,.slice Ao9 Af.length co9] (0,0) _ rfl (by (with_reducible repeat (first|refine blk_drewN ?_ _|refine blk_drew ?_|refine blk_alloc ?_ _));refine blk_put (cs:=#[.int .i64 Ad,.slice none 0 0]) ?_ 1 _ rfl;(with_reducible repeat (first|refine blk_drewN ?_ _|refine blk_drew ?_|refine blk_alloc ?_ _));refine blk_put (cs:=#[.int .i64 0,.slice none 0 0]) ?_ 0 _ rfl;(with_reducible repeat (first|refine blk_drewN ?_ _|refine blk_drew ?_|refine blk_alloc ?_ _));exact Aa.out) Tryd.underlying28 rfl (by kernel_rfl)) rfl ?_
  exact ⟨_,by first|rfl|(simp [errW_none,errW_some] <;> rfl)|(simp [*,errW_none,errW_some] <;> rfl),rq_ (Kd.R_mono (Kd.R_far (p:=⟨Ab,1,none⟩) (Kd.R_far (p:=⟨Ab,0,none⟩) (Kd.R_types Ag.out Aa.out (by decide)) (fun _ hk=>hk.2) (.int .i64 Ad)) (fun _ hk=>hk.2) (.slice Ao9 Af.length co9)) (fun _ hk=>trivial)),bb_⟩
 ·replace c3:=Bool.eq_false_iff.mpr c3;subst c3;have H1 : (some (0,([] : List Int),false)) = some (r1,r2,r3):=by rw [if_neg (show ¬ (false = true) by decide)] at H;exact H
  clear H;have H:=H1;clear H1;simp only [Option.some.injEq,Prod.mk.injEq] at H
  obtain ⟨rfl,rfl,rfl⟩:=H;go_enter Tryd.func73,Tryd.ntmps73
  go_wp2_with (first|((with_reducible refine gate_dst (N:=2) rfl ?_);refine box_event ?hg (N:=2) ?hd (cs:=#[.int .i64 0,.slice none 0 0]) (t:=28) ?hr ?_;(case hd=>rfl);(case hg=>rfl);(case hr=>go_simp;try rfl);intro Ab hg w10 hbox hb;have Aa:=A_ (hbox);have Ah:=A_ (gw_ (w:=w) hg bb_);have Ai:=A_ (gw_ (w:=w) hg bb_);replace HB:=A_ (below_step bb_ hb);clear hb hbox hg)|((with_reducible refine gate_callee (f:=153) rfl ?_);refine goesL_ (some 5) rfl rfl Tryd.func153 (by kernel_rfl) rfl #[.slice A0 l0.length c0] rfl au_ ?_;(with_reducible refine (Aau.calls k _ _ l0 false _ ?side1 ?side2 A2.out).mono ?_);(case side1=>exact cl_ (Kd.C_below HR0.out HB.out));(case side2=>exact HC0.out);rintro e w11 ⟨rfl,hb⟩;refine ⟨_,rfl,?_⟩;replace Aa:=bz Aa hb;replace HB:=A_ (below_step bb_ hb);(try clear hb);(try clear hb2);(try clear hk);(try clear hi);have hcz12_0 : w11.cell? ⟨Ab,0,none⟩ = some (.int .i64 0):=blk_cell Aa.out 0;have hcz12_1 : w11.cell? ⟨Ab,1,none⟩ = some (.slice none 0 0):=blk_cell Aa.out 1;have hfz12_0:=blk_frozen Aa.out 0;have hfz12_1:=blk_frozen Aa.out 1))
  refine bodyPost_ret (results_ct rfl _ _ Ab 28 #[.int .i64 0,.slice none 0 0] (0,0) _ rfl (by (with_reducible repeat (first|refine blk_drewN ?_ _|refine blk_drew ?_|refine blk_alloc ?_ _));refine blk_put (cs:=#[.int .i64 0,.slice none 0 0]) ?_ 1 _ rfl;(with_reducible repeat (first|refine blk_drewN ?_ _|refine blk_drew ?_|refine blk_alloc ?_ _));refine blk_put (cs:=#[.int .i64 0,.slice none 0 0]) ?_ 0 _ rfl;(with_reducible repeat (first|refine blk_drewN ?_ _|refine blk_drew ?_|refine blk_alloc ?_ _));exact Aa.out) Tryd.underlying28 rfl (by kernel_rfl)) rfl ?_
  exact ⟨_,by first|rfl|(simp [errW_none,errW_some] <;> rfl)|(simp [*,errW_none,errW_some] <;> rfl),by first|exact Kd.R_nil _ _ _ _ _|exact Kd.N_nil _ _ _ _ _|exact Kd.V_nil _ _ _ _ _|exact Kd.Q_nil _ _ _ _ _|exact Kd.S_nil _ _ _ _ _,bb_⟩
def Aaa (w0 W : World) (g : Nat) (f0 : List Int) (f1 : Int) (f2 : Int) : Prop := ∃ A0 c0, W.heap[g]? = some (.cells #[.slice A0 f0.length c0, .int .i64 f1, .int .u64 f2] 103 (0, 0)) ∧ w0.heap.size ≤ g ∧ Kd.C (Kd.int .u8) w0 A0 f0.length f0
theorem Aaa.grown {w0 W : World} {g : Nat} {f0 : List Int} {f1 : Int} {f2 : Int} {W1 : World} {row : Option Nat} (h : Aaa w0 W g f0 f1 f2) (hw : W.grownBy W1 row) (hne : some g ≠ row) : Aaa w0 W1 g f0 f1 f2:=by
 obtain ⟨A0,c0,hb,hg,hr0⟩:=h;exact ⟨A0,c0,blk_grown hb hw hne,hg,hr0⟩
theorem Aaa.below {w0 W : World} {g : Nat} {f0 : List Int} {f1 : Int} {f2 : Int} {W1 : World} (h : Aaa w0 W g f0 f1 f2) (hw : Below W.heap.size W W1) : Aaa w0 W1 g f0 f1 f2:=h.grown (grown_of_below hw none) (by simp)
theorem Aaa.drewN {w0 W : World} {g : Nat} {f0 : List Int} {f1 : Int} {f2 : Int} (h : Aaa w0 W g f0 f1 f2) (m : Nat) : Aaa w0 (W.drewN m) g f0 f1 f2:=h
theorem Aaa.drew {w0 W : World} {g : Nat} {f0 : List Int} {f1 : Int} {f2 : Int} (h : Aaa w0 W g f0 f1 f2) : Aaa w0 W.drew g f0 f1 f2:=h
theorem Aaa.at_ {w0 W : World} {g : Nat} {f0 : List Int} {f1 : Int} {f2 : Int} {w' : World} {m : Nat} (hq : W.drewN m = w') (h : Aaa w0 W g f0 f1 f2) : Aaa w0 w' g f0 f1 f2:=by subst hq;exact Aaa.drewN h m
theorem Aaa.apart {w0 W : World} {g : Nat} {f0 : List Int} {f1 : Int} {f2 : Int} {α : Type} {d : Kd α} {e : Nat} {base : Nat} {ok : Nat → Prop} {v : Value} {xs : List α} (h : Aaa w0 W g f0 f1 f2) (ho : d.R e W base ok v xs) (ht : ∀ q,q ∈ e :: d.E → q ≠ 103) : d.R e W base (fun k=>ok k ∧ k ≠ g) v xs:=by
 obtain ⟨A0,c0,hb,hg,hr0⟩:=h;exact Kd.R_types ho hb ht
theorem Aaa.own_ne {w0 W : World} {g : Nat} {f0 : List Int} {f1 : Int} {f2 : Int} {α : Type} {d : Kd α} {e : Nat} {base : Nat} {ok : Nat → Prop} {v : Value} {xs : List α} (h : Aaa w0 W g f0 f1 f2) (ho : d.R e W base ok v xs) (ht : e ≠ 103) : some g ≠ v.ownBlock:=by
 obtain ⟨A0,c0,hb,hg,hr0⟩:=h;exact Kd.R_ne ho hb ht
theorem Aaa.lt {w0 W : World} {g : Nat} {f0 : List Int} {f1 : Int} {f2 : Int} (h : Aaa w0 W g f0 f1 f2) : g < W.heap.size:=by
 obtain ⟨A0,c0,hb,hg,hr0⟩:=h;exact blk_lt hb
theorem Aaa.ge {w0 W : World} {g : Nat} {f0 : List Int} {f1 : Int} {f2 : Int} (h : Aaa w0 W g f0 f1 f2) : w0.heap.size ≤ g:=by
 obtain ⟨A0,c0,hb,hg,hr0⟩:=h;exact hg
theorem Aaa.far {w0 W : World} {g : Nat} {f0 : List Int} {f1 : Int} {f2 : Int} {p : Addr} (h : Aaa w0 W g f0 f1 f2) (hne : g ≠ p.block) (u : Value) : Aaa w0 (W.setCell p u) g f0 f1 f2:=by
 obtain ⟨A0,c0,hb,hg,hr0⟩:=h;exact ⟨A0,c0,blk_far hb hne u,hg,hr0⟩
theorem cellS103_0 {W : World} {g : Nat} {A0 : Option Addr} {c0 : Nat} {f0 : List Int} {f1 : Int} {f2 : Int} (h : W.heap[g]? = some (.cells #[.slice A0 f0.length c0,.int .i64 f1,.int .u64 f2] 103 (0,0))) : W.cell? ⟨g,0,none⟩ = some (.slice A0 f0.length c0):=(blk_cell h 0).trans rfl
theorem cellS103_1 {W : World} {g : Nat} {A0 : Option Addr} {c0 : Nat} {f0 : List Int} {f1 : Int} {f2 : Int} (h : W.heap[g]? = some (.cells #[.slice A0 f0.length c0,.int .i64 f1,.int .u64 f2] 103 (0,0))) : W.cell? ⟨g,1,none⟩ = some (.int .i64 f1):=(blk_cell h 1).trans rfl
theorem Aaa.set_1 {w0 W : World} {g : Nat} {f0 : List Int} {f1 : Int} {f2 : Int} (h : Aaa w0 W g f0 f1 f2) (x : Int) : Aaa w0 (W.setCell ⟨g,1,none⟩ (.int .i64 x)) g f0 x f2:=by
 obtain ⟨A0,c0,hb,hg,hr0⟩:=h;exact ⟨A0,c0,by simpa using blk_set hb 1 (.int .i64 x),hg,hr0⟩
theorem cellS103_2 {W : World} {g : Nat} {A0 : Option Addr} {c0 : Nat} {f0 : List Int} {f1 : Int} {f2 : Int} (h : W.heap[g]? = some (.cells #[.slice A0 f0.length c0,.int .i64 f1,.int .u64 f2] 103 (0,0))) : W.cell? ⟨g,2,none⟩ = some (.int .u64 f2):=(blk_cell h 2).trans rfl
theorem Aaa.set_2 {w0 W : World} {g : Nat} {f0 : List Int} {f1 : Int} {f2 : Int} (h : Aaa w0 W g f0 f1 f2) (x : Int) : Aaa w0 (W.setCell ⟨g,2,none⟩ (.int .u64 x)) g f0 f1 x:=by
 obtain ⟨A0,c0,hb,hg,hr0⟩:=h;exact ⟨A0,c0,by simpa using blk_set hb 2 (.int .u64 x),hg,hr0⟩
theorem is_ {p : Prop} (h : p := by repeat (with_reducible first | exact Aside0.out (by assumption) | apply Aaa.alloc | apply Aaa.drewN | apply Aaa.drew | apply Aaa.set_1 | apply Aaa.set_2 | refine Aaa.far ?_ (Aside0.out (by assumption)) _)) : p := h
def Abd.f (s0_0 : List Int) (s0_1 : Int) (s0_2 : Int) : Option (Int × Int × Int) := if s0_1 < (s0_0.length : Int) then (if 0 ≤ s0_1 then (if (wrap64 (s0_1 + 1)) ≤ (s0_0.length : Int) then (some (wrap64 (rd s0_0 s0_1), wrap64 (s0_1 + 1), IntKind.u64.wrap ((IntKind.u64.wrap ((IntKind.u64.wrap (s0_2 * 6364136223846793005)) + (IntKind.u64.wrap (wrap64 (rd s0_0 s0_1))))) + 1442695040888963407))) else (some (wrap64 (Go.bits .and .u64 ((IntKind.u64.wrap ((IntKind.u64.wrap ((IntKind.u64.wrap (s0_2 * 6364136223846793005)) + (IntKind.u64.wrap (wrap64 (rd s0_0 s0_1))))) + 1442695040888963407)) / 1099511627776) 255), wrap64 (s0_1 + 1), IntKind.u64.wrap ((IntKind.u64.wrap ((IntKind.u64.wrap (s0_2 * 6364136223846793005)) + (IntKind.u64.wrap (wrap64 (rd s0_0 s0_1))))) + 1442695040888963407)))) else (none)) else (if (wrap64 (s0_1 + 1)) ≤ (s0_0.length : Int) then (some (0, wrap64 (s0_1 + 1), IntKind.u64.wrap ((IntKind.u64.wrap ((IntKind.u64.wrap (s0_2 * 6364136223846793005)))) + 1442695040888963407))) else (some (wrap64 (Go.bits .and .u64 ((IntKind.u64.wrap ((IntKind.u64.wrap ((IntKind.u64.wrap (s0_2 * 6364136223846793005)))) + 1442695040888963407)) / 1099511627776) 255), wrap64 (s0_1 + 1), IntKind.u64.wrap ((IntKind.u64.wrap ((IntKind.u64.wrap (s0_2 * 6364136223846793005)))) + 1442695040888963407))))
set_option maxHeartbeats 8000000 in
set_option maxRecDepth 100000 in
theorem Abd.calls (g : Nat) (s0_0 : List Int) (s0_1 : Int) (s0_2 : Int) (r1 : Int) (r2 : Int) (r3 : Int) (w0 w : World) (hI : Aaa w0 w g s0_0 s0_1 s0_2) (hB : Below w0.heap.size w0 w) (h : Abd.f s0_0 s0_1 s0_2 = some (r1,r2,r3)) :
 Calls Tryd.prog 212 #[.pointer (some ⟨g,0,none⟩)] w fun e w'=>e = .returned (.int .i64 r1) ∧ Aaa w0 w' g s0_0 r2 r3 ∧ Below w0.heap.size w0 w' ∧ KeepBut w w' g none:=by
 have HI0:=A_ hI;have HK:=A_ (KeepBut.refl w g none);have HL:=A_ hB.size;clear hI;have HW0:=A_ hB.size;have HB:=A_ hB;clear hB;have H : (if s0_1 < (s0_0.length : Int) then (if 0 ≤ s0_1 then (if (wrap64 (s0_1 + 1)) ≤ (s0_0.length : Int) then (some (wrap64 (rd s0_0 s0_1),wrap64 (s0_1 + 1),IntKind.u64.wrap ((IntKind.u64.wrap ((IntKind.u64.wrap (s0_2 * 6364136223846793005)) + (IntKind.u64.wrap (wrap64 (rd s0_0 s0_1))))) + 1442695040888963407))) else (some (wrap64 (Go.bits .and .u64 ((IntKind.u64.wrap ((IntKind.u64.wrap ((IntKind.u64.wrap (s0_2 * 6364136223846793005)) + (IntKind.u64.wrap (wrap64 (rd s0_0 s0_1))))) + 1442695040888963407)) / 1099511627776) 255),wrap64 (s0_1 + 1),IntKind.u64.wrap ((IntKind.u64.wrap ((IntKind.u64.wrap (s0_2 * 6364136223846793005)) + (IntKind.u64.wrap (wrap64 (rd s0_0 s0_1))))) + 1442695040888963407)))) else (none)) else (if (wrap64 (s0_1 + 1)) ≤ (s0_0.length : Int) then (some (0,wrap64 (s0_1 + 1),IntKind.u64.wrap ((IntKind.u64.wrap ((IntKind.u64.wrap (s0_2 * 6364136223846793005)))) + 1442695040888963407))) else (some (wrap64 (Go.bits .and .u64 ((IntKind.u64.wrap ((IntKind.u64.wrap ((IntKind.u64.wrap (s0_2 * 6364136223846793005)))) + 1442695040888963407)) / 1099511627776) 255),wrap64 (s0_1 + 1),IntKind.u64.wrap ((IntKind.u64.wrap ((IntKind.u64.wrap (s0_2 * 6364136223846793005)))) + 1442695040888963407))))) = some (r1,r2,r3):=h;clear h;by_cases c2 : s0_1 < (s0_0.length : Int)
 ·rw [if_pos c2] at H;have c2b0 : decide (s0_1 < (s0_0.length : Int)) = true:=decide_eq_true c2;clear c2;by_cases c3 : 0 ≤ s0_1
  ·rw [if_pos c3] at H;have c3b0 : decide (0 ≤ s0_1) = true:=decide_eq_true c3;clear c3;by_cases c4 : (wrap64 (s0_1 + 1)) ≤ (s0_0.length : Int)
   ·rw [if_pos c4] at H;have c4b0 : decide ((wrap64 (s0_1 + 1)) ≤ (s0_0.length : Int)) = true:=decide_eq_true c4;clear c4;simp only [Option.some.injEq,Prod.mk.injEq] at H
    obtain ⟨rfl,rfl,rfl⟩:=H;obtain ⟨ASz5_0,cSz5_0,HGz5,hgz5,HSz5_0⟩:=HI0.out;have hcz5_0:=cellS103_0 HGz5;have hcz5_1:=cellS103_1 HGz5;have hcz5_2:=cellS103_2 HGz5;have hfz5_1:=blk_frozen HGz5 1;have hfz5_2:=blk_frozen HGz5 2;clear HGz5 hgz5;have Ab : 0 ≤ (s0_1 : Int):=of_decide_eq_true (by first|(with_reducible assumption)|assumption);have Ac : s0_1 < (s0_0.length : Int):=of_decide_eq_true (by first|(with_reducible assumption)|assumption);obtain ⟨Ae,Ad,Aa⟩:=Kd.at_int HSz5_0 s0_1 Ab Ac;cases Ad
    replace Aa:=pw_cell_below HB.out Aa;replace Ab:=eq_true Ab;replace Ac:=eq_true Ac;go_enter Tryd.func212,Tryd.ntmps212
    go_wp2
    repeat (go_quiet (fail);try go_wp2)
    go_ret
    exact ⟨by first|rfl|(simp [errW_none,errW_some] <;> rfl)|(simp [*,errW_none,errW_some] <;> rfl),is_,by repeat (first|(with_reducible first|exact HB.out|apply below_alloc|apply pw_below_drewN|apply below_drew1|refine below_set ?_ (Aaa.ge HI0.out))|exact HB.out),by repeat (first|(with_reducible first|exact HK.out|apply KeepBut.set_|apply keep_drewN|apply keep_drew|apply keep_alloc)|exact HK.out)⟩
   ·rw [if_neg c4] at H;have c4b0 : decide ((wrap64 (s0_1 + 1)) ≤ (s0_0.length : Int)) = false:=decide_eq_false c4;clear c4;simp only [Option.some.injEq,Prod.mk.injEq] at H
    obtain ⟨rfl,rfl,rfl⟩:=H;obtain ⟨ASz6_0,cSz6_0,HGz6,hgz6,HSz6_0⟩:=HI0.out;have hcz6_0:=cellS103_0 HGz6;have hcz6_1:=cellS103_1 HGz6;have hcz6_2:=cellS103_2 HGz6;have hfz6_1:=blk_frozen HGz6 1;have hfz6_2:=blk_frozen HGz6 2;clear HGz6 hgz6;have Ab : 0 ≤ (s0_1 : Int):=of_decide_eq_true (by first|(with_reducible assumption)|assumption);have Ac : s0_1 < (s0_0.length : Int):=of_decide_eq_true (by first|(with_reducible assumption)|assumption);obtain ⟨Ae,Ad,Aa⟩:=Kd.at_int HSz6_0 s0_1 Ab Ac;cases Ad
    replace Aa:=pw_cell_below HB.out Aa;replace Ab:=eq_true Ab;replace Ac:=eq_true Ac;go_enter Tryd.func212,Tryd.ntmps212
    go_wp2
    repeat (go_quiet (fail);try go_wp2)
    go_ret
    exact ⟨by first|rfl|(simp [errW_none,errW_some] <;> rfl)|(simp [*,errW_none,errW_some] <;> rfl),is_,by repeat (first|(with_reducible first|exact HB.out|apply below_alloc|apply pw_below_drewN|apply below_drew1|refine below_set ?_ (Aaa.ge HI0.out))|exact HB.out),by repeat (first|(with_reducible first|exact HK.out|apply KeepBut.set_|apply keep_drewN|apply keep_drew|apply keep_alloc)|exact HK.out)⟩
  ·rw [if_neg c3] at H;exact absurd H (by simp)
 ·rw [if_neg c2] at H;have c2b0 : decide (s0_1 < (s0_0.length : Int)) = false:=decide_eq_false c2;clear c2;by_cases c7 : (wrap64 (s0_1 + 1)) ≤ (s0_0.length : Int)
  ·rw [if_pos c7] at H;have c7b0 : decide ((wrap64 (s0_1 + 1)) ≤ (s0_0.length : Int)) = true:=decide_eq_true c7;clear c7;simp only [Option.some.injEq,Prod.mk.injEq] at H
   obtain ⟨rfl,rfl,rfl⟩:=H;obtain ⟨ASz8_0,cSz8_0,HGz8,hgz8,HSz8_0⟩:=HI0.out;have hcz8_0:=cellS103_0 HGz8;have hcz8_1:=cellS103_1 HGz8;have hcz8_2:=cellS103_2 HGz8;have hfz8_1:=blk_frozen HGz8 1;have hfz8_2:=blk_frozen HGz8 2;clear HGz8 hgz8;go_enter Tryd.func212,Tryd.ntmps212
   go_wp2
   repeat (go_quiet (fail);try go_wp2)
   go_ret
   exact ⟨by first|rfl|(simp [errW_none,errW_some] <;> rfl)|(simp [*,errW_none,errW_some] <;> rfl),is_,by repeat (first|(with_reducible first|exact HB.out|apply below_alloc|apply pw_below_drewN|apply below_drew1|refine below_set ?_ (Aaa.ge HI0.out))|exact HB.out),by repeat (first|(with_reducible first|exact HK.out|apply KeepBut.set_|apply keep_drewN|apply keep_drew|apply keep_alloc)|exact HK.out)⟩
  ·rw [if_neg c7] at H;have c7b0 : decide ((wrap64 (s0_1 + 1)) ≤ (s0_0.length : Int)) = false:=decide_eq_false c7;clear c7;simp only [Option.some.injEq,Prod.mk.injEq] at H
   obtain ⟨rfl,rfl,rfl⟩:=H;obtain ⟨ASz9_0,cSz9_0,HGz9,hgz9,HSz9_0⟩:=HI0.out;have hcz9_0:=cellS103_0 HGz9;have hcz9_1:=cellS103_1 HGz9;have hcz9_2:=cellS103_2 HGz9;have hfz9_1:=blk_frozen HGz9 1;have hfz9_2:=blk_frozen HGz9 2;clear HGz9 hgz9;go_enter Tryd.func212,Tryd.ntmps212
   go_wp2
   repeat (go_quiet (fail);try go_wp2)
   go_ret
   exact ⟨by first|rfl|(simp [errW_none,errW_some] <;> rfl)|(simp [*,errW_none,errW_some] <;> rfl),is_,by repeat (first|(with_reducible first|exact HB.out|apply below_alloc|apply pw_below_drewN|apply below_drew1|refine below_set ?_ (Aaa.ge HI0.out))|exact HB.out),by repeat (first|(with_reducible first|exact HK.out|apply KeepBut.set_|apply keep_drewN|apply keep_drew|apply keep_alloc)|exact HK.out)⟩
def Abc.f (a0 : Int) (a1 : Int) : Option (Bool) := if 0 ≤ a1 then (some ((Int.tmod (shr .i64 a0 a1) 2) == 1)) else (none)
set_option maxHeartbeats 8000000 in
set_option maxRecDepth 100000 in
theorem Abc.calls (a0 : Int) (a1 : Int) (r : Bool) (w : World) (h : Abc.f a0 a1 = some r) :
 Calls Tryd.prog 192 #[.int .i64 a0,.int .i64 a1] w fun e w'=>e = .returned (.bool r) ∧ Drawn0 w w':=by
 have H : (if 0 ≤ a1 then (some ((Int.tmod (shr .i64 a0 a1) 2) == 1)) else (none)) = some r:=h;clear h;by_cases c3 : 0 ≤ a1
 ·rw [if_pos c3] at H;have c3b0:=eq_true c3;have c3b1 : decide (0 ≤ a1) = true:=decide_eq_true c3;clear c3;obtain ⟨ji4,hji4⟩ : ∃ j_ : Int,(shr .i64 a0 a1) = j_:=⟨_,rfl⟩;replace H : (some ((Int.tmod (ji4) 2) == 1)) = some r:=by first|(rw [hji4] at H;exact H)|(simp only [hji4] at H ⊢;exact H)
  have hji4_ : (a0 / 2 ^ min a1.toNat 64) = ji4:=hji4;have hji4z : a1 ≤ 64 → (a0 / 2 ^ a1.toNat) = ji4:=shr_small hji4;obtain rfl:=Option.some.inj H;go_enter Tryd.func192,Tryd.ntmps192
  go_wp2
  go_ret
  exact ⟨by first|rfl|(simp;done)|(simp only [← hji4] <;> (first|rfl|simp))|(simp [*];done),by repeat (first|exact Drawn0.refl _|apply Drawn0.step)⟩
 ·rw [if_neg c3] at H;exact absurd H (by simp)
def Aa2.l0 : Nat → Int → List Int → Int → Option (List Int)
 | 0,_,_,_=>none
 | k + 1,x0,x3,x4=>if 0 ≤ x4 then (if (shr .i64 x0 x4) > 0 then ((Abc.f x0 x4).bind fun t103=>(if t103 = true then (if x3.length < 17592186044416 then (Aa2.l0 k x0 (x3 ++ [x4]) (wrap64 (x4 + 1))) else (none)) else (Aa2.l0 k x0 x3 (wrap64 (x4 + 1))))) else (some x3)) else (none)
def Aa2.f (k : Nat) (a0 : Int) : Option (List Int) := Aa2.l0 k a0 ([] : List Int) 0
set_option maxHeartbeats 8000000 in
set_option maxRecDepth 100000 in
theorem Aa2.calls (k : Nat) (a0 : Int) (r : List Int) (w : World) (h : Aa2.f k a0 = some r) :
 Calls Tryd.prog 191 #[.int .i64 a0] w fun e w'=>∃ v0_ : Value,e = .returned (v0_) ∧ Kd.R (Kd.int .i64) 3 w' w.heap.size (fun _=>True) v0_ r ∧ Below w.heap.size w w':=by
 have HB:=A_ (Below.refl w.heap.size w);have H : (Aa2.l0 k a0 ([] : List Int) 0) = some r:=h;clear h;have H':=A_ H;clear H;go_enter Tryd.func191,Tryd.ntmps191
 go_wp2
 go_loopg [3,4] k (fun kq v3 v4 w'=>∃ (x3_1 : List Int) (x4_1 : Int),v4 = .int .i64 x4_1 ∧ Aside0 (Aa2.l0 kq a0 x3_1 x4_1 = some r) ∧ Aside0 (kq ≤ k) ∧ Aside0 (Kd.R (Kd.int .i64) 3 w' w.heap.size (fun _=>True) v3 x3_1) ∧ Aside0 (Below w.heap.size w w'))
 case atStart=>exact ⟨(([] : List Int)),(0),(by first|rfl|(simp;done)|(simp [*];done)),H',⟨Nat.le_refl _⟩,⟨by first|exact Kd.R_nil _ _ _ _ _|exact Kd.N_nil _ _ _ _ _|exact Kd.V_nil _ _ _ _ _|exact Kd.Q_nil _ _ _ _ _|exact Kd.S_nil _ _ _ _ _⟩,⟨bb_⟩⟩
 case round =>
  clear H';try clear c1
  obtain ⟨x3_1,x4_1,rfl,HA,HK1,HO_3,HB⟩:=hrel;cases gk with
  | zero => exact absurd HA.out (by simp [Aa2.l0])
  | succ k1 =>
   have H:=HA.out;clear HA;simp only [Aa2.l0] at H
   by_cases c2 : 0 ≤ x4_1
   ·rw [if_pos c2] at H;have c2b0:=eq_true c2;have c2b1 : decide (0 ≤ x4_1) = true:=decide_eq_true c2;clear c2;obtain ⟨ji3,hji3⟩ : ∃ j_ : Int,(shr .i64 a0 x4_1) = j_:=⟨_,rfl⟩;replace H : (if (ji3) > 0 then ((Abc.f a0 x4_1).bind fun Ab=>(if Ab = true then (if x3_1.length < 17592186044416 then (Aa2.l0 k1 a0 (x3_1 ++ [x4_1]) (wrap64 (x4_1 + 1))) else (none)) else (Aa2.l0 k1 a0 x3_1 (wrap64 (x4_1 + 1))))) else (some x3_1)) = some r:=by first|(rw [hji3] at H;exact H)|(simp only [hji3] at H ⊢;exact H)
    have hji3_ : (a0 / 2 ^ min x4_1.toNat 64) = ji3:=hji3;have hji3z : x4_1 ≤ 64 → (a0 / 2 ^ x4_1.toNat) = ji3:=shr_small hji3;by_cases c4 : (ji3) > 0
    ·rw [if_pos c4] at H;have c4b0 : decide (0 < (ji3)) = true:=decide_eq_true c4;clear c4;replace H:=Option.bind_eq_some_iff.mp H;obtain ⟨Ab,A50,H⟩:=H;replace H : (if Ab = true then (if x3_1.length < 17592186044416 then (Aa2.l0 k1 a0 (x3_1 ++ [x4_1]) (wrap64 (x4_1 + 1))) else (none)) else (Aa2.l0 k1 a0 x3_1 (wrap64 (x4_1 + 1)))) = some r:=H;have A5:=A_ A50;clear A50;by_cases c6 : Ab = true
     ·subst c6;have H1 : (if x3_1.length < 17592186044416 then (Aa2.l0 k1 a0 (x3_1 ++ [x4_1]) (wrap64 (x4_1 + 1))) else (none)) = some r:=by rw [if_pos rfl] at H;exact H
      clear H;have H:=H1;clear H1;by_cases c7 : x3_1.length < 17592186044416
      ·rw [if_pos c7] at H;have LMc7:=A_ c7;clear c7;obtain ⟨Ac,Aa⟩ : ∃ y_ : List Int,y_ = (x3_1 ++ [x4_1]):=⟨_,rfl⟩;replace H : (Aa2.l0 k1 a0 Ac (wrap64 (x4_1 + 1))) = some r:=by first|(rw [Aa];with_reducible exact H)|(have H2_:=(Option.bind_some _ _).symm.trans H;rw [Aa];with_reducible exact H2_)|(have H2_:=(Option.bind_some _ _).symm.trans H;with_reducible exact H2_)|with_reducible exact H|(rw [Aa];exact H)|exact H
       have Ad:=A_ Aa;clear Aa;have H':=A_ H;clear H;go_wp2_with (first|((with_reducible refine gate_callee (f:=192) rfl ?_);refine goesL_ (some 13) rfl rfl Tryd.func192 (by kernel_rfl) rfl #[.int .i64 a0,.int .i64 x4_1] rfl au_ ?_;(with_reducible refine (Abc.calls a0 x4_1 true _ A5.out).mono ?_);rintro e w' ⟨rfl,⟨nd,rfl⟩⟩;refine ⟨_,rfl,?_⟩)|((with_reducible refine gate_builtin (b:=.append) (xs:=#[.tmp 14,.tmp 16]) rfl ?_);at_builtin;refine Kd.R_append (Kd.int .i64) (w0:=w) w.heap.size rfl (.tmp 14) (.tmp 16) 22 3 (.int .i64 0) 8 rfl Tryd.underlying22 info3 rfl (by decide) (by omega) u3 x3_1 x4_1 [.int .i64 x4_1] (fun _=>True) (fun _=>False) rfl rfl ?aP (fun _ hk=>hk.elim) ?aF ?aO ?aB ?aS ?aL ?_;(case aP=>exact rfl);(case aB=>exact bb_);(case aF=>exact (fun _ _=>trivial));(case aO=>exact (rl_ HO_3));(case aS=>exact (below_size bb_));(case aL=>have:=LMc7.out;omega);intro Af w8 ho hb hg hat;rw [← Ad.out] at ho;replace HB:=A_ (hb);have Ae:=A_ (ho);clear HO_3;clear ho hb hg hat))
       go_roundg k1
       case measure=>have:=HK1.out;omega
       case rel=>exact ⟨(Ac),(wrap64 (x4_1 + 1)),(by first|rfl|(simp;done)|(simp [*];done)),H',⟨by have:=HK1.out;omega⟩,⟨rl_ Ae⟩,⟨bb_⟩⟩
      ·rw [if_neg c7] at H;exact absurd H (by simp)
     ·replace c6:=Bool.eq_false_iff.mpr c6;subst c6;have H1 : (Aa2.l0 k1 a0 x3_1 (wrap64 (x4_1 + 1))) = some r:=by rw [if_neg (show ¬ (false = true) by decide)] at H;exact H
      clear H;have H:=H1;clear H1;have H':=A_ H;clear H;go_wp2_with (first|((with_reducible refine gate_callee (f:=192) rfl ?_);refine goesL_ (some 13) rfl rfl Tryd.func192 (by kernel_rfl) rfl #[.int .i64 a0,.int .i64 x4_1] rfl au_ ?_;(with_reducible refine (Abc.calls a0 x4_1 false _ A5.out).mono ?_);rintro e w' ⟨rfl,⟨nd,rfl⟩⟩;refine ⟨_,rfl,?_⟩))
      go_roundg k1
      case measure=>have:=HK1.out;omega
      case rel=>exact ⟨(x3_1),(wrap64 (x4_1 + 1)),(by first|rfl|(simp;done)|(simp [*];done)),H',⟨by have:=HK1.out;omega⟩,⟨rl_ HO_3⟩,⟨bb_⟩⟩
    ·rw [if_neg c4] at H;have c4b0 : decide (0 < (ji3)) = false:=decide_eq_false c4;clear c4;obtain rfl:=Option.some.inj H;go_wp2
     go_ret
     exact ⟨_,by first|rfl|(simp [errW_none,errW_some] <;> rfl)|(simp only [← hji3];first|rfl|(simp [errW_none,errW_some] <;> rfl))|(simp [*,errW_none,errW_some] <;> rfl),rl_ HO_3,bb_⟩
   ·rw [if_neg c2] at H;exact absurd H (by simp)
def Abl.f (a0 : Int) (a1 : Int) (a2 : Int) : Option (Bool) := if a0 ≥ a1 then (some (decide (a0 ≤ a2))) else (some false)
set_option maxHeartbeats 8000000 in
set_option maxRecDepth 100000 in
theorem Abl.calls (a0 : Int) (a1 : Int) (a2 : Int) (r : Bool) (w : World) (h : Abl.f a0 a1 a2 = some r) :
 Calls Tryd.prog 127 #[.int .i64 a0,.int .i64 a1,.int .i64 a2] w fun e w'=>e = .returned (.bool r) ∧ Drawn0 w w':=by
 have H : (if a0 ≥ a1 then (some (decide (a0 ≤ a2))) else (some false)) = some r:=h;clear h;by_cases c4 : a0 ≥ a1
 ·rw [if_pos c4] at H;have c4b0 : decide (a1 ≤ a0) = true:=decide_eq_true c4;clear c4;obtain rfl:=Option.some.inj H;go_enter Tryd.func127,Tryd.ntmps127
  go_wp2
  go_ret
  exact ⟨by first|rfl|(simp;done)|(simp [*];done),by repeat (first|exact Drawn0.refl _|apply Drawn0.step)⟩
 ·rw [if_neg c4] at H;have c4b0 : decide (a1 ≤ a0) = false:=decide_eq_false c4;clear c4;obtain rfl:=Option.some.inj H;go_enter Tryd.func127,Tryd.ntmps127
  go_wp2
  go_ret
  exact ⟨by first|rfl|(simp;done)|(simp [*];done),by repeat (first|exact Drawn0.refl _|apply Drawn0.step)⟩
def Aa3.l0 : Nat → Int → Int → List Int → Int → Int → Option (Bool)
 | 0,_,_,_,_,_=>none
 | k + 1,x1,x2,x9,x10,x11=>if x11 < x10 then (if 0 ≤ x11 then (if x11 < (x9.length : Int) then ((Abl.f (rd x9 x11) x1 x2).bind fun t108=>(if t108 = true then (Aa3.l0 k x1 x2 x9 x10 (wrap64 (x11 + 1))) else (some false))) else (none)) else (none)) else (some true)
def Aa3.f (k : Nat) (l0 : List Int) (a1 : Int) (a2 : Int) : Option (Bool) := Aa3.l0 k a1 a2 l0 (l0.length : Int) 0
set_option maxHeartbeats 8000000 in
set_option maxRecDepth 100000 in
theorem Aa3.calls (k : Nat) (A0 : Option Addr) (c0 : Nat) (l0 : List Int) (a1 : Int) (a2 : Int) (r : Bool) (w : World) (hr0 : Kd.C (Kd.int .i64) w A0 l0.length l0) (hc0 : l0.length ≤ c0) (h : Aa3.f k l0 a1 a2 = some r) :
 Calls Tryd.prog 214 #[.slice A0 l0.length c0,.int .i64 a1,.int .i64 a2] w fun e w'=>e = .returned (.bool r) ∧ Drawn0 w w':=by
 have HR0:=A_ hr0;have HC0:=A_ hc0;clear hr0 hc0;have H : (Aa3.l0 k a1 a2 l0 (l0.length : Int) 0) = some r:=h;clear h;have H':=A_ H;clear H;go_enter Tryd.func214,Tryd.ntmps214
 go_wp2
 go_loopg [11] k (fun kq v11 w'=>∃ (x11_1 : Int),v11 = .int .i64 x11_1 ∧ Aside0 (Aa3.l0 kq a1 a2 l0 (l0.length : Int) x11_1 = some r) ∧ Aside0 (kq ≤ k) ∧ Drawn0 w w')
 case atStart=>exact ⟨(0),(by first|rfl|(simp;done)|(simp [*];done)),H',⟨Nat.le_refl _⟩,by repeat (first|exact Drawn0.refl _|apply Drawn0.step)⟩
 case round =>
  clear H';try clear c2
  try clear p2
  obtain ⟨x11_1,rfl,HA,HK1,⟨m1,rfl⟩⟩:=hrel;cases gk with
  | zero => exact absurd HA.out (by simp [Aa3.l0])
  | succ k1 =>
   have H:=HA.out;clear HA;simp only [Aa3.l0] at H
   by_cases c4 : x11_1 < (l0.length : Int)
   ·rw [if_pos c4] at H;have c4b0 : decide (x11_1 < (l0.length : Int)) = true:=decide_eq_true c4;clear c4;by_cases c5 : 0 ≤ x11_1
    ·rw [if_pos c5] at H;have c5b0 : decide (0 ≤ x11_1) = true:=decide_eq_true c5;clear c5;by_cases c6 : x11_1 < (l0.length : Int)
     ·rw [if_pos c6] at H;have c6b0 : decide (x11_1 < (l0.length : Int)) = true:=decide_eq_true c6;clear c6;replace H:=Option.bind_eq_some_iff.mp H;obtain ⟨Ae,A70,H⟩:=H;replace H : (if Ae = true then (Aa3.l0 k1 a1 a2 l0 (l0.length : Int) (wrap64 (x11_1 + 1))) else (some false)) = some r:=H;have A7:=A_ A70;clear A70;by_cases c8 : Ae = true
      ·subst c8;have H1 : (Aa3.l0 k1 a1 a2 l0 (l0.length : Int) (wrap64 (x11_1 + 1))) = some r:=by rw [if_pos rfl] at H;exact H
       clear H;have H:=H1;clear H1;have H':=A_ H;clear H;have Aa : 0 ≤ (x11_1 : Int):=of_decide_eq_true (by first|(with_reducible assumption)|assumption);have Ab : x11_1 < (l0.length : Int):=of_decide_eq_true (by first|(with_reducible assumption)|assumption);obtain ⟨Af,Ac,Ad⟩:=Kd.at_int HR0.out x11_1 Aa Ab;cases Ac
       replace Aa:=eq_true Aa;replace Ab:=eq_true Ab;go_wp2_with (first|((with_reducible refine gate_callee (f:=127) rfl ?_);refine goesL_ (some 18) rfl rfl Tryd.func127 (by kernel_rfl) rfl #[.int .i64 (rd l0 x11_1),.int .i64 a1,.int .i64 a2] rfl au_ ?_;(with_reducible refine (Abl.calls (rd l0 x11_1) a1 a2 true _ A7.out).mono ?_);rintro e w' ⟨rfl,⟨nd,rfl⟩⟩;refine ⟨_,rfl,?_⟩))
       go_roundg k1
       case measure=>have:=HK1.out;omega
       case rel=>exact ⟨(wrap64 (x11_1 + 1)),(by first|rfl|(simp;done)|(simp [*];done)),H',⟨by have:=HK1.out;omega⟩,by repeat (first|exact Drawn0.refl _|apply Drawn0.step)⟩
      ·replace c8:=Bool.eq_false_iff.mpr c8;subst c8;have H1 : (some false) = some r:=by rw [if_neg (show ¬ (false = true) by decide)] at H;exact H
       clear H;have H:=H1;clear H1;obtain rfl:=Option.some.inj H;have Aa : 0 ≤ (x11_1 : Int):=of_decide_eq_true (by first|(with_reducible assumption)|assumption);have Ab : x11_1 < (l0.length : Int):=of_decide_eq_true (by first|(with_reducible assumption)|assumption);obtain ⟨Af,Ac,Ad⟩:=Kd.at_int HR0.out x11_1 Aa Ab;cases Ac
       replace Aa:=eq_true Aa;replace Ab:=eq_true Ab;go_wp2_with (first|((with_reducible refine gate_callee (f:=127) rfl ?_);refine goesL_ (some 18) rfl rfl Tryd.func127 (by kernel_rfl) rfl #[.int .i64 (rd l0 x11_1),.int .i64 a1,.int .i64 a2] rfl au_ ?_;(with_reducible refine (Abl.calls (rd l0 x11_1) a1 a2 false _ A7.out).mono ?_);rintro e w' ⟨rfl,⟨nd,rfl⟩⟩;refine ⟨_,rfl,?_⟩))
       go_ret
       exact ⟨by first|rfl|(simp;done)|(simp [*];done),by repeat (first|exact Drawn0.refl _|apply Drawn0.step)⟩
     ·rw [if_neg c6] at H;exact absurd H (by simp)
    ·rw [if_neg c5] at H;exact absurd H (by simp)
   ·rw [if_neg c4] at H;have c4b0 : decide (x11_1 < (l0.length : Int)) = false:=decide_eq_false c4;clear c4;obtain rfl:=Option.some.inj H;go_wp2
    go_ret
    exact ⟨by first|rfl|(simp;done)|(simp [*];done),by repeat (first|exact Drawn0.refl _|apply Drawn0.step)⟩
def Abe.f (k : Nat) (a0_0 : Int) (l0_1 : List Int) : Option (Bool) := (Abl.f a0_0 0 10).bind fun t110 => (if t110 = true then (if (l0_1.length : Int) = a0_0 then (if 0 ≤ a0_0 then ((Aa3.f k l0_1 0 (wrap64 ((shl .i64 1 a0_0) - 1))).bind fun t111 => (some t111)) else (none)) else (some false)) else (some false))
set_option maxHeartbeats 8000000 in
set_option maxRecDepth 100000 in
theorem Abe.calls (k : Nat) (a0_0 : Int) (A0_1 : Option Addr) (c0_1 : Nat) (l0_1 : List Int) (r : Bool) (w : World) (hr0_1 : Kd.C (Kd.int .i64) w A0_1 l0_1.length l0_1) (hc0_1 : l0_1.length ≤ c0_1) (h : Abe.f k a0_0 l0_1 = some r) :
 Calls Tryd.prog 207 #[.agg #[.int .i64 a0_0,.slice A0_1 l0_1.length c0_1]] w fun e w'=>e = .returned (.bool r) ∧ Below w.heap.size w w':=by
 have hu28:=Tryd.underlying28;have HR0_1:=A_ hr0_1;have HC0_1:=A_ hc0_1;clear hr0_1 hc0_1;have HB:=A_ (Below.refl w.heap.size w);have H : ((Abl.f a0_0 0 10).bind fun Af=>(if Af = true then (if (l0_1.length : Int) = a0_0 then (if 0 ≤ a0_0 then ((Aa3.f k l0_1 0 (wrap64 ((shl .i64 1 a0_0) - 1))).bind fun Ac=>(some Ac)) else (none)) else (some false)) else (some false))) = some r:=h;clear h;replace H:=Option.bind_eq_some_iff.mp H;obtain ⟨Af,A20,H⟩:=H;replace H : (if Af = true then (if (l0_1.length : Int) = a0_0 then (if 0 ≤ a0_0 then ((Aa3.f k l0_1 0 (wrap64 ((shl .i64 1 a0_0) - 1))).bind fun Ac=>(some Ac)) else (none)) else (some false)) else (some false)) = some r:=H;have A2:=A_ A20;clear A20;by_cases c3 : Af = true
 ·subst c3;have H1 : (if (l0_1.length : Int) = a0_0 then (if 0 ≤ a0_0 then ((Aa3.f k l0_1 0 (wrap64 ((shl .i64 1 a0_0) - 1))).bind fun Ac=>(some Ac)) else (none)) else (some false)) = some r:=by rw [if_pos rfl] at H;exact H
  clear H;have H:=H1;clear H1;by_cases c4 : (l0_1.length : Int) = a0_0
  ·rw [if_pos c4] at H;have c4b0 : ((l0_1.length : Int) == a0_0) = true:=beq_iff_eq.mpr c4;have c4b1 : ((l0_1.length : Int) != a0_0) = false:=bne_eq_false_iff_eq.mpr c4;clear c4;by_cases c5 : 0 ≤ a0_0
   ·rw [if_pos c5] at H;have c5b0:=eq_true c5;have c5b1 : decide (0 ≤ a0_0) = true:=decide_eq_true c5;clear c5;obtain ⟨ji6,hji6⟩ : ∃ j_ : Int,(shl .i64 1 a0_0) = j_:=⟨_,rfl⟩;replace H : ((Aa3.f k l0_1 0 (wrap64 ((ji6) - 1))).bind fun Ac=>(some Ac)) = some r:=by first|(rw [hji6] at H;exact H)|(simp only [hji6] at H ⊢;exact H)
    (try rw [hji6] at A2);have hji6_ : (IntKind.i64.wrap (1 * 2 ^ min a0_0.toNat 64)) = ji6:=hji6;have hji6z : a0_0 ≤ 64 → (IntKind.i64.wrap (1 * 2 ^ a0_0.toNat)) = ji6:=shl_small hji6;have hji6u : (IntKind.i64.wrap (2 ^ min a0_0.toNat 64)) = ji6:=by have h_:=hji6_;rw [Int.one_mul] at h_;exact h_
    have hji6v : a0_0 ≤ 64 → (IntKind.i64.wrap (2 ^ a0_0.toNat)) = ji6:=fun hle_=>by have h_:=hji6z hle_;rw [Int.one_mul] at h_;exact h_
    have hji6y : (wrap64 (1 * 2 ^ min a0_0.toNat 64)) = ji6:=(i64_w _).symm.trans hji6_;have hji6x : a0_0 ≤ 64 → (wrap64 (1 * 2 ^ a0_0.toNat)) = ji6:=fun h_=>(i64_w _).symm.trans (hji6z h_)
    replace H:=Option.bind_eq_some_iff.mp H;obtain ⟨Ac,A70,H⟩:=H;replace H : (some Ac) = some r:=H;have A7:=A_ A70;clear A70;obtain rfl:=Option.some.inj H;go_enter Tryd.func207,Tryd.ntmps207
    go_wp2_with (first|((with_reducible refine gate_dst (N:=1) rfl ?_);(try (refine gate_guard (by rfl) ?_;dsimp only));refine box_event ?hg (N:=1) ?hd (cs:=#[.int .i64 a0_0,.slice A0_1 l0_1.length c0_1]) (t:=28) ?hr ?_;(case hd=>rfl);(case hg=>rfl);(case hr=>go_simp;try rfl);intro Ab hg w8 hbox hb;have Aa:=A_ (hbox);have Ad:=A_ (gw_ (w:=w) hg bb_);have Ae:=A_ (gw_ (w:=w) hg bb_);replace HB:=A_ (below_step bb_ hb);clear hb hbox hg;have hcz9_0 : w8.cell? ⟨Ab,0,none⟩ = some (.int .i64 a0_0):=blk_cell Aa.out 0;have hcz9_1 : w8.cell? ⟨Ab,1,none⟩ = some (.slice A0_1 l0_1.length c0_1):=blk_cell Aa.out 1;have hfz9_0:=blk_frozen Aa.out 0;have hfz9_1:=blk_frozen Aa.out 1)|(go_at_call 127;(with_reducible refine (Abl.calls a0_0 0 10 true _ A2.out).mono ?_);rintro e w' ⟨rfl,⟨nd,rfl⟩⟩;(try first|exact ⟨rfl,_,World.drewN_drewN _ _ _⟩|exact ⟨rfl,_,Eq.trans (World.drewN_drewN _ _ _) (congrArg (World.drewN _) (Nat.add_assoc _ _ _))⟩))|(go_at_call 214;(with_reducible refine (Aa3.calls k _ _ l0_1 0 (wrap64 ((ji6) - 1)) Ac _ ?side1 ?side2 A7.out).mono ?_);(case side1=>exact cl_ (Kd.C_below HR0_1.out bb_));(case side2=>exact HC0_1.out);rintro e w' ⟨rfl,⟨nd,rfl⟩⟩;(try first|exact ⟨rfl,_,World.drewN_drewN _ _ _⟩|exact ⟨rfl,_,Eq.trans (World.drewN_drewN _ _ _) (congrArg (World.drewN _) (Nat.add_assoc _ _ _))⟩)))
    repeat (go_quiet (first|((with_reducible refine gate_dst (N:=1) rfl ?_);(try (refine gate_guard (by rfl) ?_;dsimp only));refine box_event ?hg (N:=1) ?hd (cs:=#[.int .i64 a0_0,.slice A0_1 l0_1.length c0_1]) (t:=28) ?hr ?_;(case hd=>rfl);(case hg=>rfl);(case hr=>go_simp;try rfl);intro Ab hg w8 hbox hb;have Aa:=A_ (hbox);have Ad:=A_ (gw_ (w:=w) hg bb_);have Ae:=A_ (gw_ (w:=w) hg bb_);replace HB:=A_ (below_step bb_ hb);clear hb hbox hg;have hcz9_0 : w8.cell? ⟨Ab,0,none⟩ = some (.int .i64 a0_0):=blk_cell Aa.out 0;have hcz9_1 : w8.cell? ⟨Ab,1,none⟩ = some (.slice A0_1 l0_1.length c0_1):=blk_cell Aa.out 1;have hfz9_0:=blk_frozen Aa.out 0;have hfz9_1:=blk_frozen Aa.out 1)|(go_at_call 127;(with_reducible refine (Abl.calls a0_0 0 10 true _ A2.out).mono ?_);rintro e w' ⟨rfl,⟨nd,rfl⟩⟩;(try first|exact ⟨rfl,_,World.drewN_drewN _ _ _⟩|exact ⟨rfl,_,Eq.trans (World.drewN_drewN _ _ _) (congrArg (World.drewN _) (Nat.add_assoc _ _ _))⟩))|(go_at_call 214;(with_reducible refine (Aa3.calls k _ _ l0_1 0 (wrap64 ((ji6) - 1)) Ac _ ?side1 ?side2 A7.out).mono ?_);(case side1=>exact cl_ (Kd.C_below HR0_1.out bb_));(case side2=>exact HC0_1.out);rintro e w' ⟨rfl,⟨nd,rfl⟩⟩;(try first|exact ⟨rfl,_,World.drewN_drewN _ _ _⟩|exact ⟨rfl,_,Eq.trans (World.drewN_drewN _ _ _) (congrArg (World.drewN _) (Nat.add_assoc _ _ _))⟩)));try go_wp2_with (first|((with_reducible refine gate_dst (N:=1) rfl ?_);(try (refine gate_guard (by rfl) ?_;dsimp only));refine box_event ?hg (N:=1) ?hd (cs:=#[.int .i64 a0_0,.slice A0_1 l0_1.length c0_1]) (t:=28) ?hr ?_;(case hd=>rfl);(case hg=>rfl);(case hr=>go_simp;try rfl);intro Ab hg w8 hbox hb;have Aa:=A_ (hbox);have Ad:=A_ (gw_ (w:=w) hg bb_);have Ae:=A_ (gw_ (w:=w) hg bb_);replace HB:=A_ (below_step bb_ hb);clear hb hbox hg;have hcz9_0 : w8.cell? ⟨Ab,0,none⟩ = some (.int .i64 a0_0):=blk_cell Aa.out 0;have hcz9_1 : w8.cell? ⟨Ab,1,none⟩ = some (.slice A0_1 l0_1.length c0_1):=blk_cell Aa.out 1;have hfz9_0:=blk_frozen Aa.out 0;have hfz9_1:=blk_frozen Aa.out 1)|(go_at_call 127;(with_reducible refine (Abl.calls a0_0 0 10 true _ A2.out).mono ?_);rintro e w' ⟨rfl,⟨nd,rfl⟩⟩;(try first|exact ⟨rfl,_,World.drewN_drewN _ _ _⟩|exact ⟨rfl,_,Eq.trans (World.drewN_drewN _ _ _) (congrArg (World.drewN _) (Nat.add_assoc _ _ _))⟩))|(go_at_call 214;(with_reducible refine (Aa3.calls k _ _ l0_1 0 (wrap64 ((ji6) - 1)) Ac _ ?side1 ?side2 A7.out).mono ?_);(case side1=>exact cl_ (Kd.C_below HR0_1.out bb_));(case side2=>exact HC0_1.out);rintro e w' ⟨rfl,⟨nd,rfl⟩⟩;(try first|exact ⟨rfl,_,World.drewN_drewN _ _ _⟩|exact ⟨rfl,_,Eq.trans (World.drewN_drewN _ _ _) (congrArg (World.drewN _) (Nat.add_assoc _ _ _))⟩))))
    go_ret
    exact ⟨by first|rfl|(simp [errW_none,errW_some] <;> rfl)|(simp only [← hji6];first|rfl|(simp [errW_none,errW_some] <;> rfl))|(simp [*,errW_none,errW_some] <;> rfl),bb_⟩
   ·rw [if_neg c5] at H;exact absurd H (by simp)
  ·rw [if_neg c4] at H;have c4b0 : ((l0_1.length : Int) == a0_0) = false:=beq_eq_false_iff_ne.mpr c4;have c4b1 : ((l0_1.length : Int) != a0_0) = true:=bne_iff_ne.mpr c4;obtain rfl:=Option.some.inj H;go_enter Tryd.func207,Tryd.ntmps207
   go_wp2_with (first|((with_reducible refine gate_dst (N:=1) rfl ?_);(try (refine gate_guard (by rfl) ?_;dsimp only));refine box_event ?hg (N:=1) ?hd (cs:=#[.int .i64 a0_0,.slice A0_1 l0_1.length c0_1]) (t:=28) ?hr ?_;(case hd=>rfl);(case hg=>rfl);(case hr=>go_simp;try rfl);intro Ab hg w10 hbox hb;have Aa:=A_ (hbox);have Ad:=A_ (gw_ (w:=w) hg bb_);have Ae:=A_ (gw_ (w:=w) hg bb_);replace HB:=A_ (below_step bb_ hb);clear hb hbox hg;have hcz11_0 : w10.cell? ⟨Ab,0,none⟩ = some (.int .i64 a0_0):=blk_cell Aa.out 0;have hcz11_1 : w10.cell? ⟨Ab,1,none⟩ = some (.slice A0_1 l0_1.length c0_1):=blk_cell Aa.out 1;have hfz11_0:=blk_frozen Aa.out 0;have hfz11_1:=blk_frozen Aa.out 1)|(go_at_call 127;(with_reducible refine (Abl.calls a0_0 0 10 true _ A2.out).mono ?_);rintro e w' ⟨rfl,⟨nd,rfl⟩⟩;(try first|exact ⟨rfl,_,World.drewN_drewN _ _ _⟩|exact ⟨rfl,_,Eq.trans (World.drewN_drewN _ _ _) (congrArg (World.drewN _) (Nat.add_assoc _ _ _))⟩)))
   repeat (go_quiet (first|((with_reducible refine gate_dst (N:=1) rfl ?_);(try (refine gate_guard (by rfl) ?_;dsimp only));refine box_event ?hg (N:=1) ?hd (cs:=#[.int .i64 a0_0,.slice A0_1 l0_1.length c0_1]) (t:=28) ?hr ?_;(case hd=>rfl);(case hg=>rfl);(case hr=>go_simp;try rfl);intro Ab hg w10 hbox hb;have Aa:=A_ (hbox);have Ad:=A_ (gw_ (w:=w) hg bb_);have Ae:=A_ (gw_ (w:=w) hg bb_);replace HB:=A_ (below_step bb_ hb);clear hb hbox hg;have hcz11_0 : w10.cell? ⟨Ab,0,none⟩ = some (.int .i64 a0_0):=blk_cell Aa.out 0;have hcz11_1 : w10.cell? ⟨Ab,1,none⟩ = some (.slice A0_1 l0_1.length c0_1):=blk_cell Aa.out 1;have hfz11_0:=blk_frozen Aa.out 0;have hfz11_1:=blk_frozen Aa.out 1)|(go_at_call 127;(with_reducible refine (Abl.calls a0_0 0 10 true _ A2.out).mono ?_);rintro e w' ⟨rfl,⟨nd,rfl⟩⟩;(try first|exact ⟨rfl,_,World.drewN_drewN _ _ _⟩|exact ⟨rfl,_,Eq.trans (World.drewN_drewN _ _ _) (congrArg (World.drewN _) (Nat.add_assoc _ _ _))⟩)));try go_wp2_with (first|((with_reducible refine gate_dst (N:=1) rfl ?_);(try (refine gate_guard (by rfl) ?_;dsimp only));refine box_event ?hg (N:=1) ?hd (cs:=#[.int .i64 a0_0,.slice A0_1 l0_1.length c0_1]) (t:=28) ?hr ?_;(case hd=>rfl);(case hg=>rfl);(case hr=>go_simp;try rfl);intro Ab hg w10 hbox hb;have Aa:=A_ (hbox);have Ad:=A_ (gw_ (w:=w) hg bb_);have Ae:=A_ (gw_ (w:=w) hg bb_);replace HB:=A_ (below_step bb_ hb);clear hb hbox hg;have hcz11_0 : w10.cell? ⟨Ab,0,none⟩ = some (.int .i64 a0_0):=blk_cell Aa.out 0;have hcz11_1 : w10.cell? ⟨Ab,1,none⟩ = some (.slice A0_1 l0_1.length c0_1):=blk_cell Aa.out 1;have hfz11_0:=blk_frozen Aa.out 0;have hfz11_1:=blk_frozen Aa.out 1)|(go_at_call 127;(with_reducible refine (Abl.calls a0_0 0 10 true _ A2.out).mono ?_);rintro e w' ⟨rfl,⟨nd,rfl⟩⟩;(try first|exact ⟨rfl,_,World.drewN_drewN _ _ _⟩|exact ⟨rfl,_,Eq.trans (World.drewN_drewN _ _ _) (congrArg (World.drewN _) (Nat.add_assoc _ _ _))⟩))))
   go_ret
   exact ⟨by first|rfl|(simp [errW_none,errW_some] <;> rfl)|(simp [*,errW_none,errW_some] <;> rfl),bb_⟩
 ·replace c3:=Bool.eq_false_iff.mpr c3;subst c3;have H1 : (some false) = some r:=by rw [if_neg (show ¬ (false = true) by decide)] at H;exact H
  clear H;have H:=H1;clear H1;obtain rfl:=Option.some.inj H;go_enter Tryd.func207,Tryd.ntmps207
  go_wp2_with (first|((with_reducible refine gate_dst (N:=1) rfl ?_);(try (refine gate_guard (by rfl) ?_;dsimp only));refine box_event ?hg (N:=1) ?hd (cs:=#[.int .i64 a0_0,.slice A0_1 l0_1.length c0_1]) (t:=28) ?hr ?_;(case hd=>rfl);(case hg=>rfl);(case hr=>go_simp;try rfl);intro Ab hg w12 hbox hb;have Aa:=A_ (hbox);have Ad:=A_ (gw_ (w:=w) hg bb_);have Ae:=A_ (gw_ (w:=w) hg bb_);replace HB:=A_ (below_step bb_ hb);clear hb hbox hg;have hcz13_0 : w12.cell? ⟨Ab,0,none⟩ = some (.int .i64 a0_0):=blk_cell Aa.out 0;have hcz13_1 : w12.cell? ⟨Ab,1,none⟩ = some (.slice A0_1 l0_1.length c0_1):=blk_cell Aa.out 1;have hfz13_0:=blk_frozen Aa.out 0;have hfz13_1:=blk_frozen Aa.out 1)|(go_at_call 127;(with_reducible refine (Abl.calls a0_0 0 10 false _ A2.out).mono ?_);rintro e w' ⟨rfl,⟨nd,rfl⟩⟩;(try first|exact ⟨rfl,_,World.drewN_drewN _ _ _⟩|exact ⟨rfl,_,Eq.trans (World.drewN_drewN _ _ _) (congrArg (World.drewN _) (Nat.add_assoc _ _ _))⟩)))
  repeat (go_quiet (first|((with_reducible refine gate_dst (N:=1) rfl ?_);(try (refine gate_guard (by rfl) ?_;dsimp only));refine box_event ?hg (N:=1) ?hd (cs:=#[.int .i64 a0_0,.slice A0_1 l0_1.length c0_1]) (t:=28) ?hr ?_;(case hd=>rfl);(case hg=>rfl);(case hr=>go_simp;try rfl);intro Ab hg w12 hbox hb;have Aa:=A_ (hbox);have Ad:=A_ (gw_ (w:=w) hg bb_);have Ae:=A_ (gw_ (w:=w) hg bb_);replace HB:=A_ (below_step bb_ hb);clear hb hbox hg;have hcz13_0 : w12.cell? ⟨Ab,0,none⟩ = some (.int .i64 a0_0):=blk_cell Aa.out 0;have hcz13_1 : w12.cell? ⟨Ab,1,none⟩ = some (.slice A0_1 l0_1.length c0_1):=blk_cell Aa.out 1;have hfz13_0:=blk_frozen Aa.out 0;have hfz13_1:=blk_frozen Aa.out 1)|(go_at_call 127;(with_reducible refine (Abl.calls a0_0 0 10 false _ A2.out).mono ?_);rintro e w' ⟨rfl,⟨nd,rfl⟩⟩;(try first|exact ⟨rfl,_,World.drewN_drewN _ _ _⟩|exact ⟨rfl,_,Eq.trans (World.drewN_drewN _ _ _) (congrArg (World.drewN _) (Nat.add_assoc _ _ _))⟩)));try go_wp2_with (first|((with_reducible refine gate_dst (N:=1) rfl ?_);(try (refine gate_guard (by rfl) ?_;dsimp only));refine box_event ?hg (N:=1) ?hd (cs:=#[.int .i64 a0_0,.slice A0_1 l0_1.length c0_1]) (t:=28) ?hr ?_;(case hd=>rfl);(case hg=>rfl);(case hr=>go_simp;try rfl);intro Ab hg w12 hbox hb;have Aa:=A_ (hbox);have Ad:=A_ (gw_ (w:=w) hg bb_);have Ae:=A_ (gw_ (w:=w) hg bb_);replace HB:=A_ (below_step bb_ hb);clear hb hbox hg;have hcz13_0 : w12.cell? ⟨Ab,0,none⟩ = some (.int .i64 a0_0):=blk_cell Aa.out 0;have hcz13_1 : w12.cell? ⟨Ab,1,none⟩ = some (.slice A0_1 l0_1.length c0_1):=blk_cell Aa.out 1;have hfz13_0:=blk_frozen Aa.out 0;have hfz13_1:=blk_frozen Aa.out 1)|(go_at_call 127;(with_reducible refine (Abl.calls a0_0 0 10 false _ A2.out).mono ?_);rintro e w' ⟨rfl,⟨nd,rfl⟩⟩;(try first|exact ⟨rfl,_,World.drewN_drewN _ _ _⟩|exact ⟨rfl,_,Eq.trans (World.drewN_drewN _ _ _) (congrArg (World.drewN _) (Nat.add_assoc _ _ _))⟩))))
  go_ret
  exact ⟨by first|rfl|(simp [errW_none,errW_some] <;> rfl)|(simp [*,errW_none,errW_some] <;> rfl),bb_⟩
mutual
def Aan.l0 : Nat → List Int → Int → Int → Int → List Int → Option (Bool)
 | 0,_,_,_,_,_=>none
 | k + 1,x11,x12,x13,x113000,x113001=>if x13 < x12 then (if 0 ≤ x13 then (if x13 < (x11.length : Int) then ((Abc.f (rd x11 x13) x13).bind fun t115=>(if t115 = true then (some false) else ((Aa2.f k (rd x11 x13)).bind fun t116=>(Aan.l1 k (rd x11 x13) x11 x12 x13 t116 (t116.length : Int) 0 x113000 x113001)))) else (none)) else (none)) else (some true)
def Aan.l1 : Nat → Int → List Int → Int → Int → List Int → Int → Int → Int → List Int → Option (Bool)
 | 0,_,_,_,_,_,_,_,_,_=>none
 | k + 1,x4,x11,x12,x13,x22,x23,x24,x113000,x113001=>if x24 < x23 then (if 0 ≤ x24 then (if x24 < (x22.length : Int) then (if 0 ≤ (rd x22 x24) then (if (rd x22 x24) < (x113001.length : Int) then (if (Go.bits .andNot .i64 (rd x113001 (rd x22 x24)) x4) = 0 then (Aan.l1 k x4 x11 x12 x13 x22 x23 (wrap64 (x24 + 1)) x113000 x113001) else (some false)) else (none)) else (none)) else (none)) else (none)) else (Aan.l0 k x11 x12 (wrap64 (x13 + 1)) x113000 x113001)
end
def Aan.f (k : Nat) (a0_0 : Int) (l0_1 : List Int) : Option (Bool) := (Abe.f k a0_0 l0_1).bind fun t113 => (if t113 = true then (Aan.l0 k l0_1 (l0_1.length : Int) 0 a0_0 l0_1) else (some false))
set_option maxHeartbeats 8000000 in
set_option maxRecDepth 100000 in
theorem Aan.calls (k : Nat) (a0_0 : Int) (A0_1 : Option Addr) (c0_1 : Nat) (l0_1 : List Int) (r : Bool) (w : World) (hr0_1 : Kd.C (Kd.int .i64) w A0_1 l0_1.length l0_1) (hc0_1 : l0_1.length ≤ c0_1) (h : Aan.f k a0_0 l0_1 = some r) :
 Calls Tryd.prog 142 #[.agg #[.int .i64 a0_0,.slice A0_1 l0_1.length c0_1]] w fun e w'=>e = .returned (.bool r) ∧ Below w.heap.size w w':=by
 have hu28:=Tryd.underlying28;have HR0_1:=A_ hr0_1;have HC0_1:=A_ hc0_1;clear hr0_1 hc0_1;have HB:=A_ (Below.refl w.heap.size w);have H : ((Abe.f k a0_0 l0_1).bind fun Am=>(if Am = true then (Aan.l0 k l0_1 (l0_1.length : Int) 0 a0_0 l0_1) else (some false))) = some r:=h;clear h;replace H:=Option.bind_eq_some_iff.mp H;obtain ⟨Am,A20,H⟩:=H;replace H : (if Am = true then (Aan.l0 k l0_1 (l0_1.length : Int) 0 a0_0 l0_1) else (some false)) = some r:=H;have A2:=A_ A20;clear A20;by_cases c3 : Am = true
 ·subst c3;have H1 : (Aan.l0 k l0_1 (l0_1.length : Int) 0 a0_0 l0_1) = some r:=by rw [if_pos rfl] at H;exact H
  clear H;have H:=H1;clear H1;have H':=A_ H;clear H;go_enter Tryd.func142,Tryd.ntmps142
  go_wp2_with (first|((with_reducible refine gate_dst (N:=1) rfl ?_);refine box_event ?hg (N:=1) ?hd (cs:=#[.int .i64 a0_0,.slice A0_1 l0_1.length c0_1]) (t:=28) ?hr ?_;(case hd=>rfl);(case hg=>rfl);(case hr=>go_simp;try rfl);intro Ac hg w4 hbox hb;have Aa:=A_ (hbox);have Aw:=A_ (gw_ (w:=w) hg bb_);have Ax:=A_ (gw_ (w:=w) hg bb_);replace HB:=A_ (below_step bb_ hb);clear hb hbox hg;have hcz5_0 : w4.cell? ⟨Ac,0,none⟩ = some (.int .i64 a0_0):=blk_cell Aa.out 0;have hcz5_1 : w4.cell? ⟨Ac,1,none⟩ = some (.slice A0_1 l0_1.length c0_1):=blk_cell Aa.out 1;have hfz5_0:=blk_frozen Aa.out 0;have hfz5_1:=blk_frozen Aa.out 1)|((with_reducible refine gate_callee (f:=207) rfl ?_);refine goesL_ (some 8) rfl rfl Tryd.func207 (by kernel_rfl) rfl #[.agg #[.int .i64 a0_0,.slice A0_1 l0_1.length c0_1]] rfl au_ ?_;(with_reducible refine (Abe.calls k a0_0 _ _ l0_1 true _ ?side1 ?side2 A2.out).mono ?_);(case side1=>exact cl_ (Kd.C_below HR0_1.out HB.out));(case side2=>exact HC0_1.out);rintro e w6 ⟨rfl,hb⟩;refine ⟨_,rfl,?_⟩;replace Aa:=bz Aa hb;replace HB:=A_ (below_step bb_ hb);(try clear hb);(try clear hb2);(try clear hk);(try clear hi);have hcz7_0 : w6.cell? ⟨Ac,0,none⟩ = some (.int .i64 a0_0):=blk_cell Aa.out 0;have hcz7_1 : w6.cell? ⟨Ac,1,none⟩ = some (.slice A0_1 l0_1.length c0_1):=blk_cell Aa.out 1;have hfz7_0:=blk_frozen Aa.out 0;have hfz7_1:=blk_frozen Aa.out 1))
  go_loopg [13] k (fun kq v13 w'=>∃ (x13_1 : Int),v13 = .int .i64 x13_1 ∧ Aside0 (Aan.l0 kq l0_1 (l0_1.length : Int) x13_1 a0_0 l0_1 = some r) ∧ Aside0 (kq ≤ k) ∧ Aside0 (w'.heap[Ac]? = some (.cells #[.int .i64 a0_0,(.slice A0_1 l0_1.length c0_1)] 28 (0,0))) ∧ Aside0 (Below w.heap.size w w'))
  case atStart=>exact ⟨(0),(by first|rfl|(simp;done)|(simp [*];done)),H',⟨Nat.le_refl _⟩,⟨bl_ Aa⟩,⟨bb_⟩⟩
  case round =>
   clear H';try clear c1
   try clear c2
   try clear p2
   try clear c3
   try clear hcz5_0
   try clear hcz5_1
   try clear hcz7_0
   try clear hcz7_1
   try clear hfz5_0
   try clear hfz5_1
   try clear hfz7_0
   try clear hfz7_1
   obtain ⟨x13_1,rfl,HA,HK1,Aa,HB⟩:=hrel;cases gk with
   | zero=>exact absurd HA.out (by simp [Aan.l0])
   | succ k1 =>
    have H:=HA.out;clear HA;simp only [Aan.l0] at H
    by_cases c8 : x13_1 < (l0_1.length : Int)
    ·rw [if_pos c8] at H;have c8b0 : decide (x13_1 < (l0_1.length : Int)) = true:=decide_eq_true c8;clear c8;by_cases c9 : 0 ≤ x13_1
     ·rw [if_pos c9] at H;have c9b0 : decide (0 ≤ x13_1) = true:=decide_eq_true c9;clear c9;by_cases c10 : x13_1 < (l0_1.length : Int)
      ·rw [if_pos c10] at H;have c10b0 : decide (x13_1 < (l0_1.length : Int)) = true:=decide_eq_true c10;clear c10;replace H:=Option.bind_eq_some_iff.mp H;obtain ⟨At,Au,H⟩:=H;replace H : (if At = true then (some false) else ((Aa2.f k1 (rd l0_1 x13_1)).bind fun Ab=>(Aan.l1 k1 (rd l0_1 x13_1) l0_1 (l0_1.length : Int) x13_1 Ab (Ab.length : Int) 0 a0_0 l0_1))) = some r:=H;have A11:=A_ Au;clear Au;by_cases c12 : At = true
       ·subst c12;have H1 : (some false) = some r:=by rw [if_pos rfl] at H;exact H
        clear H;have H:=H1;clear H1;obtain rfl:=Option.some.inj H;have Af : 0 ≤ (x13_1 : Int):=of_decide_eq_true (by first|(with_reducible assumption)|assumption);have Ag : x13_1 < (l0_1.length : Int):=of_decide_eq_true (by first|(with_reducible assumption)|assumption);obtain ⟨Ah,Ao,Ad⟩:=Kd.at_int HR0_1.out x13_1 Af Ag;cases Ao
        (try replace Ad:=(HB.out.cell (World.block_lt_of_cell? w _ Ad)).trans Ad);replace Af:=eq_true Af;replace Ag:=eq_true Ag;go_wp2_with (first|((with_reducible refine gate_callee (f:=192) rfl ?_);refine goesL_ (some 20) rfl rfl Tryd.func192 (by kernel_rfl) rfl #[.int .i64 (rd l0_1 x13_1),.int .i64 x13_1] rfl au_ ?_;(with_reducible refine (Abc.calls (rd l0_1 x13_1) x13_1 true _ A11.out).mono ?_);rintro e w' ⟨rfl,⟨nd,rfl⟩⟩;refine ⟨_,rfl,?_⟩))
        go_ret
        exact ⟨by first|rfl|(simp [errW_none,errW_some] <;> rfl)|(simp [*,errW_none,errW_some] <;> rfl),bb_⟩
       ·replace c12:=Bool.eq_false_iff.mpr c12;subst c12;have H1 : ((Aa2.f k1 (rd l0_1 x13_1)).bind fun Ab=>(Aan.l1 k1 (rd l0_1 x13_1) l0_1 (l0_1.length : Int) x13_1 Ab (Ab.length : Int) 0 a0_0 l0_1)) = some r:=by rw [if_neg (show ¬ (false = true) by decide)] at H;exact H
        clear H;have H:=H1;clear H1;replace H:=Option.bind_eq_some_iff.mp H;obtain ⟨Ab,Av,H⟩:=H;replace H : (Aan.l1 k1 (rd l0_1 x13_1) l0_1 (l0_1.length : Int) x13_1 Ab (Ab.length : Int) 0 a0_0 l0_1) = some r:=H;have A13:=A_ Av;clear Av;have H':=A_ H;clear H;have Af : 0 ≤ (x13_1 : Int):=of_decide_eq_true (by first|(with_reducible assumption)|assumption);have Ag : x13_1 < (l0_1.length : Int):=of_decide_eq_true (by first|(with_reducible assumption)|assumption);obtain ⟨Ah,Ao,Ad⟩:=Kd.at_int HR0_1.out x13_1 Af Ag;cases Ao
        (try replace Ad:=(HB.out.cell (World.block_lt_of_cell? w _ Ad)).trans Ad);replace Af:=eq_true Af;replace Ag:=eq_true Ag;go_wp2_with (first|((with_reducible refine gate_callee (f:=192) rfl ?_);refine goesL_ (some 20) rfl rfl Tryd.func192 (by kernel_rfl) rfl #[.int .i64 (rd l0_1 x13_1),.int .i64 x13_1] rfl au_ ?_;(with_reducible refine (Abc.calls (rd l0_1 x13_1) x13_1 false _ A11.out).mono ?_);rintro e w' ⟨rfl,⟨nd,rfl⟩⟩;refine ⟨_,rfl,?_⟩)|((with_reducible refine gate_callee (f:=191) rfl ?_);refine goesL_ (some 22) rfl rfl Tryd.func191 (by kernel_rfl) rfl #[.int .i64 (rd l0_1 x13_1)] rfl au_ ?_;(with_reducible refine (Aa2.calls k1 (rd l0_1 x13_1) Ab _ A13.out).mono ?_);rintro e w14 ⟨Az,rfl,ho0,hb⟩;refine ⟨_,rfl,?_⟩;have Ar:=A_ (Kd.R_lower ho0 (below_size bb_));replace Aa:=bz Aa hb;replace HB:=A_ (below_step bb_ hb);(try clear hb);(try clear hb2);(try clear hk);(try clear hi);(try clear ho0);obtain ⟨Ao15,co15,eo15⟩:=Kd.R_slice Ar.out;subst eo15))
        go_loopg [24] k1 (fun kq v24 w'=>∃ (x24_2 : Int),v24 = .int .i64 x24_2 ∧ Aside0 (Aan.l1 kq (rd l0_1 x13_1) l0_1 (l0_1.length : Int) x13_1 Ab (Ab.length : Int) x24_2 a0_0 l0_1 = some r) ∧ Aside0 (kq ≤ k1) ∧ Aside0 (Kd.R (Kd.int .i64) 3 w' w.heap.size (fun _=>True) (.slice Ao15 Ab.length co15) Ab) ∧ Aside0 (w'.heap[Ac]? = some (.cells #[.int .i64 a0_0,(.slice (some Ah) l0_1.length c0_1)] 28 (0,0))) ∧ Aside0 (Below w.heap.size w w'))
        case atStart=>exact ⟨(0),(by first|rfl|(simp;done)|(simp [*];done)),H',⟨Nat.le_refl _⟩,⟨rl_ Ar⟩,⟨bl_ Aa⟩,⟨bb_⟩⟩
        case round =>
         clear H';try clear c1
         try clear p1
         try clear q1
         try clear hx1
         try clear c2
         try clear p2
         try clear c3
         try clear c8
         try clear c8b0
         try clear c9
         try clear c9b0
         try clear c10
         try clear c10b0
         try clear p11
         try clear q11
         try clear hx11
         try clear c12
         try clear c14
         try clear hcz5_0
         try clear hcz5_1
         try clear hcz7_0
         try clear hcz7_1
         try clear hfz5_0
         try clear hfz5_1
         try clear hfz7_0
         try clear hfz7_1
         try clear Ad
         try clear Af
         try clear p2
         try clear Ag
         obtain ⟨x24_2,rfl,HA,HK2,HO_22,Aa,HB⟩:=hrel;cases gk with
         | zero=>exact absurd HA.out (by simp [Aan.l1])
         | succ k2 =>
          have H:=HA.out;clear HA;simp only [Aan.l1] at H
          by_cases c16 : x24_2 < (Ab.length : Int)
          ·rw [if_pos c16] at H;have c16b0 : decide (x24_2 < (Ab.length : Int)) = true:=decide_eq_true c16;clear c16;by_cases c17 : 0 ≤ x24_2
           ·rw [if_pos c17] at H;have c17b0 : decide (0 ≤ x24_2) = true:=decide_eq_true c17;clear c17;by_cases c18 : x24_2 < (Ab.length : Int)
            ·rw [if_pos c18] at H;have c18b0 : decide (x24_2 < (Ab.length : Int)) = true:=decide_eq_true c18;clear c18;by_cases c19 : 0 ≤ (rd Ab x24_2)
             ·rw [if_pos c19] at H;have c19b0 : decide (0 ≤ (rd Ab x24_2)) = true:=decide_eq_true c19;clear c19;by_cases c20 : (rd Ab x24_2) < (l0_1.length : Int)
              ·rw [if_pos c20] at H;have c20b0 : decide ((rd Ab x24_2) < (l0_1.length : Int)) = true:=decide_eq_true c20;clear c20;by_cases c21 : (Go.bits .andNot .i64 (rd l0_1 (rd Ab x24_2)) (rd l0_1 x13_1)) = 0
               ·rw [if_pos c21] at H;have c21b0 : ((Go.bits .andNot .i64 (rd l0_1 (rd Ab x24_2)) (rd l0_1 x13_1)) == 0) = true:=beq_iff_eq.mpr c21;have c21b1 : ((Go.bits .andNot .i64 (rd l0_1 (rd Ab x24_2)) (rd l0_1 x13_1)) != 0) = false:=bne_eq_false_iff_eq.mpr c21;clear c21;have H':=A_ H;clear H;have Ai : 0 ≤ (x24_2 : Int):=of_decide_eq_true (by first|(with_reducible assumption)|assumption);have Aj : x24_2 < (Ab.length : Int):=of_decide_eq_true (by first|(with_reducible assumption)|assumption);obtain ⟨Ay,Ap,As⟩:=Kd.at_int (Kd.R_reads' HO_22.out).2.2 x24_2 Ai Aj;cases Ap
                replace Ai:=eq_true Ai;replace Aj:=eq_true Aj;have hcz22_0 : wr.cell? ⟨Ac,0,none⟩ = some (.int .i64 a0_0):=blk_cell Aa.out 0;have hcz22_1 : wr.cell? ⟨Ac,1,none⟩ = some (.slice (some Ah) l0_1.length c0_1):=blk_cell Aa.out 1;have hfz22_0:=blk_frozen Aa.out 0;have hfz22_1:=blk_frozen Aa.out 1;have Ak : 0 ≤ ((rd Ab x24_2) : Int):=of_decide_eq_true (by first|(with_reducible assumption)|assumption);have Al : (rd Ab x24_2) < (l0_1.length : Int):=of_decide_eq_true (by first|(with_reducible assumption)|assumption);obtain ⟨An,Aq,Ae⟩:=Kd.at_int HR0_1.out (rd Ab x24_2) Ak Al;obtain rfl : Ah = An:=(by injection Aq);(try replace Ae:=(HB.out.cell (World.block_lt_of_cell? w _ Ae)).trans Ae);replace Ak:=eq_true Ak;replace Al:=eq_true Al;go_wp2
                go_roundg k2
                case measure=>have:=HK1.out;have:=HK2.out;omega
                case rel=>exact ⟨(wrap64 (x24_2 + 1)),(by first|rfl|(simp;done)|(simp [*];done)),H',⟨by have:=HK1.out;have:=HK2.out;omega⟩,⟨rl_ HO_22⟩,⟨bl_ Aa⟩,⟨bb_⟩⟩
               ·rw [if_neg c21] at H;have c21b0 : ((Go.bits .andNot .i64 (rd l0_1 (rd Ab x24_2)) (rd l0_1 x13_1)) == 0) = false:=beq_eq_false_iff_ne.mpr c21;have c21b1 : ((Go.bits .andNot .i64 (rd l0_1 (rd Ab x24_2)) (rd l0_1 x13_1)) != 0) = true:=bne_iff_ne.mpr c21;obtain rfl:=Option.some.inj H;have Ai : 0 ≤ (x24_2 : Int):=of_decide_eq_true (by first|(with_reducible assumption)|assumption);have Aj : x24_2 < (Ab.length : Int):=of_decide_eq_true (by first|(with_reducible assumption)|assumption);obtain ⟨Ay,Ap,As⟩:=Kd.at_int (Kd.R_reads' HO_22.out).2.2 x24_2 Ai Aj;cases Ap
                replace Ai:=eq_true Ai;replace Aj:=eq_true Aj;have hcz23_0 : wr.cell? ⟨Ac,0,none⟩ = some (.int .i64 a0_0):=blk_cell Aa.out 0;have hcz23_1 : wr.cell? ⟨Ac,1,none⟩ = some (.slice (some Ah) l0_1.length c0_1):=blk_cell Aa.out 1;have hfz23_0:=blk_frozen Aa.out 0;have hfz23_1:=blk_frozen Aa.out 1;have Ak : 0 ≤ ((rd Ab x24_2) : Int):=of_decide_eq_true (by first|(with_reducible assumption)|assumption);have Al : (rd Ab x24_2) < (l0_1.length : Int):=of_decide_eq_true (by first|(with_reducible assumption)|assumption);obtain ⟨An,Aq,Ae⟩:=Kd.at_int HR0_1.out (rd Ab x24_2) Ak Al;obtain rfl : Ah = An:=(by injection Aq);(try replace Ae:=(HB.out.cell (World.block_lt_of_cell? w _ Ae)).trans Ae);replace Ak:=eq_true Ak;replace Al:=eq_true Al;go_wp2
                go_ret
                exact ⟨by first|rfl|(simp [errW_none,errW_some] <;> rfl)|(simp [*,errW_none,errW_some] <;> rfl),bb_⟩
              ·rw [if_neg c20] at H;exact absurd H (by simp)
             ·rw [if_neg c19] at H;exact absurd H (by simp)
            ·rw [if_neg c18] at H;exact absurd H (by simp)
           ·rw [if_neg c17] at H;exact absurd H (by simp)
          ·rw [if_neg c16] at H;have c16b0 : decide (x24_2 < (Ab.length : Int)) = false:=decide_eq_false c16;clear c16;have H':=A_ H;clear H;go_wp2
           go_roundg k2
           case measure=>have:=HK1.out;have:=HK2.out;omega
           case rel=>exact ⟨(wrap64 (x13_1 + 1)),(by first|rfl|(simp;done)|(simp [*];done)),H',⟨by have:=HK1.out;have:=HK2.out;omega⟩,⟨bl_ Aa⟩,⟨bb_⟩⟩
      ·rw [if_neg c10] at H;exact absurd H (by simp)
     ·rw [if_neg c9] at H;exact absurd H (by simp)
    ·rw [if_neg c8] at H;have c8b0 : decide (x13_1 < (l0_1.length : Int)) = false:=decide_eq_false c8;clear c8;obtain rfl:=Option.some.inj H;go_wp2
     go_ret
     exact ⟨by first|rfl|(simp [errW_none,errW_some] <;> rfl)|(simp [*,errW_none,errW_some] <;> rfl),bb_⟩
 ·replace c3:=Bool.eq_false_iff.mpr c3;subst c3;have H1 : (some false) = some r:=by rw [if_neg (show ¬ (false = true) by decide)] at H;exact H
  clear H;have H:=H1;clear H1;obtain rfl:=Option.some.inj H;go_enter Tryd.func142,Tryd.ntmps142
  go_wp2_with (first|((with_reducible refine gate_dst (N:=1) rfl ?_);refine box_event ?hg (N:=1) ?hd (cs:=#[.int .i64 a0_0,.slice A0_1 l0_1.length c0_1]) (t:=28) ?hr ?_;(case hd=>rfl);(case hg=>rfl);(case hr=>go_simp;try rfl);intro Ac hg w24 hbox hb;have Aa:=A_ (hbox);have Aw:=A_ (gw_ (w:=w) hg bb_);have Ax:=A_ (gw_ (w:=w) hg bb_);replace HB:=A_ (below_step bb_ hb);clear hb hbox hg;have hcz25_0 : w24.cell? ⟨Ac,0,none⟩ = some (.int .i64 a0_0):=blk_cell Aa.out 0;have hcz25_1 : w24.cell? ⟨Ac,1,none⟩ = some (.slice A0_1 l0_1.length c0_1):=blk_cell Aa.out 1;have hfz25_0:=blk_frozen Aa.out 0;have hfz25_1:=blk_frozen Aa.out 1)|((with_reducible refine gate_callee (f:=207) rfl ?_);refine goesL_ (some 8) rfl rfl Tryd.func207 (by kernel_rfl) rfl #[.agg #[.int .i64 a0_0,.slice A0_1 l0_1.length c0_1]] rfl au_ ?_;(with_reducible refine (Abe.calls k a0_0 _ _ l0_1 false _ ?side1 ?side2 A2.out).mono ?_);(case side1=>exact cl_ (Kd.C_below HR0_1.out HB.out));(case side2=>exact HC0_1.out);rintro e w26 ⟨rfl,hb⟩;refine ⟨_,rfl,?_⟩;replace Aa:=bz Aa hb;replace HB:=A_ (below_step bb_ hb);(try clear hb);(try clear hb2);(try clear hk);(try clear hi)))
  go_ret
  exact ⟨by first|rfl|(simp [errW_none,errW_some] <;> rfl)|(simp [*,errW_none,errW_some] <;> rfl),bb_⟩
def Abo.f (l0 : List Int) : Option (List Int) := (some (([] : List Int) : List Int)).bind fun y175 => (if y175.length + l0.length < 17592186044416 then (some (y175 ++ l0)) else (none))
set_option maxHeartbeats 8000000 in
set_option maxRecDepth 100000 in
theorem Abo.calls (A0 : Option Addr) (c0 : Nat) (l0 : List Int) (r : List Int) (w : World) (hr0 : Kd.C (Kd.int .i64) w A0 l0.length l0) (hc0 : l0.length ≤ c0) (h : Abo.f l0 = some r) :
 Calls Tryd.prog 202 #[.slice A0 l0.length c0] w fun e w'=>∃ v0_ : Value,e = .returned (v0_) ∧ Kd.R (Kd.int .i64) 3 w' w.heap.size (fun _=>True) v0_ r ∧ Below w.heap.size w w':=by
 have HR0:=A_ hr0;have HC0:=A_ hc0;clear hr0 hc0;have HB:=A_ (Below.refl w.heap.size w);have H : ((some (([] : List Int) : List Int)).bind fun Aa=>(if Aa.length + l0.length < 17592186044416 then (some (Aa ++ l0)) else (none))) = some r:=h;clear h;obtain ⟨Aa,Ab⟩ : ∃ y_ : List Int,y_ = (([] : List Int)):=⟨_,rfl⟩;replace H : (if Aa.length + l0.length < 17592186044416 then (some (Aa ++ l0)) else (none)) = some r:=by first|(rw [Ab];with_reducible exact H)|(have H2_:=(Option.bind_some _ _).symm.trans H;rw [Ab];with_reducible exact H2_)|(have H2_:=(Option.bind_some _ _).symm.trans H;with_reducible exact H2_)|with_reducible exact H|(rw [Ab];exact H)|exact H
 have Ad:=A_ Ab;clear Ab;by_cases c2 : Aa.length + l0.length < 17592186044416
 ·rw [if_pos c2] at H;have LMc2:=A_ c2;clear c2;obtain ⟨Ah,Ac⟩ : ∃ y_ : List Int,y_ = (Aa ++ l0):=⟨_,rfl⟩;replace H : (some Ah) = some r:=by first|(rw [Ac];with_reducible exact H)|(have H2_:=(Option.bind_some _ _).symm.trans H;rw [Ac];with_reducible exact H2_)|(have H2_:=(Option.bind_some _ _).symm.trans H;with_reducible exact H2_)|with_reducible exact H|(rw [Ac];exact H)|exact H
  have Af:=A_ Ac;clear Ac;obtain rfl:=Option.some.inj H;go_enter Tryd.func202,Tryd.ntmps202
  go_wp2_with (first|((with_reducible refine gate_dst (N:=3) rfl ?_);refine Kd.R_lit (Kd.int .i64) _ 3 ?hg (N:=3) ?hd (xs:=([] : List Int)) (inner:=[]) (ok:=fun _=>True) (okp:=fun _=>True) ?hr ?hp (fun _ hk=>hk) trivial (Below.refl _ _) (Nat.le_refl _) (by simp) ?_;(case hd=>rfl);(case hg=>rfl);(case hr=>go_simp;try rfl);(case hp=>exact (Reps.none _ _));intro Ai w3 ho4 hb hg_ hnew_;clear hg_ hnew_;(first|rw [← Ad.out] at ho4|(simp only [Int.reduceToNat] at ho4;rw [← Ad.out] at ho4));have Ae:=A_ (Kd.R_lower ho4 (below_size bb_));replace HB:=A_ (below_step bb_ hb);clear hb ho4)|((with_reducible refine gate_builtin (b:=.append) (xs:=#[.tmp 3,.tmp 4]) rfl ?_);at_builtin;refine Kd.R_append_rows (Kd.int .i64) (w0:=w) w.heap.size rfl (.tmp 3) (.tmp 4) 22 3 (.int .i64 0) 8 rfl Tryd.underlying22 info3 rfl (by decide) (by omega) Ai Aa l0 _ _ _ (fun _=>True) (fun _=>False) rfl rfl ?aO ?aR (fun _ _ h=>h) (fun _ h=>h.elim) ?aF ?aB ?aS ?aL ?_;(case aR=>exact cl_ (Kd.C_below HR0.out HB.out));(case aB=>exact bb_);(case aF=>exact (fun _ _=>trivial));(case aO=>exact (rl_ Ae));(case aS=>exact (below_size bb_));(case aL=>have:=LMc2.out;omega);intro Aj w5 ho hb hg hat;rw [← Af.out] at ho;replace HB:=A_ (hb);have Ag:=A_ (ho);clear Ae;clear ho hb hg hat))
  go_ret
  exact ⟨_,by first|rfl|(simp [errW_none,errW_some] <;> rfl)|(simp [*,errW_none,errW_some] <;> rfl),rl_ Ag,bb_⟩
 ·rw [if_neg c2] at H;exact absurd H (by simp)
def Abf.l0 : Nat → List Int → Int → Int → Option (List Int)
 | 0,_,_,_=>none
 | k + 1,x0,x1,x5=>if x5 < (x0.length : Int) then (if 0 ≤ x5 then (if (rd x0 x5) < x1 then (Abf.l0 k x0 x1 (wrap64 (x5 + 1))) else (if (rd x0 x5) = x1 then (some x0) else ((some (([] : List Int) : List Int)).bind fun y539=>(if x5 ≤ (x0.length : Int) then ((some (x0.take (x5 : Int).toNat : List Int)).bind fun y542=>(if y539.length + y542.length < 17592186044416 then ((some (y539 ++ y542 : List Int)).bind fun y546=>(if y546.length < 17592186044416 then ((some (y546 ++ [x1] : List Int)).bind fun y549=>((some (x0.drop (x5 : Int).toNat : List Int)).bind fun y552=>(if y549.length + y552.length < 17592186044416 then (some (y549 ++ y552)) else (none)))) else (none))) else (none))) else (none))))) else (none)) else ((some (([] : List Int) : List Int)).bind fun y559=>(if 0 ≤ x5 then (if x5 ≤ (x0.length : Int) then ((some (x0.take (x5 : Int).toNat : List Int)).bind fun y562=>(if y559.length + y562.length < 17592186044416 then ((some (y559 ++ y562 : List Int)).bind fun y566=>(if y566.length < 17592186044416 then ((some (y566 ++ [x1] : List Int)).bind fun y569=>((some (x0.drop (x5 : Int).toNat : List Int)).bind fun y572=>(if y569.length + y572.length < 17592186044416 then (some (y569 ++ y572)) else (none)))) else (none))) else (none))) else (none)) else (none)))
def Abf.f (k : Nat) (l0 : List Int) (a1 : Int) : Option (List Int) := Abf.l0 k l0 a1 0
set_option maxHeartbeats 8000000 in
set_option maxRecDepth 100000 in
theorem Abf.calls (k : Nat) (P0_ : Nat → Prop) (Ap : Value) (l0 : List Int) (a1 : Int) (r : List Int) (w0 w : World) (hB : Below w0.heap.size w0 w) (ho0 : Kd.R (Kd.int .i64) 3 w w0.heap.size P0_ Ap l0) (h : Abf.f k l0 a1 = some r) :
 Calls Tryd.prog 193 #[Ap,.int .i64 a1] w fun e w'=>∃ v0_ : Value,e = .returned (v0_) ∧ Kd.R (Kd.int .i64) 3 w' w0.heap.size (fun k_=>(P0_ k_ ∨ w.heap.size ≤ k_)) v0_ r ∧ Below w0.heap.size w0 w' ∧ Kept w w' (fun k_=>P0_ k_):=by
 have HO0:=A_ (show Kd.R (Kd.int .i64) 3 w w0.heap.size (fun k_=>(P0_ k_ ∨ w.heap.size ≤ k_)) Ap l0 from Kd.R_mono ho0 (fun k_ hk=>(.inl hk)));have HK:=A_ (Kept.refl w (fun k_=>P0_ k_));have HW0:=A_ hB.size;have HB:=A_ hB;clear hB;have H : (Abf.l0 k l0 a1 0) = some r:=h;clear h;have H':=A_ H;clear H;go_enter Tryd.func193,Tryd.ntmps193
 go_wp2
 go_loopg [5] k (fun kq v5 w'=>∃ (x5_1 : Int),v5 = .int .i64 x5_1 ∧ Aside0 (Abf.l0 kq l0 a1 x5_1 = some r) ∧ Aside0 (kq ≤ k) ∧ Aside0 (Kd.R (Kd.int .i64) 3 w' w0.heap.size (fun k_=>(P0_ k_ ∨ w.heap.size ≤ k_)) Ap l0) ∧ Aside0 (Kept w w' (fun k_=>P0_ k_)) ∧ Aside0 (Below w0.heap.size w0 w'))
 case atStart=>exact ⟨(0),(by first|rfl|(simp;done)|(simp [*];done)),H',⟨Nat.le_refl _⟩,⟨rl_ HO0⟩,⟨by repeat (first|(with_reducible first|exact HK.out|apply Kept.alloc|apply Kept.drewN|apply Kept.drew)|exact HK.out)⟩,⟨bb_⟩⟩
 case round =>
  clear H';try clear c1
  try clear p2
  obtain ⟨x5_1,rfl,HA,HK1,HO_0,HK,HB⟩:=hrel;cases gk with
  | zero => exact absurd HA.out (by simp [Abf.l0])
  | succ k1 =>
   have H:=HA.out;clear HA;simp only [Abf.l0] at H
   by_cases c3 : x5_1 < (l0.length : Int)
   ·rw [if_pos c3] at H;have c3b0 : decide (x5_1 < (l0.length : Int)) = true:=decide_eq_true c3;clear c3;by_cases c4 : 0 ≤ x5_1
    ·rw [if_pos c4] at H;have c4b0 : decide (0 ≤ x5_1) = true:=decide_eq_true c4;clear c4;by_cases c5 : (rd l0 x5_1) < a1
     ·rw [if_pos c5] at H;have c5b0 : decide ((rd l0 x5_1) < a1) = true:=decide_eq_true c5;clear c5;have H':=A_ H;clear H;obtain ⟨Ao6,co6,eo6⟩:=Kd.R_slice HO_0.out;subst eo6;have Ah : 0 ≤ (x5_1 : Int):=of_decide_eq_true (by first|(with_reducible assumption)|assumption);have Ai : x5_1 < (l0.length : Int):=of_decide_eq_true (by first|(with_reducible assumption)|assumption);obtain ⟨Ac,Bg,Bh⟩:=Kd.at_int (Kd.R_reads' HO_0.out).2.2 x5_1 Ah Ai;cases Bg
      replace Ah:=eq_true Ah;replace Ai:=eq_true Ai;go_wp2
      go_roundg k1
      case measure=>have:=HK1.out;omega
      case rel=>exact ⟨(wrap64 (x5_1 + 1)),(by first|rfl|(simp;done)|(simp [*];done)),H',⟨by have:=HK1.out;omega⟩,⟨rl_ HO_0⟩,⟨by repeat (first|(with_reducible first|exact HK.out|apply Kept.alloc|apply Kept.drewN|apply Kept.drew)|exact HK.out)⟩,⟨bb_⟩⟩
     ·rw [if_neg c5] at H;have c5b0 : decide ((rd l0 x5_1) < a1) = false:=decide_eq_false c5;clear c5;by_cases c7 : (rd l0 x5_1) = a1
      ·rw [if_pos c7] at H;have c7b0 : ((rd l0 x5_1) == a1) = true:=beq_iff_eq.mpr c7;have c7b1 : ((rd l0 x5_1) != a1) = false:=bne_eq_false_iff_eq.mpr c7;clear c7;obtain rfl:=Option.some.inj H;obtain ⟨Ao8,co8,eo8⟩:=Kd.R_slice HO_0.out;subst eo8;have Ah : 0 ≤ (x5_1 : Int):=of_decide_eq_true (by first|(with_reducible assumption)|assumption);have Ai : x5_1 < (l0.length : Int):=of_decide_eq_true (by first|(with_reducible assumption)|assumption);obtain ⟨Ac,Bg,Bh⟩:=Kd.at_int (Kd.R_reads' HO_0.out).2.2 x5_1 Ah Ai;cases Bg
       replace Ah:=eq_true Ah;replace Ai:=eq_true Ai;have Al : 0 ≤ (x5_1 : Int):=of_decide_eq_true (by first|(with_reducible assumption)|assumption);have Am : x5_1 < (l0.length : Int):=of_decide_eq_true (by first|(with_reducible assumption)|assumption);obtain ⟨Bi,Bu,B4⟩:=Kd.at_int (Kd.R_reads' HO_0.out).2.2 x5_1 Al Am;obtain rfl : Ac = Bi:=(by injection Bu);replace Al:=eq_true Al;replace Am:=eq_true Am;go_wp2
       go_ret
       exact ⟨_,by first|rfl|(simp [errW_none,errW_some] <;> rfl)|(simp [*,errW_none,errW_some] <;> rfl),rl_ HO_0,bb_,by repeat (first|(with_reducible first|exact HK.out|apply Kept.alloc|apply Kept.drewN|apply Kept.drew)|exact HK.out)⟩
      ·rw [if_neg c7] at H;have c7b0 : ((rd l0 x5_1) == a1) = false:=beq_eq_false_iff_ne.mpr c7;have c7b1 : ((rd l0 x5_1) != a1) = true:=bne_iff_ne.mpr c7;obtain ⟨An,Aq⟩ : ∃ y_ : List Int,y_ = (([] : List Int)):=⟨_,rfl⟩;replace H : (if x5_1 ≤ (l0.length : Int) then ((some (l0.take (x5_1 : Int).toNat : List Int)).bind fun Ad=>(if An.length + Ad.length < 17592186044416 then ((some (An ++ Ad : List Int)).bind fun Aj=>(if Aj.length < 17592186044416 then ((some (Aj ++ [a1] : List Int)).bind fun Ae=>((some (l0.drop (x5_1 : Int).toNat : List Int)).bind fun Aa=>(if Ae.length + Aa.length < 17592186044416 then (some (Ae ++ Aa)) else (none)))) else (none))) else (none))) else (none)) = some r:=by first|(rw [Aq];with_reducible exact H)|(have H2_:=(Option.bind_some _ _).symm.trans H;rw [Aq];with_reducible exact H2_)|(have H2_:=(Option.bind_some _ _).symm.trans H;with_reducible exact H2_)|with_reducible exact H|(rw [Aq];exact H)|exact H
       have Bw:=A_ Aq;clear Aq;have c9b0:=eq_true (of_decide_eq_true (by first|(with_reducible assumption)|assumption) : 0 ≤ x5_1);by_cases c10 : x5_1 ≤ (l0.length : Int)
       ·rw [if_pos c10] at H;have c10b0:=eq_true c10;have c10b1 : decide (x5_1 ≤ (l0.length : Int)) = true:=decide_eq_true c10;clear c10;obtain ⟨Ad,Ar⟩ : ∃ y_ : List Int,y_ = (l0.take (x5_1 : Int).toNat):=⟨_,rfl⟩;replace H : (if An.length + Ad.length < 17592186044416 then ((some (An ++ Ad : List Int)).bind fun Aj=>(if Aj.length < 17592186044416 then ((some (Aj ++ [a1] : List Int)).bind fun Ae=>((some (l0.drop (x5_1 : Int).toNat : List Int)).bind fun Aa=>(if Ae.length + Aa.length < 17592186044416 then (some (Ae ++ Aa)) else (none)))) else (none))) else (none)) = some r:=by first|(rw [Ar];with_reducible exact H)|(have H2_:=(Option.bind_some _ _).symm.trans H;rw [Ar];with_reducible exact H2_)|(have H2_:=(Option.bind_some _ _).symm.trans H;with_reducible exact H2_)|with_reducible exact H|(rw [Ar];exact H)|exact H
        have As:=A_ Ar;clear Ar;by_cases c11 : An.length + Ad.length < 17592186044416
        ·rw [if_pos c11] at H;have LMc11:=A_ c11;clear c11;obtain ⟨Aj,At⟩ : ∃ y_ : List Int,y_ = (An ++ Ad):=⟨_,rfl⟩;replace H : (if Aj.length < 17592186044416 then ((some (Aj ++ [a1] : List Int)).bind fun Ae=>((some (l0.drop (x5_1 : Int).toNat : List Int)).bind fun Aa=>(if Ae.length + Aa.length < 17592186044416 then (some (Ae ++ Aa)) else (none)))) else (none)) = some r:=by first|(rw [At];with_reducible exact H)|(have H2_:=(Option.bind_some _ _).symm.trans H;rw [At];with_reducible exact H2_)|(have H2_:=(Option.bind_some _ _).symm.trans H;with_reducible exact H2_)|with_reducible exact H|(rw [At];exact H)|exact H
         have Ca:=A_ At;clear At;by_cases c12 : Aj.length < 17592186044416
         ·rw [if_pos c12] at H;have LMc12:=A_ c12;clear c12;obtain ⟨Ae,Au⟩ : ∃ y_ : List Int,y_ = (Aj ++ [a1]):=⟨_,rfl⟩;replace H : ((some (l0.drop (x5_1 : Int).toNat : List Int)).bind fun Aa=>(if Ae.length + Aa.length < 17592186044416 then (some (Ae ++ Aa)) else (none))) = some r:=by first|(rw [Au];with_reducible exact H)|(have H2_:=(Option.bind_some _ _).symm.trans H;rw [Au];with_reducible exact H2_)|(have H2_:=(Option.bind_some _ _).symm.trans H;with_reducible exact H2_)|with_reducible exact H|(rw [Au];exact H)|exact H
          have Cb:=A_ Au;clear Au;have c13b0:=eq_true (of_decide_eq_true (by first|(with_reducible assumption)|assumption) : 0 ≤ x5_1);have c14b0:=eq_true (of_decide_eq_true (by first|(with_reducible assumption)|assumption) : x5_1 ≤ (l0.length : Int));obtain ⟨Aa,Av⟩ : ∃ y_ : List Int,y_ = (l0.drop (x5_1 : Int).toNat):=⟨_,rfl⟩;replace H : (if Ae.length + Aa.length < 17592186044416 then (some (Ae ++ Aa)) else (none)) = some r:=by first|(rw [Av];with_reducible exact H)|(have H2_:=(Option.bind_some _ _).symm.trans H;rw [Av];with_reducible exact H2_)|(have H2_:=(Option.bind_some _ _).symm.trans H;with_reducible exact H2_)|with_reducible exact H|(rw [Av];exact H)|exact H
          have Bj:=A_ Av;clear Av;by_cases c15 : Ae.length + Aa.length < 17592186044416
          ·rw [if_pos c15] at H;have LMc15:=A_ c15;clear c15;obtain ⟨Ci,Aw⟩ : ∃ y_ : List Int,y_ = (Ae ++ Aa):=⟨_,rfl⟩;replace H : (some Ci) = some r:=by first|(rw [Aw];with_reducible exact H)|(have H2_:=(Option.bind_some _ _).symm.trans H;rw [Aw];with_reducible exact H2_)|(have H2_:=(Option.bind_some _ _).symm.trans H;with_reducible exact H2_)|with_reducible exact H|(rw [Aw];exact H)|exact H
           have Cc:=A_ Aw;clear Aw;obtain rfl:=Option.some.inj H;obtain ⟨Ao16,co16,eo16⟩:=Kd.R_slice HO_0.out;subst eo16;have Ah : 0 ≤ (x5_1 : Int):=of_decide_eq_true (by first|(with_reducible assumption)|assumption);have Ai : x5_1 < (l0.length : Int):=of_decide_eq_true (by first|(with_reducible assumption)|assumption);obtain ⟨Ac,Bg,Bh⟩:=Kd.at_int (Kd.R_reads' HO_0.out).2.2 x5_1 Ah Ai;cases Bg
           replace Ah:=eq_true Ah;replace Ai:=eq_true Ai;have Al : 0 ≤ (x5_1 : Int):=of_decide_eq_true (by first|(with_reducible assumption)|assumption);have Am : x5_1 < (l0.length : Int):=of_decide_eq_true (by first|(with_reducible assumption)|assumption);obtain ⟨Bi,Bu,B4⟩:=Kd.at_int (Kd.R_reads' HO_0.out).2.2 x5_1 Al Am;obtain rfl : Ac = Bi:=(by injection Bu);replace Al:=eq_true Al;replace Am:=eq_true Am;go_wp2_with (first|((with_reducible refine gate_dst (N:=34) rfl ?_);refine Kd.R_lit (Kd.int .i64) _ 3 ?hg (N:=34) ?hd (xs:=([] : List Int)) (inner:=[]) (ok:=fun _=>True) (okp:=fun _=>True) ?hr ?hp (fun _ hk=>hk) trivial (Below.refl _ _) (Nat.le_refl _) (by simp) ?_;(case hd=>rfl);(case hg=>rfl);(case hr=>go_simp;try rfl);(case hp=>exact (Reps.none _ _));intro Cj w17 ho18 hb hg_ hnew_;clear hg_ hnew_;(first|rw [← Bw.out] at ho18|(simp only [Int.reduceToNat] at ho18;rw [← Bw.out] at ho18));have Bk:=A_ (Kd.R_lower (Kd.R_new' (Kd.R_newM (M:=fun k_=>(P0_ k_ ∨ w.heap.size ≤ k_)) ho18 (by first|exact HK.out.1|exact (show Kept w _ (fun k_=>P0_ k_) from by repeat (first|(with_reducible first|exact HK.out|apply Kept.alloc|apply Kept.drewN|apply Kept.drew)|exact HK.out)).1) (fun k_ h_=>.inr h_)) (Kd.R_lt (rl_ HO_0))) (below_size bb_));replace HO_0:=A_ (Kd.R_elder' (rl_ HO_0) (Kd.R_base ho18) hb);replace HK:=A_ (Kept.below (S:=(fun k_=>P0_ k_)) (by repeat (with_reducible first|exact HK.out|apply Kept.alloc|apply Kept.drewN|apply Kept.drew)) hb);replace HB:=A_ (below_step bb_ hb);clear hb ho18;have q19 : (x5_1 : Int) ≤ ((l0.length : Int) : Int):=of_decide_eq_true (by first|(with_reducible assumption)|assumption);obtain ⟨Cw,Bx,_,hsz19,_⟩:=info_parts info3;have hroom19 : l0.length ≤ co16:=(Kd.R_reads' HO_0.out).2.1;have hC19 : Kd.C (Kd.int .i64) _ (some Ac) l0.length l0:=(Kd.R_reads' HO_0.out).2.2;have hcut19:=cut_to (P:=Tryd.prog) 22 3 .i64 Tryd.underlying22 Bx (some Ac) l0.length co16 x5_1 (of_decide_eq_true (by first|(with_reducible assumption)|assumption)) q19 hroom19;have hr19:=Kd.C_take (m:=(x5_1 : Int).toNat) hC19 (by omega);have hy19 : Ad.length = (x5_1 : Int).toNat:=(by rw [As.out,U_];omega);rw [← As.out] at hr19;rw [← hy19] at hcut19;have Ax:=A_ hr19;have Cs:=A_ (show Ad.length ≤ co16 from by omega);clear hr19 hC19 hroom19 Bx hsz19;have KY19:=A_ hy19;clear hy19;have KL19:=A_ (show (x5_1 : Int).toNat ≤ l0.length from by omega);replace q19:=eq_true q19)|((with_reducible refine gate_builtin (b:=.append) (xs:=#[.tmp 34,.tmp 37]) rfl ?_);at_builtin;refine Kd.R_append_rows (Kd.int .i64) (w0:=w0) w0.heap.size rfl (.tmp 34) (.tmp 37) 22 3 (.int .i64 0) 8 rfl Tryd.underlying22 info3 rfl (by decide) (by omega) Cj An Ad _ _ _ (fun k_=>(P0_ k_ ∨ w.heap.size ≤ k_) ∧ some k_ ≠ (.slice (some Ac) l0.length co16 : Value).ownBlock) (fun _=>False) rfl rfl ?aO ?aR (fun _ _ h=>h) (fun _ h=>h.elim) ?aF ?aB ?aS ?aL ?_;(case aR=>repeat (first|exact (by repeat (first|(with_reducible exact Ax.out)|(with_reducible refine Kd.C_alloc ?_ _)|(with_reducible refine Kd.C_drewN ?_ _)|(with_reducible refine Kd.C_drew ?_)|exact Ax.out))|(with_reducible refine Kd.C_alloc ?_ _)|(with_reducible refine Kd.C_drewN ?_ _)|(with_reducible refine Kd.C_drew ?_)));(case aB=>exact bb_);(case aF=>exact (fun k_ hk=>⟨(.inr (Nat.le_trans (by first|exact HK.out.1|exact (show Kept w _ (fun k_=>P0_ k_) from by repeat (first|(with_reducible first|exact HK.out|apply Kept.alloc|apply Kept.drewN|apply Kept.drew)|exact HK.out)).1) hk)),Kd.fresh' (Kd.R_lt (rl_ HO_0)) k_ hk⟩));(case aO=>exact (rq_ (Kd.R_mono Bk.out (fun _ hk=>⟨hk.1.1,hk.2⟩))));(case aS=>exact (below_size bb_));(case aL=>have:=LMc11.out;omega);intro Ck w20 ho hb hg hat;rw [← Ca.out] at ho;replace HB:=A_ (hb);replace HK:=A_ (Kept.of_grown (S:=(fun k_=>P0_ k_)) hg (by repeat (with_reducible first|exact HK.out|apply Kept.alloc|apply Kept.drewN|apply Kept.drew)) (fun k_ e_=>(Bk.out.1 k_ e_).1.1));replace Ax:=A_ ((show Kd.C (Kd.int .i64) w20 (some Ac) Ad.length Ad from by rw [As.out];exact Kd.C_take (m:=(x5_1 : Int).toNat) ((Kd.R_reads' (Kd.R_after (ok:=(fun k_=>(P0_ k_ ∨ w.heap.size ≤ k_))) (rl_ HO_0) hg hat)).2.2) KL19.out));replace HO_0:=A_ (Kd.R_after (ok:=(fun k_=>(P0_ k_ ∨ w.heap.size ≤ k_))) (rl_ HO_0) hg hat);have Bl:=A_ (ho);clear Bk;clear ho hb hg hat)|((with_reducible refine gate_builtin (b:=.append) (xs:=#[.tmp 39,.tmp 41]) rfl ?_);at_builtin;refine Kd.R_append (Kd.int .i64) (w0:=w0) w0.heap.size rfl (.tmp 39) (.tmp 41) 22 3 (.int .i64 0) 8 rfl Tryd.underlying22 info3 rfl (by decide) (by omega) Ck Aj a1 [.int .i64 a1] (fun k_=>(P0_ k_ ∨ w.heap.size ≤ k_) ∧ some k_ ≠ (.slice (some Ac) l0.length co16 : Value).ownBlock) (fun _=>False) rfl rfl ?aP (fun _ hk=>hk.elim) ?aF ?aO ?aB ?aS ?aL ?_;(case aP=>exact rfl);(case aB=>exact bb_);(case aF=>exact (fun k_ hk=>⟨(.inr (Nat.le_trans (by first|exact HK.out.1|exact (show Kept w _ (fun k_=>P0_ k_) from by repeat (first|(with_reducible first|exact HK.out|apply Kept.alloc|apply Kept.drewN|apply Kept.drew)|exact HK.out)).1) hk)),Kd.fresh' (Kd.R_lt (rl_ HO_0)) k_ hk⟩));(case aO=>exact (rl_ Bl));(case aS=>exact (below_size bb_));(case aL=>have:=LMc12.out;omega);intro Cl w21 ho hb hg hat;rw [← Cb.out] at ho;replace HB:=A_ (hb);replace HK:=A_ (Kept.of_grown (S:=(fun k_=>P0_ k_)) hg (by repeat (with_reducible first|exact HK.out|apply Kept.alloc|apply Kept.drewN|apply Kept.drew)) (fun k_ e_=>(Bl.out.1 k_ e_).1));replace Ax:=A_ ((show Kd.C (Kd.int .i64) w21 (some Ac) Ad.length Ad from by rw [As.out];exact Kd.C_take (m:=(x5_1 : Int).toNat) ((Kd.R_reads' (Kd.R_after (ok:=(fun k_=>(P0_ k_ ∨ w.heap.size ≤ k_))) (rl_ HO_0) hg hat)).2.2) KL19.out));replace HO_0:=A_ (Kd.R_after (ok:=(fun k_=>(P0_ k_ ∨ w.heap.size ≤ k_))) (rl_ HO_0) hg hat);have Bm:=A_ (ho);clear Bl;clear ho hb hg hat;have q22 : (x5_1 : Int) ≤ ((l0.length : Int) : Int):=of_decide_eq_true (by first|(with_reducible assumption)|assumption);obtain ⟨Cx,Bz,_,hsz22,_⟩:=info_parts info3;have hroom22 : l0.length ≤ co16:=(Kd.R_reads' HO_0.out).2.1;have hC22 : Kd.C (Kd.int .i64) _ (some Ac) l0.length l0:=(Kd.R_reads' HO_0.out).2.2;have Cm : (0 : Int) ≤ (x5_1 : Int):=of_decide_eq_true (by first|(with_reducible assumption)|assumption);have hcut22:=cut_from (P:=Tryd.prog) 22 3 .i64 Tryd.underlying22 Bz 1 hsz22 (some Ac) l0.length co16 x5_1 Cm q22;have hr22:=Kd.C_drop (m:=(x5_1 : Int).toNat) (c:=co16) hC22 (by omega) hroom22;obtain ⟨A22,hA22⟩ : ∃ A1,A1 = (if co16 = (x5_1 : Int).toNat then (some Ac) else ((some Ac) : Option Addr).map (·.add ((x5_1 : Int).toNat * 1))):=⟨_,rfl⟩;obtain ⟨c22,hc22⟩ : ∃ c1,c1 = co16 - (x5_1 : Int).toNat:=⟨_,rfl⟩;have hy22 : Aa.length = l0.length - (x5_1 : Int).toNat:=(by rw [Bj.out,S_] <;> omega);rw [show (l0).drop (x5_1 : Int).toNat = Aa from Bj.out.symm] at hr22;replace hr22 : Kd.C (Kd.int .i64) _ A22 Aa.length Aa:=(by rw [hA22];exact hr22);rw [← hy22,← hA22,← hc22] at hcut22;have Bn:=A_ hr22;have Ct:=A_ (show Aa.length ≤ c22 from by rw [hy22,hc22];exact Nat.sub_le_sub_right hroom22 _);clear hr22 hC22 hroom22 Bz hsz22 hc22;have KY22:=A_ hy22;have KA22:=A_ hA22;clear hy22 hA22;have KL22:=A_ (show (x5_1 : Int).toNat ≤ l0.length from by omega);replace q22:=eq_true q22)|((with_reducible refine gate_builtin (b:=.append) (xs:=#[.tmp 43,.tmp 46]) rfl ?_);at_builtin;refine Kd.R_append_rows (Kd.int .i64) (w0:=w0) w0.heap.size rfl (.tmp 43) (.tmp 46) 22 3 (.int .i64 0) 8 rfl Tryd.underlying22 info3 rfl (by decide) (by omega) Cl Ae Aa _ _ _ (fun k_=>(P0_ k_ ∨ w.heap.size ≤ k_) ∧ some k_ ≠ (.slice (some Ac) l0.length co16 : Value).ownBlock) (fun _=>False) rfl rfl ?aO ?aR (fun _ _ h=>h) (fun _ h=>h.elim) ?aF ?aB ?aS ?aL ?_;(case aR=>repeat (first|exact (by repeat (first|(with_reducible exact Bn.out)|(with_reducible refine Kd.C_alloc ?_ _)|(with_reducible refine Kd.C_drewN ?_ _)|(with_reducible refine Kd.C_drew ?_)|exact Bn.out))|(with_reducible refine Kd.C_alloc ?_ _)|(with_reducible refine Kd.C_drewN ?_ _)|(with_reducible refine Kd.C_drew ?_)));(case aB=>exact bb_);(case aF=>exact (fun k_ hk=>⟨(.inr (Nat.le_trans (by first|exact HK.out.1|exact (show Kept w _ (fun k_=>P0_ k_) from by repeat (first|(with_reducible first|exact HK.out|apply Kept.alloc|apply Kept.drewN|apply Kept.drew)|exact HK.out)).1) hk)),Kd.fresh' (Kd.R_lt (rl_ HO_0)) k_ hk⟩));(case aO=>exact (rl_ Bm));(case aS=>exact (below_size bb_));(case aL=>have:=LMc15.out;omega);intro Cy w23 ho hb hg hat;rw [← Cc.out] at ho;replace HB:=A_ (hb);replace HK:=A_ (Kept.of_grown (S:=(fun k_=>P0_ k_)) hg (by repeat (with_reducible first|exact HK.out|apply Kept.alloc|apply Kept.drewN|apply Kept.drew)) (fun k_ e_=>(Bm.out.1 k_ e_).1));replace Ax:=A_ ((show Kd.C (Kd.int .i64) w23 (some Ac) Ad.length Ad from by rw [As.out];exact Kd.C_take (m:=(x5_1 : Int).toNat) ((Kd.R_reads' (Kd.R_after (ok:=(fun k_=>(P0_ k_ ∨ w.heap.size ≤ k_))) (rl_ HO_0) hg hat)).2.2) KL19.out));replace Bn:=A_ ((show Kd.C (Kd.int .i64) w23 A22 Aa.length Aa from by rw [Bj.out,KA22.out];exact Kd.C_drop (m:=(x5_1 : Int).toNat) (c:=co16) ((Kd.R_reads' (Kd.R_after (ok:=(fun k_=>(P0_ k_ ∨ w.heap.size ≤ k_))) (rl_ HO_0) hg hat)).2.2) KL22.out ((Kd.R_reads' (Kd.R_after (ok:=(fun k_=>(P0_ k_ ∨ w.heap.size ≤ k_))) (rl_ HO_0) hg hat)).2.1)));replace HO_0:=A_ (Kd.R_after (ok:=(fun k_=>(P0_ k_ ∨ w.heap.size ≤ k_))) (rl_ HO_0) hg hat);have Cd:=A_ (ho);clear Bm;clear ho hb hg hat))
           go_ret
           exact ⟨_,by first|rfl|(simp [errW_none,errW_some] <;> rfl)|(simp [*,errW_none,errW_some] <;> rfl),rq_ (Kd.R_mono Cd.out (fun _ hk=>hk.1)),bb_,by repeat (first|(with_reducible first|exact HK.out|apply Kept.alloc|apply Kept.drewN|apply Kept.drew)|exact HK.out)⟩
          ·rw [if_neg c15] at H;exact absurd H (by simp)
         ·rw [if_neg c12] at H;exact absurd H (by simp)
        ·rw [if_neg c11] at H;exact absurd H (by simp)
       ·rw [if_neg c10] at H;exact absurd H (by simp)
    ·rw [if_neg c4] at H;exact absurd H (by simp)
   ·rw [if_neg c3] at H;have c3b0 : decide (x5_1 < (l0.length : Int)) = false:=decide_eq_false c3;clear c3;obtain ⟨Ao,Ay⟩ : ∃ y_ : List Int,y_ = (([] : List Int)):=⟨_,rfl⟩;replace H : (if 0 ≤ x5_1 then (if x5_1 ≤ (l0.length : Int) then ((some (l0.take (x5_1 : Int).toNat : List Int)).bind fun Af=>(if Ao.length + Af.length < 17592186044416 then ((some (Ao ++ Af : List Int)).bind fun Ak=>(if Ak.length < 17592186044416 then ((some (Ak ++ [a1] : List Int)).bind fun Ag=>((some (l0.drop (x5_1 : Int).toNat : List Int)).bind fun Ab=>(if Ag.length + Ab.length < 17592186044416 then (some (Ag ++ Ab)) else (none)))) else (none))) else (none))) else (none)) else (none)) = some r:=by first|(rw [Ay];with_reducible exact H)|(have H2_:=(Option.bind_some _ _).symm.trans H;rw [Ay];with_reducible exact H2_)|(have H2_:=(Option.bind_some _ _).symm.trans H;with_reducible exact H2_)|with_reducible exact H|(rw [Ay];exact H)|exact H
    have B0:=A_ Ay;clear Ay;by_cases c24 : 0 ≤ x5_1
    ·rw [if_pos c24] at H;have c24b0:=eq_true c24;have c24b1 : decide (0 ≤ x5_1) = true:=decide_eq_true c24;clear c24;by_cases c25 : x5_1 ≤ (l0.length : Int)
     ·rw [if_pos c25] at H;have c25b0:=eq_true c25;have c25b1 : decide (x5_1 ≤ (l0.length : Int)) = true:=decide_eq_true c25;clear c25;obtain ⟨Af,Az⟩ : ∃ y_ : List Int,y_ = (l0.take (x5_1 : Int).toNat):=⟨_,rfl⟩;replace H : (if Ao.length + Af.length < 17592186044416 then ((some (Ao ++ Af : List Int)).bind fun Ak=>(if Ak.length < 17592186044416 then ((some (Ak ++ [a1] : List Int)).bind fun Ag=>((some (l0.drop (x5_1 : Int).toNat : List Int)).bind fun Ab=>(if Ag.length + Ab.length < 17592186044416 then (some (Ag ++ Ab)) else (none)))) else (none))) else (none)) = some r:=by first|(rw [Az];with_reducible exact H)|(have H2_:=(Option.bind_some _ _).symm.trans H;rw [Az];with_reducible exact H2_)|(have H2_:=(Option.bind_some _ _).symm.trans H;with_reducible exact H2_)|with_reducible exact H|(rw [Az];exact H)|exact H
      have Ba:=A_ Az;clear Az;by_cases c26 : Ao.length + Af.length < 17592186044416
      ·rw [if_pos c26] at H;have LMc26:=A_ c26;clear c26;obtain ⟨Ak,Bb⟩ : ∃ y_ : List Int,y_ = (Ao ++ Af):=⟨_,rfl⟩;replace H : (if Ak.length < 17592186044416 then ((some (Ak ++ [a1] : List Int)).bind fun Ag=>((some (l0.drop (x5_1 : Int).toNat : List Int)).bind fun Ab=>(if Ag.length + Ab.length < 17592186044416 then (some (Ag ++ Ab)) else (none)))) else (none)) = some r:=by first|(rw [Bb];with_reducible exact H)|(have H2_:=(Option.bind_some _ _).symm.trans H;rw [Bb];with_reducible exact H2_)|(have H2_:=(Option.bind_some _ _).symm.trans H;with_reducible exact H2_)|with_reducible exact H|(rw [Bb];exact H)|exact H
       have Ce:=A_ Bb;clear Bb;by_cases c27 : Ak.length < 17592186044416
       ·rw [if_pos c27] at H;have LMc27:=A_ c27;clear c27;obtain ⟨Ag,Bc⟩ : ∃ y_ : List Int,y_ = (Ak ++ [a1]):=⟨_,rfl⟩;replace H : ((some (l0.drop (x5_1 : Int).toNat : List Int)).bind fun Ab=>(if Ag.length + Ab.length < 17592186044416 then (some (Ag ++ Ab)) else (none))) = some r:=by first|(rw [Bc];with_reducible exact H)|(have H2_:=(Option.bind_some _ _).symm.trans H;rw [Bc];with_reducible exact H2_)|(have H2_:=(Option.bind_some _ _).symm.trans H;with_reducible exact H2_)|with_reducible exact H|(rw [Bc];exact H)|exact H
        have Cf:=A_ Bc;clear Bc;have c28b0:=eq_true (of_decide_eq_true (by first|(with_reducible assumption)|assumption) : 0 ≤ x5_1);have c29b0:=eq_true (of_decide_eq_true (by first|(with_reducible assumption)|assumption) : x5_1 ≤ (l0.length : Int));obtain ⟨Ab,Bd⟩ : ∃ y_ : List Int,y_ = (l0.drop (x5_1 : Int).toNat):=⟨_,rfl⟩;replace H : (if Ag.length + Ab.length < 17592186044416 then (some (Ag ++ Ab)) else (none)) = some r:=by first|(rw [Bd];with_reducible exact H)|(have H2_:=(Option.bind_some _ _).symm.trans H;rw [Bd];with_reducible exact H2_)|(have H2_:=(Option.bind_some _ _).symm.trans H;with_reducible exact H2_)|with_reducible exact H|(rw [Bd];exact H)|exact H
        have Bo:=A_ Bd;clear Bd;by_cases c30 : Ag.length + Ab.length < 17592186044416
        ·rw [if_pos c30] at H;have LMc30:=A_ c30;clear c30;obtain ⟨Cn,Be⟩ : ∃ y_ : List Int,y_ = (Ag ++ Ab):=⟨_,rfl⟩;replace H : (some Cn) = some r:=by first|(rw [Be];with_reducible exact H)|(have H2_:=(Option.bind_some _ _).symm.trans H;rw [Be];with_reducible exact H2_)|(have H2_:=(Option.bind_some _ _).symm.trans H;with_reducible exact H2_)|with_reducible exact H|(rw [Be];exact H)|exact H
         have Cg:=A_ Be;clear Be;obtain rfl:=Option.some.inj H;obtain ⟨Ao31,co31,eo31⟩:=Kd.R_slice HO_0.out;subst eo31;go_wp2_with (first|((with_reducible refine gate_dst (N:=34) rfl ?_);refine Kd.R_lit (Kd.int .i64) _ 3 ?hg (N:=34) ?hd (xs:=([] : List Int)) (inner:=[]) (ok:=fun _=>True) (okp:=fun _=>True) ?hr ?hp (fun _ hk=>hk) trivial (Below.refl _ _) (Nat.le_refl _) (by simp) ?_;(case hd=>rfl);(case hg=>rfl);(case hr=>go_simp;try rfl);(case hp=>exact (Reps.none _ _));intro Co w32 ho33 hb hg_ hnew_;clear hg_ hnew_;(first|rw [← B0.out] at ho33|(simp only [Int.reduceToNat] at ho33;rw [← B0.out] at ho33));have Bp:=A_ (Kd.R_lower (Kd.R_new' (Kd.R_newM (M:=fun k_=>(P0_ k_ ∨ w.heap.size ≤ k_)) ho33 (by first|exact HK.out.1|exact (show Kept w _ (fun k_=>P0_ k_) from by repeat (first|(with_reducible first|exact HK.out|apply Kept.alloc|apply Kept.drewN|apply Kept.drew)|exact HK.out)).1) (fun k_ h_=>.inr h_)) (Kd.R_lt (rl_ HO_0))) (below_size bb_));replace HO_0:=A_ (Kd.R_elder' (rl_ HO_0) (Kd.R_base ho33) hb);replace HK:=A_ (Kept.below (S:=(fun k_=>P0_ k_)) (by repeat (with_reducible first|exact HK.out|apply Kept.alloc|apply Kept.drewN|apply Kept.drew)) hb);replace HB:=A_ (below_step bb_ hb);clear hb ho33;have q34 : (x5_1 : Int) ≤ ((l0.length : Int) : Int):=of_decide_eq_true (by first|(with_reducible assumption)|assumption);obtain ⟨Cz,B1,_,hsz34,_⟩:=info_parts info3;have hroom34 : l0.length ≤ co31:=(Kd.R_reads' HO_0.out).2.1;have hC34 : Kd.C (Kd.int .i64) _ Ao31 l0.length l0:=(Kd.R_reads' HO_0.out).2.2;have hcut34:=cut_to (P:=Tryd.prog) 22 3 .i64 Tryd.underlying22 B1 Ao31 l0.length co31 x5_1 (of_decide_eq_true (by first|(with_reducible assumption)|assumption)) q34 hroom34;have hr34:=Kd.C_take (m:=(x5_1 : Int).toNat) hC34 (by omega);have hy34 : Af.length = (x5_1 : Int).toNat:=(by rw [Ba.out,U_];omega);rw [← Ba.out] at hr34;rw [← hy34] at hcut34;have Bf:=A_ hr34;have Cu:=A_ (show Af.length ≤ co31 from by omega);clear hr34 hC34 hroom34 B1 hsz34;have KY34:=A_ hy34;clear hy34;have KL34:=A_ (show (x5_1 : Int).toNat ≤ l0.length from by omega);replace q34:=eq_true q34)|((with_reducible refine gate_builtin (b:=.append) (xs:=#[.tmp 34,.tmp 37]) rfl ?_);at_builtin;refine Kd.R_append_rows (Kd.int .i64) (w0:=w0) w0.heap.size rfl (.tmp 34) (.tmp 37) 22 3 (.int .i64 0) 8 rfl Tryd.underlying22 info3 rfl (by decide) (by omega) Co Ao Af _ _ _ (fun k_=>(P0_ k_ ∨ w.heap.size ≤ k_) ∧ some k_ ≠ (.slice Ao31 l0.length co31 : Value).ownBlock) (fun _=>False) rfl rfl ?aO ?aR (fun _ _ h=>h) (fun _ h=>h.elim) ?aF ?aB ?aS ?aL ?_;(case aR=>repeat (first|exact (by repeat (first|(with_reducible exact Bf.out)|(with_reducible refine Kd.C_alloc ?_ _)|(with_reducible refine Kd.C_drewN ?_ _)|(with_reducible refine Kd.C_drew ?_)|exact Bf.out))|(with_reducible refine Kd.C_alloc ?_ _)|(with_reducible refine Kd.C_drewN ?_ _)|(with_reducible refine Kd.C_drew ?_)));(case aB=>exact bb_);(case aF=>exact (fun k_ hk=>⟨(.inr (Nat.le_trans (by first|exact HK.out.1|exact (show Kept w _ (fun k_=>P0_ k_) from by repeat (first|(with_reducible first|exact HK.out|apply Kept.alloc|apply Kept.drewN|apply Kept.drew)|exact HK.out)).1) hk)),Kd.fresh' (Kd.R_lt (rl_ HO_0)) k_ hk⟩));(case aO=>exact (rq_ (Kd.R_mono Bp.out (fun _ hk=>⟨hk.1.1,hk.2⟩))));(case aS=>exact (below_size bb_));(case aL=>have:=LMc26.out;omega);intro Cp w35 ho hb hg hat;rw [← Ce.out] at ho;replace HB:=A_ (hb);replace HK:=A_ (Kept.of_grown (S:=(fun k_=>P0_ k_)) hg (by repeat (with_reducible first|exact HK.out|apply Kept.alloc|apply Kept.drewN|apply Kept.drew)) (fun k_ e_=>(Bp.out.1 k_ e_).1.1));replace Bf:=A_ ((show Kd.C (Kd.int .i64) w35 Ao31 Af.length Af from by rw [Ba.out];exact Kd.C_take (m:=(x5_1 : Int).toNat) ((Kd.R_reads' (Kd.R_after (ok:=(fun k_=>(P0_ k_ ∨ w.heap.size ≤ k_))) (rl_ HO_0) hg hat)).2.2) KL34.out));replace HO_0:=A_ (Kd.R_after (ok:=(fun k_=>(P0_ k_ ∨ w.heap.size ≤ k_))) (rl_ HO_0) hg hat);have Bq:=A_ (ho);clear Bp;clear ho hb hg hat)|((with_reducible refine gate_builtin (b:=.append) (xs:=#[.tmp 39,.tmp 41]) rfl ?_);at_builtin;refine Kd.R_append (Kd.int .i64) (w0:=w0) w0.heap.size rfl (.tmp 39) (.tmp 41) 22 3 (.int .i64 0) 8 rfl Tryd.underlying22 info3 rfl (by decide) (by omega) Cp Ak a1 [.int .i64 a1] (fun k_=>(P0_ k_ ∨ w.heap.size ≤ k_) ∧ some k_ ≠ (.slice Ao31 l0.length co31 : Value).ownBlock) (fun _=>False) rfl rfl ?aP (fun _ hk=>hk.elim) ?aF ?aO ?aB ?aS ?aL ?_;(case aP=>exact rfl);(case aB=>exact bb_);(case aF=>exact (fun k_ hk=>⟨(.inr (Nat.le_trans (by first|exact HK.out.1|exact (show Kept w _ (fun k_=>P0_ k_) from by repeat (first|(with_reducible first|exact HK.out|apply Kept.alloc|apply Kept.drewN|apply Kept.drew)|exact HK.out)).1) hk)),Kd.fresh' (Kd.R_lt (rl_ HO_0)) k_ hk⟩));(case aO=>exact (rl_ Bq));(case aS=>exact (below_size bb_));(case aL=>have:=LMc27.out;omega);intro Cq w36 ho hb hg hat;rw [← Cf.out] at ho;replace HB:=A_ (hb);replace HK:=A_ (Kept.of_grown (S:=(fun k_=>P0_ k_)) hg (by repeat (with_reducible first|exact HK.out|apply Kept.alloc|apply Kept.drewN|apply Kept.drew)) (fun k_ e_=>(Bq.out.1 k_ e_).1));replace Bf:=A_ ((show Kd.C (Kd.int .i64) w36 Ao31 Af.length Af from by rw [Ba.out];exact Kd.C_take (m:=(x5_1 : Int).toNat) ((Kd.R_reads' (Kd.R_after (ok:=(fun k_=>(P0_ k_ ∨ w.heap.size ≤ k_))) (rl_ HO_0) hg hat)).2.2) KL34.out));replace HO_0:=A_ (Kd.R_after (ok:=(fun k_=>(P0_ k_ ∨ w.heap.size ≤ k_))) (rl_ HO_0) hg hat);have Br:=A_ (ho);clear Bq;clear ho hb hg hat;have q37 : (x5_1 : Int) ≤ ((l0.length : Int) : Int):=of_decide_eq_true (by first|(with_reducible assumption)|assumption);obtain ⟨C0,B2,_,hsz37,_⟩:=info_parts info3;have hroom37 : l0.length ≤ co31:=(Kd.R_reads' HO_0.out).2.1;have hC37 : Kd.C (Kd.int .i64) _ Ao31 l0.length l0:=(Kd.R_reads' HO_0.out).2.2;have Cr : (0 : Int) ≤ (x5_1 : Int):=of_decide_eq_true (by first|(with_reducible assumption)|assumption);have hcut37:=cut_from (P:=Tryd.prog) 22 3 .i64 Tryd.underlying22 B2 1 hsz37 Ao31 l0.length co31 x5_1 Cr q37;have hr37:=Kd.C_drop (m:=(x5_1 : Int).toNat) (c:=co31) hC37 (by omega) hroom37;obtain ⟨A37,hA37⟩ : ∃ A1,A1 = (if co31 = (x5_1 : Int).toNat then Ao31 else (Ao31 : Option Addr).map (·.add ((x5_1 : Int).toNat * 1))):=⟨_,rfl⟩;obtain ⟨c37,hc37⟩ : ∃ c1,c1 = co31 - (x5_1 : Int).toNat:=⟨_,rfl⟩;have hy37 : Ab.length = l0.length - (x5_1 : Int).toNat:=(by rw [Bo.out,S_] <;> omega);rw [show (l0).drop (x5_1 : Int).toNat = Ab from Bo.out.symm] at hr37;replace hr37 : Kd.C (Kd.int .i64) _ A37 Ab.length Ab:=(by rw [hA37];exact hr37);rw [← hy37,← hA37,← hc37] at hcut37;have Bt:=A_ hr37;have Cv:=A_ (show Ab.length ≤ c37 from by rw [hy37,hc37];exact Nat.sub_le_sub_right hroom37 _);clear hr37 hC37 hroom37 B2 hsz37 hc37;have KY37:=A_ hy37;have KA37:=A_ hA37;clear hy37 hA37;have KL37:=A_ (show (x5_1 : Int).toNat ≤ l0.length from by omega);replace q37:=eq_true q37)|((with_reducible refine gate_builtin (b:=.append) (xs:=#[.tmp 43,.tmp 46]) rfl ?_);at_builtin;refine Kd.R_append_rows (Kd.int .i64) (w0:=w0) w0.heap.size rfl (.tmp 43) (.tmp 46) 22 3 (.int .i64 0) 8 rfl Tryd.underlying22 info3 rfl (by decide) (by omega) Cq Ag Ab _ _ _ (fun k_=>(P0_ k_ ∨ w.heap.size ≤ k_) ∧ some k_ ≠ (.slice Ao31 l0.length co31 : Value).ownBlock) (fun _=>False) rfl rfl ?aO ?aR (fun _ _ h=>h) (fun _ h=>h.elim) ?aF ?aB ?aS ?aL ?_;(case aR=>repeat (first|exact (by repeat (first|(with_reducible exact Bt.out)|(with_reducible refine Kd.C_alloc ?_ _)|(with_reducible refine Kd.C_drewN ?_ _)|(with_reducible refine Kd.C_drew ?_)|exact Bt.out))|(with_reducible refine Kd.C_alloc ?_ _)|(with_reducible refine Kd.C_drewN ?_ _)|(with_reducible refine Kd.C_drew ?_)));(case aB=>exact bb_);(case aF=>exact (fun k_ hk=>⟨(.inr (Nat.le_trans (by first|exact HK.out.1|exact (show Kept w _ (fun k_=>P0_ k_) from by repeat (first|(with_reducible first|exact HK.out|apply Kept.alloc|apply Kept.drewN|apply Kept.drew)|exact HK.out)).1) hk)),Kd.fresh' (Kd.R_lt (rl_ HO_0)) k_ hk⟩));(case aO=>exact (rl_ Br));(case aS=>exact (below_size bb_));(case aL=>have:=LMc30.out;omega);intro C1 w38 ho hb hg hat;rw [← Cg.out] at ho;replace HB:=A_ (hb);replace HK:=A_ (Kept.of_grown (S:=(fun k_=>P0_ k_)) hg (by repeat (with_reducible first|exact HK.out|apply Kept.alloc|apply Kept.drewN|apply Kept.drew)) (fun k_ e_=>(Br.out.1 k_ e_).1));replace Bf:=A_ ((show Kd.C (Kd.int .i64) w38 Ao31 Af.length Af from by rw [Ba.out];exact Kd.C_take (m:=(x5_1 : Int).toNat) ((Kd.R_reads' (Kd.R_after (ok:=(fun k_=>(P0_ k_ ∨ w.heap.size ≤ k_))) (rl_ HO_0) hg hat)).2.2) KL34.out));replace Bt:=A_ ((show Kd.C (Kd.int .i64) w38 A37 Ab.length Ab from by rw [Bo.out,KA37.out];exact Kd.C_drop (m:=(x5_1 : Int).toNat) (c:=co31) ((Kd.R_reads' (Kd.R_after (ok:=(fun k_=>(P0_ k_ ∨ w.heap.size ≤ k_))) (rl_ HO_0) hg hat)).2.2) KL37.out ((Kd.R_reads' (Kd.R_after (ok:=(fun k_=>(P0_ k_ ∨ w.heap.size ≤ k_))) (rl_ HO_0) hg hat)).2.1)));replace HO_0:=A_ (Kd.R_after (ok:=(fun k_=>(P0_ k_ ∨ w.heap.size ≤ k_))) (rl_ HO_0) hg hat);have Ch:=A_ (ho);clear Br;clear ho hb hg hat))
         go_ret
         exact ⟨_,by first|rfl|(simp [errW_none,errW_some] <;> rfl)|(simp [*,errW_none,errW_some] <;> rfl),rq_ (Kd.R_mono Ch.out (fun _ hk=>hk.1)),bb_,by repeat (first|(with_reducible first|exact HK.out|apply Kept.alloc|apply Kept.drewN|apply Kept.drew)|exact HK.out)⟩
        ·rw [if_neg c30] at H;exact absurd H (by simp)
       ·rw [if_neg c27] at H;exact absurd H (by simp)
      ·rw [if_neg c26] at H;exact absurd H (by simp)
     ·rw [if_neg c25] at H;exact absurd H (by simp)
    ·rw [if_neg c24] at H;exact absurd H (by simp)
def Abb.l0 : Nat → Int → List Int → Int → Int → Option (Int)
 | 0,_,_,_,_=>none
 | k + 1,x1,x7,x8,x9=>if x9 < x8 then (if 0 ≤ x9 then (if x9 < (x7.length : Int) then (if (rd x7 x9) = x1 then (some x9) else (Abb.l0 k x1 x7 x8 (wrap64 (x9 + 1)))) else (none)) else (none)) else (some (-1))
def Abb.f (k : Nat) (l0 : List Int) (a1 : Int) : Option (Int) := Abb.l0 k a1 l0 (l0.length : Int) 0
set_option maxHeartbeats 8000000 in
set_option maxRecDepth 100000 in
theorem Abb.calls (k : Nat) (A0 : Option Addr) (c0 : Nat) (l0 : List Int) (a1 : Int) (r : Int) (w : World) (hr0 : Kd.C (Kd.int .i64) w A0 l0.length l0) (hc0 : l0.length ≤ c0) (h : Abb.f k l0 a1 = some r) :
 Calls Tryd.prog 194 #[.slice A0 l0.length c0,.int .i64 a1] w fun e w'=>e = .returned (.int .i64 r) ∧ Drawn0 w w':=by
 have HR0:=A_ hr0;have HC0:=A_ hc0;clear hr0 hc0;have H : (Abb.l0 k a1 l0 (l0.length : Int) 0) = some r:=h;clear h;have H':=A_ H;clear H;go_enter Tryd.func194,Tryd.ntmps194
 go_wp2
 go_loopg [9] k (fun kq v9 w'=>∃ (x9_1 : Int),v9 = .int .i64 x9_1 ∧ Aside0 (Abb.l0 kq a1 l0 (l0.length : Int) x9_1 = some r) ∧ Aside0 (kq ≤ k) ∧ Drawn0 w w')
 case atStart=>exact ⟨(0),(by first|rfl|(simp;done)|(simp [*];done)),H',⟨Nat.le_refl _⟩,by repeat (first|exact Drawn0.refl _|apply Drawn0.step)⟩
 case round =>
  clear H';try clear c1
  try clear p2
  obtain ⟨x9_1,rfl,HA,HK1,⟨m1,rfl⟩⟩:=hrel;cases gk with
  | zero => exact absurd HA.out (by simp [Abb.l0])
  | succ k1 =>
   have H:=HA.out;clear HA;simp only [Abb.l0] at H
   by_cases c3 : x9_1 < (l0.length : Int)
   ·rw [if_pos c3] at H;have c3b0 : decide (x9_1 < (l0.length : Int)) = true:=decide_eq_true c3;clear c3;by_cases c4 : 0 ≤ x9_1
    ·rw [if_pos c4] at H;have c4b0 : decide (0 ≤ x9_1) = true:=decide_eq_true c4;clear c4;by_cases c5 : x9_1 < (l0.length : Int)
     ·rw [if_pos c5] at H;have c5b0 : decide (x9_1 < (l0.length : Int)) = true:=decide_eq_true c5;clear c5;by_cases c6 : (rd l0 x9_1) = a1
      ·rw [if_pos c6] at H;have c6b0 : ((rd l0 x9_1) == a1) = true:=beq_iff_eq.mpr c6;have c6b1 : ((rd l0 x9_1) != a1) = false:=bne_eq_false_iff_eq.mpr c6;clear c6;obtain rfl:=Option.some.inj H;have Aa : 0 ≤ (x9_1 : Int):=of_decide_eq_true (by first|(with_reducible assumption)|assumption);have Ab : x9_1 < (l0.length : Int):=of_decide_eq_true (by first|(with_reducible assumption)|assumption);obtain ⟨Ae,Ac,Ad⟩:=Kd.at_int HR0.out x9_1 Aa Ab;cases Ac
       replace Aa:=eq_true Aa;replace Ab:=eq_true Ab;go_wp2
       go_ret
       exact ⟨by first|rfl|(simp;done)|(simp [*];done),by repeat (first|exact Drawn0.refl _|apply Drawn0.step)⟩
      ·rw [if_neg c6] at H;have c6b0 : ((rd l0 x9_1) == a1) = false:=beq_eq_false_iff_ne.mpr c6;have c6b1 : ((rd l0 x9_1) != a1) = true:=bne_iff_ne.mpr c6;have H':=A_ H;clear H;have Aa : 0 ≤ (x9_1 : Int):=of_decide_eq_true (by first|(with_reducible assumption)|assumption);have Ab : x9_1 < (l0.length : Int):=of_decide_eq_true (by first|(with_reducible assumption)|assumption);obtain ⟨Ae,Ac,Ad⟩:=Kd.at_int HR0.out x9_1 Aa Ab;cases Ac
       replace Aa:=eq_true Aa;replace Ab:=eq_true Ab;go_wp2
       go_roundg k1
       case measure=>have:=HK1.out;omega
       case rel=>exact ⟨(wrap64 (x9_1 + 1)),(by first|rfl|(simp;done)|(simp [*];done)),H',⟨by have:=HK1.out;omega⟩,by repeat (first|exact Drawn0.refl _|apply Drawn0.step)⟩
     ·rw [if_neg c5] at H;exact absurd H (by simp)
    ·rw [if_neg c4] at H;exact absurd H (by simp)
   ·rw [if_neg c3] at H;have c3b0 : decide (x9_1 < (l0.length : Int)) = false:=decide_eq_false c3;clear c3;obtain rfl:=Option.some.inj H;go_wp2
    go_ret
    exact ⟨by first|rfl|(simp;done)|(simp [*];done),by repeat (first|exact Drawn0.refl _|apply Drawn0.step)⟩
mutual
def Aaq.l0 : Nat → List Int → List Int → List Int → Int → Int → Option (List Int)
 | 0,_,_,_,_,_=>none
 | k + 1,x0,x3,x9,x10,x11=>if x11 < x10 then (if 0 ≤ x11 then (if x11 < (x9.length : Int) then ((Abf.f k x3 (rd x9 x11)).bind fun t581=>(Aaq.l0 k x0 t581 x9 x10 (wrap64 (x11 + 1)))) else (none)) else (none)) else (Aaq.l1 k x3 ([] : List Int) x0 (x0.length : Int) 0)
def Aaq.l1 : Nat → List Int → List Int → List Int → Int → Int → Option (List Int)
 | 0,_,_,_,_,_=>none
 | k + 1,x3,x4,x19,x20,x21=>if x21 < x20 then (if 0 ≤ x21 then (if x21 < (x19.length : Int) then ((Abb.f k x3 (rd x19 x21)).bind fun t585=>(if x4.length < 17592186044416 then (Aaq.l1 k x3 (x4 ++ [t585]) x19 x20 (wrap64 (x21 + 1))) else (none))) else (none)) else (none)) else (some x4)
end
def Aaq.f (k : Nat) (l0 : List Int) : Option (List Int) := Aaq.l0 k l0 ([] : List Int) l0 (l0.length : Int) 0
set_option maxHeartbeats 8000000 in
set_option maxRecDepth 100000 in
theorem Aaq.calls (k : Nat) (A0 : Option Addr) (c0 : Nat) (l0 : List Int) (r : List Int) (w : World) (hr0 : Kd.C (Kd.int .i64) w A0 l0.length l0) (hc0 : l0.length ≤ c0) (h : Aaq.f k l0 = some r) :
 Calls Tryd.prog 112 #[.slice A0 l0.length c0] w fun e w'=>∃ v0_ : Value,e = .returned (v0_) ∧ Kd.R (Kd.int .i64) 3 w' w.heap.size (fun _=>True) v0_ r ∧ Below w.heap.size w w':=by
 have HR0:=A_ hr0;have HC0:=A_ hc0;clear hr0 hc0;have HB:=A_ (Below.refl w.heap.size w);have H : (Aaq.l0 k l0 ([] : List Int) l0 (l0.length : Int) 0) = some r:=h;clear h;have H':=A_ H;clear H;go_enter Tryd.func112,Tryd.ntmps112
 go_wp2
 go_loopg [3,11] k (fun kq v3 v11 w'=>∃ (x3_1 : List Int) (x11_1 : Int),v11 = .int .i64 x11_1 ∧ Aside0 (Aaq.l0 kq l0 x3_1 l0 (l0.length : Int) x11_1 = some r) ∧ Aside0 (kq ≤ k) ∧ Aside0 (Kd.R (Kd.int .i64) 3 w' w.heap.size (fun _=>True) v3 x3_1) ∧ Aside0 (Below w.heap.size w w'))
 case atStart=>exact ⟨(([] : List Int)),(0),(by first|rfl|(simp;done)|(simp [*];done)),H',⟨Nat.le_refl _⟩,⟨by first|exact Kd.R_nil _ _ _ _ _|exact Kd.N_nil _ _ _ _ _|exact Kd.V_nil _ _ _ _ _|exact Kd.Q_nil _ _ _ _ _|exact Kd.S_nil _ _ _ _ _⟩,⟨bb_⟩⟩
 case round =>
  clear H';try clear c1
  obtain ⟨x3_1,x11_1,rfl,HA,HK1,HO_3,HB⟩:=hrel;cases gk with
  | zero => exact absurd HA.out (by simp [Aaq.l0])
  | succ k1 =>
   have H:=HA.out;clear HA;simp only [Aaq.l0] at H
   by_cases c2 : x11_1 < (l0.length : Int)
   ·rw [if_pos c2] at H;have c2b0 : decide (x11_1 < (l0.length : Int)) = true:=decide_eq_true c2;clear c2;by_cases c3 : 0 ≤ x11_1
    ·rw [if_pos c3] at H;have c3b0 : decide (0 ≤ x11_1) = true:=decide_eq_true c3;clear c3;by_cases c4 : x11_1 < (l0.length : Int)
     ·rw [if_pos c4] at H;have c4b0 : decide (x11_1 < (l0.length : Int)) = true:=decide_eq_true c4;clear c4;replace H:=Option.bind_eq_some_iff.mp H;obtain ⟨Ag,A50,H⟩:=H;replace H : (Aaq.l0 k1 l0 Ag l0 (l0.length : Int) (wrap64 (x11_1 + 1))) = some r:=H;have A5:=A_ A50;clear A50;have H':=A_ H;clear H;have Ae : 0 ≤ (x11_1 : Int):=of_decide_eq_true (by first|(with_reducible assumption)|assumption);have Af : x11_1 < (l0.length : Int):=of_decide_eq_true (by first|(with_reducible assumption)|assumption);obtain ⟨Aq,Ao,Aa⟩:=Kd.at_int HR0.out x11_1 Ae Af;cases Ao
      (try replace Aa:=(HB.out.cell (World.block_lt_of_cell? w _ Aa)).trans Aa);replace Ae:=eq_true Ae;replace Af:=eq_true Af;obtain ⟨Ao6,co6,eo6⟩:=Kd.R_slice HO_3.out;subst eo6;go_wp2_with (first|((with_reducible refine gate_callee (f:=193) rfl ?_);refine goesL_ (some 17) rfl rfl Tryd.func193 (by kernel_rfl) rfl #[.slice Ao6 x3_1.length co6,.int .i64 (rd l0 x11_1)] rfl au_ ?_;(with_reducible refine (Abf.calls k1 (fun k_=>some k_ = (.slice Ao6 x3_1.length co6 : Value).ownBlock) (.slice Ao6 x3_1.length co6) x3_1 (rd l0 x11_1) Ag w _ ?side1 ?side2 A5.out).mono ?_);(case side1=>repeat (first|(with_reducible first|exact HB.out|apply below_alloc|apply pw_below_drewN|apply below_drew1)|exact HB.out));(case side2=>exact Kd.R_tight rfl HO_3.out);rintro e w7 ⟨As,rfl,ho0,hb,hkp⟩;refine ⟨_,rfl,?_⟩;have Al:=A_ (Kd.R_mono (ok':=fun k_=>True) ho0 (fun k_ hk_=>trivial));replace HB:=A_ (hb);clear HO_3;(try clear hb);(try clear hkp);(try clear ho0)))
      go_roundg k1
      case measure=>have:=HK1.out;omega
      case rel=>exact ⟨(Ag),(wrap64 (x11_1 + 1)),(by first|rfl|(simp;done)|(simp [*];done)),H',⟨by have:=HK1.out;omega⟩,⟨rl_ Al⟩,⟨bb_⟩⟩
     ·rw [if_neg c4] at H;exact absurd H (by simp)
    ·rw [if_neg c3] at H;exact absurd H (by simp)
   ·rw [if_neg c2] at H;have c2b0 : decide (x11_1 < (l0.length : Int)) = false:=decide_eq_false c2;clear c2;have H':=A_ H;clear H;go_wp2
    go_loopg [4,21] k1 (fun kq v4 v21 w'=>∃ (x4_2 : List Int) (x21_2 : Int),v21 = .int .i64 x21_2 ∧ Aside0 (Aaq.l1 kq x3_1 x4_2 l0 (l0.length : Int) x21_2 = some r) ∧ Aside0 (kq ≤ k1) ∧ Aside0 (Kd.R (Kd.int .i64) 3 w' w.heap.size (fun k_=>some k_ ≠ (v4 : Value).ownBlock) u3 x3_1) ∧ Aside0 (Kd.R (Kd.int .i64) 3 w' w.heap.size (fun k_=>some k_ ≠ (u3 : Value).ownBlock) v4 x4_2) ∧ Aside0 (Below w.heap.size w w'))
    case atStart=>exact ⟨(([] : List Int)),(0),(by first|rfl|(simp;done)|(simp [*];done)),H',⟨Nat.le_refl _⟩,⟨rq_ (Kd.R_mono HO_3.out (fun _ hk=>(by simp [Value.ownBlock])))⟩,⟨by first|exact Kd.R_nil _ _ _ _ _|exact Kd.N_nil _ _ _ _ _|exact Kd.V_nil _ _ _ _ _|exact Kd.Q_nil _ _ _ _ _|exact Kd.S_nil _ _ _ _ _⟩,⟨bb_⟩⟩
    case round =>
     clear H';try clear c1
     try clear c2
     try clear c2b0
     try clear p2
     try clear c3
     try clear c3b0
     try clear c4
     try clear c4b0
     try clear p5
     try clear q5
     try clear hx5
     try clear p6
     try clear Aa
     try clear Ae
     try clear Af
     obtain ⟨x4_2,x21_2,rfl,HA,HK2,HO_3,HO_4,HB⟩:=hrel;cases gk with
     | zero=>exact absurd HA.out (by simp [Aaq.l1])
     | succ k2 =>
      have H:=HA.out;clear HA;simp only [Aaq.l1] at H
      by_cases c8 : x21_2 < (l0.length : Int)
      ·rw [if_pos c8] at H;have c8b0 : decide (x21_2 < (l0.length : Int)) = true:=decide_eq_true c8;clear c8;by_cases c9 : 0 ≤ x21_2
       ·rw [if_pos c9] at H;have c9b0 : decide (0 ≤ x21_2) = true:=decide_eq_true c9;clear c9;by_cases c10 : x21_2 < (l0.length : Int)
        ·rw [if_pos c10] at H;have c10b0 : decide (x21_2 < (l0.length : Int)) = true:=decide_eq_true c10;clear c10;replace H:=Option.bind_eq_some_iff.mp H;obtain ⟨Ad,Aj,H⟩:=H;replace H : (if x4_2.length < 17592186044416 then (Aaq.l1 k2 x3_1 (x4_2 ++ [Ad]) l0 (l0.length : Int) (wrap64 (x21_2 + 1))) else (none)) = some r:=H;have A11:=A_ Aj;clear Aj;by_cases c12 : x4_2.length < 17592186044416
         ·rw [if_pos c12] at H;have LMc12:=A_ c12;clear c12;obtain ⟨Ak,Ab⟩ : ∃ y_ : List Int,y_ = (x4_2 ++ [Ad]):=⟨_,rfl⟩;replace H : (Aaq.l1 k2 x3_1 Ak l0 (l0.length : Int) (wrap64 (x21_2 + 1))) = some r:=by first|(rw [Ab];with_reducible exact H)|(have H2_:=(Option.bind_some _ _).symm.trans H;rw [Ab];with_reducible exact H2_)|(have H2_:=(Option.bind_some _ _).symm.trans H;with_reducible exact H2_)|with_reducible exact H|(rw [Ab];exact H)|exact H
          have Am:=A_ Ab;clear Ab;have H':=A_ H;clear H;have Ah : 0 ≤ (x21_2 : Int):=of_decide_eq_true (by first|(with_reducible assumption)|assumption);have Ai : x21_2 < (l0.length : Int):=of_decide_eq_true (by first|(with_reducible assumption)|assumption);obtain ⟨Ar,Ap,Ac⟩:=Kd.at_int HR0.out x21_2 Ah Ai;cases Ap
          (try replace Ac:=(HB.out.cell (World.block_lt_of_cell? w _ Ac)).trans Ac);replace Ah:=eq_true Ah;replace Ai:=eq_true Ai;obtain ⟨Ao13,co13,eo13⟩:=Kd.R_slice HO_3.out;subst eo13;go_wp2_with (first|((with_reducible refine gate_callee (f:=194) rfl ?_);refine goesL_ (some 28) rfl rfl Tryd.func194 (by kernel_rfl) rfl #[.slice Ao13 x3_1.length co13,.int .i64 (rd l0 x21_2)] rfl au_ ?_;(with_reducible refine (Abb.calls k2 _ _ x3_1 (rd l0 x21_2) Ad _ ?side1 ?side2 A11.out).mono ?_);(case side1=>exact cl_ (Kd.R_reads' HO_3.out).2.2);(case side2=>exact (Kd.R_reads' HO_3.out).2.1);rintro e w' ⟨rfl,⟨nd,rfl⟩⟩;refine ⟨_,rfl,?_⟩)|((with_reducible refine gate_builtin (b:=.append) (xs:=#[.tmp 25,.tmp 29]) rfl ?_);at_builtin;refine Kd.R_append (Kd.int .i64) (w0:=w) w.heap.size rfl (.tmp 25) (.tmp 29) 22 3 (.int .i64 0) 8 rfl Tryd.underlying22 info3 rfl (by decide) (by omega) u4 x4_2 Ad [.int .i64 Ad] (fun k_=>some k_ ≠ (.slice Ao13 x3_1.length co13 : Value).ownBlock) (fun _=>False) rfl rfl ?aP (fun _ hk=>hk.elim) ?aF ?aO ?aB ?aS ?aL ?_;(case aP=>exact rfl);(case aB=>exact bb_);(case aF=>exact (fun k_ hk=>Kd.fresh' (Kd.R_lt (rl_ HO_3)) k_ hk));(case aO=>exact (rl_ HO_4));(case aS=>exact (below_size bb_));(case aL=>have:=LMc12.out;omega);intro At w14 ho hb hg hat;rw [← Am.out] at ho;replace HO_3:=A_ (Kd.R_after (ok:=(fun _=>True)) (rq_ (Kd.R_mono HO_3.out (fun _ hk=>⟨trivial,hk⟩))) hg hat);replace HB:=A_ (hb);have An:=A_ (ho);clear HO_4;clear ho hb hg hat))
          go_roundg k2
          case measure=>have:=HK1.out;have:=HK2.out;omega
          case rel=>exact ⟨(Ak),(wrap64 (x21_2 + 1)),(by first|rfl|(simp;done)|(simp [*];done)),H',⟨by have:=HK1.out;have:=HK2.out;omega⟩,⟨rq_ (Kd.R_mono HO_3.out (fun _ hk=>hk.2))⟩,⟨rl_ An⟩,⟨bb_⟩⟩
         ·rw [if_neg c12] at H;exact absurd H (by simp)
        ·rw [if_neg c10] at H;exact absurd H (by simp)
       ·rw [if_neg c9] at H;exact absurd H (by simp)
      ·rw [if_neg c8] at H;have c8b0 : decide (x21_2 < (l0.length : Int)) = false:=decide_eq_false c8;clear c8;obtain rfl:=Option.some.inj H;go_wp2
       go_ret
       exact ⟨_,by first|rfl|(simp [errW_none,errW_some] <;> rfl)|(simp [*,errW_none,errW_some] <;> rfl),rq_ (Kd.R_mono HO_4.out (fun _ hk=>trivial)),bb_⟩
def Aaf.f (s0_0 : List Int) (s0_1 : Int) (s0_2 : Int) (a1 : Int) : Option (Int × Int × Int) := if a1 ≤ 1 then (some (0, s0_1, s0_2)) else ((Abd.f s0_0 s0_1 s0_2).bind fun bt717 => (if a1 > 200 then ((Abd.f s0_0 bt717.2.1 bt717.2.2).bind fun bt720 => (if a1 = 0 then (none) else (some (Int.tmod (wrap64 ((wrap64 (bt717.1 * 256)) + bt720.1)) a1, bt720.2.1, bt720.2.2)))) else (if a1 = 0 then (none) else (some (Int.tmod bt717.1 a1, bt717.2.1, bt717.2.2)))))
set_option maxHeartbeats 8000000 in
set_option maxRecDepth 100000 in
theorem Aaf.calls (g : Nat) (s0_0 : List Int) (s0_1 : Int) (s0_2 : Int) (a1 : Int) (r1 : Int) (r2 : Int) (r3 : Int) (w0 w : World) (hI : Aaa w0 w g s0_0 s0_1 s0_2) (hB : Below w0.heap.size w0 w) (h : Aaf.f s0_0 s0_1 s0_2 a1 = some (r1,r2,r3)) :
 Calls Tryd.prog 150 #[.pointer (some ⟨g,0,none⟩),.int .i64 a1] w fun e w'=>e = .returned (.int .i64 r1) ∧ Aaa w0 w' g s0_0 r2 r3 ∧ Below w0.heap.size w0 w' ∧ KeepBut w w' g none:=by
 have HI0:=A_ hI;have HK:=A_ (KeepBut.refl w g none);have HL:=A_ hB.size;clear hI;have HW0:=A_ hB.size;have HB:=A_ hB;clear hB;have H : (if a1 ≤ 1 then (some (0,s0_1,s0_2)) else ((Abd.f s0_0 s0_1 s0_2).bind fun Ab=>(if a1 > 200 then ((Abd.f s0_0 Ab.2.1 Ab.2.2).bind fun Aa=>(if a1 = 0 then (none) else (some (Int.tmod (wrap64 ((wrap64 (Ab.1 * 256)) + Aa.1)) a1,Aa.2.1,Aa.2.2)))) else (if a1 = 0 then (none) else (some (Int.tmod Ab.1 a1,Ab.2.1,Ab.2.2)))))) = some (r1,r2,r3):=h;clear h;by_cases c3 : a1 ≤ 1
 ·rw [if_pos c3] at H;have c3b0 : decide (a1 ≤ 1) = true:=decide_eq_true c3;clear c3;simp only [Option.some.injEq,Prod.mk.injEq] at H
  obtain ⟨rfl,rfl,rfl⟩:=H;go_enter Tryd.func150,Tryd.ntmps150
  go_wp2
  go_ret
  exact ⟨by first|rfl|(simp [errW_none,errW_some] <;> rfl)|(simp [*,errW_none,errW_some] <;> rfl),is_,by repeat (first|(with_reducible first|exact HB.out|apply below_alloc|apply pw_below_drewN|apply below_drew1|refine below_set ?_ (Aaa.ge HI0.out))|exact HB.out),by repeat (first|(with_reducible first|exact HK.out|apply KeepBut.set_|apply keep_drewN|apply keep_drew|apply keep_alloc)|exact HK.out)⟩
 ·rw [if_neg c3] at H;have c3b0 : decide (a1 ≤ 1) = false:=decide_eq_false c3;clear c3;replace H:=Option.bind_eq_some_iff.mp H;obtain ⟨⟨Ac,Ad,Ae⟩,A40,H⟩:=H;replace H : (if a1 > 200 then ((Abd.f s0_0 Ad Ae).bind fun Aa=>(if a1 = 0 then (none) else (some (Int.tmod (wrap64 ((wrap64 (Ac * 256)) + Aa.1)) a1,Aa.2.1,Aa.2.2)))) else (if a1 = 0 then (none) else (some (Int.tmod Ac a1,Ad,Ae)))) = some (r1,r2,r3):=H;have A4:=A_ A40;clear A40;by_cases c5 : a1 > 200
  ·rw [if_pos c5] at H;have c5b0 : decide (200 < a1) = true:=decide_eq_true c5;clear c5;replace H:=Option.bind_eq_some_iff.mp H;obtain ⟨⟨Af,Ag,Ah⟩,A60,H⟩:=H;replace H : (if a1 = 0 then (none) else (some (Int.tmod (wrap64 ((wrap64 (Ac * 256)) + Af)) a1,Ag,Ah))) = some (r1,r2,r3):=H;have A6:=A_ A60;clear A60;by_cases c7 : a1 = 0
   ·rw [if_pos c7] at H;exact absurd H (by simp)
   ·rw [if_neg c7] at H;have c7b0 : (a1 == 0) = false:=beq_eq_false_iff_ne.mpr c7;have c7b1 : (a1 != 0) = true:=bne_iff_ne.mpr c7;simp only [Option.some.injEq,Prod.mk.injEq] at H
    obtain ⟨rfl,rfl,rfl⟩:=H;go_enter Tryd.func150,Tryd.ntmps150
    go_wp2_with (first|((with_reducible refine gate_callee (f:=212) rfl ?_);refine goesL_ (some 9) rfl rfl Tryd.func212 (by kernel_rfl) rfl #[.pointer (some ⟨g,0,none⟩)] rfl au_ ?_;(with_reducible refine (Abd.calls g s0_0 s0_1 s0_2 Ac Ad Ae w0 _ ?side1 ?side2 A4.out).mono ?_);(case side1=>exact is_);(case side2=>repeat (first|(with_reducible first|exact HB.out|apply below_alloc|apply pw_below_drewN|apply below_drew1|refine below_set ?_ (Aaa.ge HI0.out))|exact HB.out));rintro e w8 ⟨rfl,hi,hb,hk⟩;refine ⟨_,rfl,?_⟩;replace HK:=A_ (KeepBut.trans (by repeat (with_reducible first|exact HK.out|apply KeepBut.set_|apply keep_drewN|apply keep_drew|apply keep_alloc)) hk (.inl rfl));replace HB:=A_ (hb);replace HI0:=A_ (hi);(try clear hb);(try clear hb2);(try clear hk);(try clear hi))|((with_reducible refine gate_callee (f:=212) rfl ?_);refine goesL_ (some 15) rfl rfl Tryd.func212 (by kernel_rfl) rfl #[.pointer (some ⟨g,0,none⟩)] rfl au_ ?_;(with_reducible refine (Abd.calls g s0_0 Ad Ae Af Ag Ah w0 _ ?side1 ?side2 A6.out).mono ?_);(case side1=>exact is_);(case side2=>repeat (first|(with_reducible first|exact HB.out|apply below_alloc|apply pw_below_drewN|apply below_drew1|refine below_set ?_ (Aaa.ge HI0.out))|exact HB.out));rintro e w9 ⟨rfl,hi,hb,hk⟩;refine ⟨_,rfl,?_⟩;replace HK:=A_ (KeepBut.trans (by repeat (with_reducible first|exact HK.out|apply KeepBut.set_|apply keep_drewN|apply keep_drew|apply keep_alloc)) hk (.inl rfl));replace HB:=A_ (hb);replace HI0:=A_ (hi);(try clear hb);(try clear hb2);(try clear hk);(try clear hi)))
    go_ret
    exact ⟨by first|rfl|(simp [errW_none,errW_some] <;> rfl)|(simp [*,errW_none,errW_some] <;> rfl),is_,by repeat (first|(with_reducible first|exact HB.out|apply below_alloc|apply pw_below_drewN|apply below_drew1|refine below_set ?_ (Aaa.ge HI0.out))|exact HB.out),by repeat (first|(with_reducible first|exact HK.out|apply KeepBut.set_|apply keep_drewN|apply keep_drew|apply keep_alloc)|exact HK.out)⟩
  ·rw [if_neg c5] at H;have c5b0 : decide (200 < a1) = false:=decide_eq_false c5;clear c5;by_cases c10 : a1 = 0
   ·rw [if_pos c10] at H;exact absurd H (by simp)
   ·rw [if_neg c10] at H;have c10b0 : (a1 == 0) = false:=beq_eq_false_iff_ne.mpr c10;have c10b1 : (a1 != 0) = true:=bne_iff_ne.mpr c10;simp only [Option.some.injEq,Prod.mk.injEq] at H
    obtain ⟨rfl,rfl,rfl⟩:=H;go_enter Tryd.func150,Tryd.ntmps150
    go_wp2_with (first|((with_reducible refine gate_callee (f:=212) rfl ?_);refine goesL_ (some 9) rfl rfl Tryd.func212 (by kernel_rfl) rfl #[.pointer (some ⟨g,0,none⟩)] rfl au_ ?_;(with_reducible refine (Abd.calls g s0_0 s0_1 s0_2 Ac Ad Ae w0 _ ?side1 ?side2 A4.out).mono ?_);(case side1=>exact is_);(case side2=>repeat (first|(with_reducible first|exact HB.out|apply below_alloc|apply pw_below_drewN|apply below_drew1|refine below_set ?_ (Aaa.ge HI0.out))|exact HB.out));rintro e w11 ⟨rfl,hi,hb,hk⟩;refine ⟨_,rfl,?_⟩;replace HK:=A_ (KeepBut.trans (by repeat (with_reducible first|exact HK.out|apply KeepBut.set_|apply keep_drewN|apply keep_drew|apply keep_alloc)) hk (.inl rfl));replace HB:=A_ (hb);replace HI0:=A_ (hi);(try clear hb);(try clear hb2);(try clear hk);(try clear hi)))
    go_ret
    exact ⟨by first|rfl|(simp [errW_none,errW_some] <;> rfl)|(simp [*,errW_none,errW_some] <;> rfl),is_,by repeat (first|(with_reducible first|exact HB.out|apply below_alloc|apply pw_below_drewN|apply below_drew1|refine below_set ?_ (Aaa.ge HI0.out))|exact HB.out),by repeat (first|(with_reducible first|exact HK.out|apply KeepBut.set_|apply keep_drewN|apply keep_drew|apply keep_alloc)|exact HK.out)⟩
def Aas.f (s0_0 : List Int) (s0_1 : Int) (s0_2 : Int) (a1 : Int) : Option (Bool × Int × Int) := (Aaf.f s0_0 s0_1 s0_2 a1).bind fun bt727 => (some ((bt727.1 == 0), bt727.2.1, bt727.2.2))
set_option maxHeartbeats 8000000 in
set_option maxRecDepth 100000 in
theorem Aas.calls (g : Nat) (s0_0 : List Int) (s0_1 : Int) (s0_2 : Int) (a1 : Int) (r1 : Bool) (r2 : Int) (r3 : Int) (w0 w : World) (hI : Aaa w0 w g s0_0 s0_1 s0_2) (hB : Below w0.heap.size w0 w) (h : Aas.f s0_0 s0_1 s0_2 a1 = some (r1,r2,r3)) :
 Calls Tryd.prog 173 #[.pointer (some ⟨g,0,none⟩),.int .i64 a1] w fun e w'=>e = .returned (.bool r1) ∧ Aaa w0 w' g s0_0 r2 r3 ∧ Below w0.heap.size w0 w' ∧ KeepBut w w' g none:=by
 have HI0:=A_ hI;have HK:=A_ (KeepBut.refl w g none);have HL:=A_ hB.size;clear hI;have HW0:=A_ hB.size;have HB:=A_ hB;clear hB;have H : ((Aaf.f s0_0 s0_1 s0_2 a1).bind fun Aa=>(some ((Aa.1 == 0),Aa.2.1,Aa.2.2))) = some (r1,r2,r3):=h;clear h;replace H:=Option.bind_eq_some_iff.mp H;obtain ⟨⟨Ab,Ac,Ad⟩,A30,H⟩:=H;replace H : (some ((Ab == 0),Ac,Ad)) = some (r1,r2,r3):=H;have A3:=A_ A30;clear A30;simp only [Option.some.injEq,Prod.mk.injEq] at H
 obtain ⟨rfl,rfl,rfl⟩:=H;go_enter Tryd.func173,Tryd.ntmps173
 go_wp2_with (first|((with_reducible refine gate_callee (f:=150) rfl ?_);refine goesL_ (some 7) rfl rfl Tryd.func150 (by kernel_rfl) rfl #[.pointer (some ⟨g,0,none⟩),.int .i64 a1] rfl au_ ?_;(with_reducible refine (Aaf.calls g s0_0 s0_1 s0_2 a1 Ab Ac Ad w0 _ ?side1 ?side2 A3.out).mono ?_);(case side1=>exact is_);(case side2=>repeat (first|(with_reducible first|exact HB.out|apply below_alloc|apply pw_below_drewN|apply below_drew1|refine below_set ?_ (Aaa.ge HI0.out))|exact HB.out));rintro e w4 ⟨rfl,hi,hb,hk⟩;refine ⟨_,rfl,?_⟩;replace HK:=A_ (KeepBut.trans (by repeat (with_reducible first|exact HK.out|apply KeepBut.set_|apply keep_drewN|apply keep_drew|apply keep_alloc)) hk (.inl rfl));replace HB:=A_ (hb);replace HI0:=A_ (hi);(try clear hb);(try clear hb2);(try clear hk);(try clear hi)))
 go_ret
 exact ⟨by first|rfl|(simp [errW_none,errW_some] <;> rfl)|(simp [*,errW_none,errW_some] <;> rfl),is_,by repeat (first|(with_reducible first|exact HB.out|apply below_alloc|apply pw_below_drewN|apply below_drew1|refine below_set ?_ (Aaa.ge HI0.out))|exact HB.out),by repeat (first|(with_reducible first|exact HK.out|apply KeepBut.set_|apply keep_drewN|apply keep_drew|apply keep_alloc)|exact HK.out)⟩
def Aat.f (s0_0 : List Int) (s0_1 : Int) (s0_2 : Int) (l1 : List Int) : Option (Int × Int × Int) := (Aaf.f s0_0 s0_1 s0_2 (l1.length : Int)).bind fun bt723 => (if 0 ≤ bt723.1 then (if bt723.1 < (l1.length : Int) then (some (rd l1 bt723.1, bt723.2.1, bt723.2.2)) else (none)) else (none))
set_option maxHeartbeats 8000000 in
set_option maxRecDepth 100000 in
theorem Aat.calls (g : Nat) (s0_0 : List Int) (s0_1 : Int) (s0_2 : Int) (A1 : Option Addr) (c1 : Nat) (l1 : List Int) (r1 : Int) (r2 : Int) (r3 : Int) (w0 w : World) (hI : Aaa w0 w g s0_0 s0_1 s0_2) (hB : Below w0.heap.size w0 w) (hr1 : Kd.C (Kd.int .i64) w A1 l1.length l1) (hc1 : l1.length ≤ c1) (hf1 : ∀ ad,A1 = some ad → 0 < l1.length → ad.block ≠ g) (h : Aat.f s0_0 s0_1 s0_2 l1 = some (r1,r2,r3)) :
 Calls Tryd.prog 125 #[.pointer (some ⟨g,0,none⟩),.slice A1 l1.length c1] w fun e w'=>e = .returned (.int .i64 r1) ∧ Aaa w0 w' g s0_0 r2 r3 ∧ Below w0.heap.size w0 w' ∧ KeepBut w w' g none:=by
 have HR1:=A_ hr1;have HC1:=A_ hc1;clear hr1 hc1;have HI0:=A_ hI;have HK:=A_ (KeepBut.refl w g none);have HL:=A_ hB.size;clear hI;have HW0:=A_ hB.size;have HB:=A_ hB;clear hB;have H : ((Aaf.f s0_0 s0_1 s0_2 (l1.length : Int)).bind fun Ab=>(if 0 ≤ Ab.1 then (if Ab.1 < (l1.length : Int) then (some (rd l1 Ab.1,Ab.2.1,Ab.2.2)) else (none)) else (none))) = some (r1,r2,r3):=h;clear h;replace H:=Option.bind_eq_some_iff.mp H;obtain ⟨⟨Aa,Af,Ag⟩,A30,H⟩:=H;replace H : (if 0 ≤ Aa then (if Aa < (l1.length : Int) then (some (rd l1 Aa,Af,Ag)) else (none)) else (none)) = some (r1,r2,r3):=H;have A3:=A_ A30;clear A30;by_cases c4 : 0 ≤ Aa
 ·rw [if_pos c4] at H;have c4b0 : decide (0 ≤ Aa) = true:=decide_eq_true c4;clear c4;by_cases c5 : Aa < (l1.length : Int)
  ·rw [if_pos c5] at H;have c5b0 : decide (Aa < (l1.length : Int)) = true:=decide_eq_true c5;clear c5;simp only [Option.some.injEq,Prod.mk.injEq] at H
   obtain ⟨rfl,rfl,rfl⟩:=H;go_enter Tryd.func125,Tryd.ntmps125
   go_wp2_with (first|((with_reducible refine gate_callee (f:=150) rfl ?_);refine goesL_ (some 9) rfl rfl Tryd.func150 (by kernel_rfl) rfl #[.pointer (some ⟨g,0,none⟩),.int .i64 (l1.length : Int)] rfl au_ ?_;(with_reducible refine (Aaf.calls g s0_0 s0_1 s0_2 (l1.length : Int) Aa Af Ag w0 _ ?side1 ?side2 A3.out).mono ?_);(case side1=>exact is_);(case side2=>repeat (first|(with_reducible first|exact HB.out|apply below_alloc|apply pw_below_drewN|apply below_drew1|refine below_set ?_ (Aaa.ge HI0.out))|exact HB.out));rintro e w6 ⟨rfl,hi,hb,hk⟩;refine ⟨_,rfl,?_⟩;replace HK:=A_ (KeepBut.trans (by repeat (with_reducible first|exact HK.out|apply KeepBut.set_|apply keep_drewN|apply keep_drew|apply keep_alloc)) hk (.inl rfl));replace HB:=A_ (hb);replace HI0:=A_ (hi);(try clear hb);(try clear hb2);(try clear hk);(try clear hi);have Ad : 0 ≤ (Aa : Int):=of_decide_eq_true (by first|(with_reducible assumption)|assumption);have Ae : Aa < (l1.length : Int):=of_decide_eq_true (by first|(with_reducible assumption)|assumption);obtain ⟨Ah,Ai,Ac⟩:=Kd.at_int HR1.out Aa Ad Ae;cases Ai;replace Ac:=keep_cell HK.out Ac (by first|(rw [add_block];exact hf1 _ rfl (by omega))|exact hf1 _ rfl (by omega)|exact hf1 Ah rfl (by omega));replace Ad:=eq_true Ad;replace Ae:=eq_true Ae))
   go_ret
   exact ⟨by first|rfl|(simp [errW_none,errW_some] <;> rfl)|(simp [*,errW_none,errW_some] <;> rfl),is_,by repeat (first|(with_reducible first|exact HB.out|apply below_alloc|apply pw_below_drewN|apply below_drew1|refine below_set ?_ (Aaa.ge HI0.out))|exact HB.out),by repeat (first|(with_reducible first|exact HK.out|apply KeepBut.set_|apply keep_drewN|apply keep_drew|apply keep_alloc)|exact HK.out)⟩
  ·rw [if_neg c5] at H;exact absurd H (by simp)
 ·rw [if_neg c4] at H;exact absurd H (by simp)
mutual
def Aag.l0 : Nat → Int → Int → Int → List Int → Option (Int × List Int × Bool)
 | 0,_,_,_,_=>none
 | k + 1,x19,x20,x737000,x737001=>if x20 < x19 then (Aag.l1 k x20 x19 x20 (x737001.length : Int) 0 x737000 x737001) else (some (x737000,x737001,true))
def Aag.l1 : Nat → Int → Int → Int → Int → Int → Int → List Int → Option (Int × List Int × Bool)
 | 0,_,_,_,_,_,_,_=>none
 | k + 1,x5,x19,x20,x25,x26,x737000,x737001=>if x26 < x25 then (if 0 ≤ x26 then (if x26 < (x737001.length : Int) then ((Abc.f (rd x737001 x26) x5).bind fun t738=>(if t738 = true then (if 0 ≤ x5 then (if x5 < (x737001.length : Int) then (Aag.l1 k x5 x19 x20 x25 (wrap64 (x26 + 1)) x737000 (x737001.set (x26 : Int).toNat (Go.bits .or .i64 (rd x737001 x26) (rd x737001 x5)))) else (none)) else (none)) else (Aag.l1 k x5 x19 x20 x25 (wrap64 (x26 + 1)) x737000 x737001))) else (none)) else (none)) else (Aag.l0 k x19 (wrap64 (x20 + 1)) x737000 x737001)
end
def Aag.f (k : Nat) (a0_0 : Int) (l0_1 : List Int) : Option (Int × List Int × Bool) := (Abe.f k a0_0 l0_1).bind fun t732 => (if t732 = true then ((Abo.f l0_1).bind fun t733 => (Aag.l0 k (t733.length : Int) 0 a0_0 t733)) else (some (0, ([] : List Int), false)))
def Aag.T3 : Bool × List (List Nat × List Nat) := (true, [([], []), ([0], [0]), ([], []), ([2], [2]), ([3], [3]), ([1, 4], [1, 4]), ([], []), ([6, 5, 4, 0, 1, 2, 3, 4, 5, 6], [5, 6])])
def Aag.B3 : List Nat := [0, 1, 0, 4, 12, 31, 0, 127]
theorem Aag.tab3 : rtab .any (opsOf Tryd.f239 3) = Aag.T3:=by kernel_rfl
theorem Aag.bits3 : waitsOk Aag.T3.2 Aag.B3 = true:=by kernel_rfl
def Aag.T11 : Bool × List (List Nat × List Nat) := (true, [([], []), ([0], [0]), ([], []), ([1, 2], [1, 2]), ([3], [3]), ([], []), ([5], [5]), ([], []), ([6, 7], [6, 7]), ([8], [8]), ([4, 9], [4, 9]), ([1, 2, 0, 1, 2, 3, 4, 5, 6, 7, 8, 9, 10], [1, 2]), ([11, 10, 0, 1, 2, 3, 4, 5, 6, 7, 8, 9, 10], [10, 11])])
def Aag.B11 : List Nat := [0, 1, 0, 7, 15, 0, 32, 0, 224, 480, 1023, 2047, 4095]
theorem Aag.tab11 : rtab .any (opsOf Tryd.f239 11) = Aag.T11:=by kernel_rfl
theorem Aag.bits11 : waitsOk Aag.T11.2 Aag.B11 = true:=by kernel_rfl
set_option maxHeartbeats 8000000 in
set_option maxRecDepth 100000 in
theorem Aag.calls (k : Nat) (a0_0 : Int) (A0_1 : Option Addr) (c0_1 : Nat) (l0_1 : List Int) (r1 : Int) (r2 : List Int) (r3 : Bool) (w : World) (hr0_1 : Kd.C (Kd.int .i64) w A0_1 l0_1.length l0_1) (hc0_1 : l0_1.length ≤ c0_1) (h : Aag.f k a0_0 l0_1 = some (r1,r2,r3)) :
 Calls Tryd.prog 239 #[.agg #[.int .i64 a0_0,.slice A0_1 l0_1.length c0_1]] w fun e w'=>∃ v1_ : Value,e = .returned (.tuple #[.agg #[.int .i64 r1,v1_],.bool r3]) ∧ Kd.R (Kd.int .i64) 3 w' w.heap.size (fun _=>True) v1_ r2 ∧ Below w.heap.size w w':=by
 have hu28:=Tryd.underlying28;have HR0_1:=A_ hr0_1;have HC0_1:=A_ hc0_1;clear hr0_1 hc0_1;have HB:=A_ (Below.refl w.heap.size w);have H : ((Abe.f k a0_0 l0_1).bind fun Bb=>(if Bb = true then ((Abo.f l0_1).bind fun Aj=>(Aag.l0 k (Aj.length : Int) 0 a0_0 Aj)) else (some (0,([] : List Int),false)))) = some (r1,r2,r3):=h;clear h;replace H:=Option.bind_eq_some_iff.mp H;obtain ⟨Bb,A20,H⟩:=H;replace H : (if Bb = true then ((Abo.f l0_1).bind fun Aj=>(Aag.l0 k (Aj.length : Int) 0 a0_0 Aj)) else (some (0,([] : List Int),false))) = some (r1,r2,r3):=H;have A2:=A_ A20;clear A20;by_cases c3 : Bb = true
 ·subst c3;have H1 : ((Abo.f l0_1).bind fun Aj=>(Aag.l0 k (Aj.length : Int) 0 a0_0 Aj)) = some (r1,r2,r3):=by rw [if_pos rfl] at H;exact H
  clear H;have H:=H1;clear H1;replace H:=Option.bind_eq_some_iff.mp H;obtain ⟨Aj,A40,H⟩:=H;replace H : (Aag.l0 k (Aj.length : Int) 0 a0_0 Aj) = some (r1,r2,r3):=H;have A4:=A_ A40;clear A40;have H':=A_ H;clear H;go_enter Tryd.func239,Tryd.ntmps239
  try go_wp2_with (first|((with_reducible refine gate_dst (N:=1) rfl ?_);refine box_event ?hg (N:=1) ?hd (cs:=#[.int .i64 a0_0,.slice A0_1 l0_1.length c0_1]) (t:=28) ?hr ?_;(case hd=>rfl);(case hg=>rfl);(case hr=>go_simp;try rfl);intro Ak hg w5 hbox hb;have Ab:=A_ (hbox);have Bl:=A_ (gw_ (w:=w) hg bb_);have Bm:=A_ (gw_ (w:=w) hg bb_);replace HB:=A_ (below_step bb_ hb);clear hb hbox hg)|((with_reducible refine gate_dst (N:=2) rfl ?_);refine box_event ?hg (N:=2) ?hd (cs:=#[.int .i64 0,.slice none 0 0]) (t:=28) ?hr ?_;(case hd=>rfl);(case hg=>rfl);(case hr=>go_simp;try rfl);intro An hg w6 hbox hb;have Ac:=A_ (hbox);have Bn:=A_ (gw_ (w:=w) hg bb_);have Bo:=A_ (gw_ (w:=w) hg bb_);replace HB:=A_ (below_step bb_ hb);have Aq:=A_ (nl_ hg Ab);have Ar:=A_ (ng_ hg Ab);replace Ab:=bz Ab hb;clear hb hbox hg;have hnb7:=Aq.out;have hnc7:=Ar.out;have hcz8_0 : w6.cell? ⟨Ak,0,none⟩ = some (.int .i64 a0_0):=blk_cell Ab.out 0;have hcz8_1 : w6.cell? ⟨Ak,1,none⟩ = some (.slice A0_1 l0_1.length c0_1):=blk_cell Ab.out 1;have hfz8_0:=blk_frozen Ab.out 0;have hfz8_1:=blk_frozen Ab.out 1)|((with_reducible refine gate_callee (f:=207) rfl ?_);refine goesL_ (some 8) rfl rfl Tryd.func207 (by kernel_rfl) rfl #[.agg #[.int .i64 a0_0,.slice A0_1 l0_1.length c0_1]] rfl au_ ?_;(with_reducible refine (Abe.calls k a0_0 _ _ l0_1 true _ ?side1 ?side2 A2.out).mono ?_);(case side1=>exact cl_ (Kd.C_below HR0_1.out HB.out));(case side2=>exact HC0_1.out);rintro e w9 ⟨rfl,hb⟩;refine ⟨_,rfl,?_⟩;replace Ab:=bz Ab hb;replace Ac:=bz Ac hb;replace HB:=A_ (below_step bb_ hb);(try clear hb);(try clear hb2);(try clear hk);(try clear hi)))
  replace Ab:=A_ (blk_drew Ab.out);replace Ac:=A_ (blk_drew Ac.out);replace HB:=A_ (below_drew1 HB.out);refine start_ (n:=8) (S:=fun w'=>w'.cell? ⟨Ak,0,none⟩ = some (.int .i64 a0_0) ∧ w'.cell? ⟨Ak,1,none⟩ = some (.slice A0_1 l0_1.length c0_1)) (ds:=[]) #[F,F,F,F,F,F,F,F] (by kernel_rfl) rfl rfl ⟨blk_cell Ab.out 0,blk_cell Ab.out 1⟩ (fun hHeld=>?_);refine with_tabW Aag.tab3 Aag.bits3 (fun HT_ HW_=>?_)
  generalize w9.drew = w10 at Ab Ac HB hHeld ⊢
  refine pure_ (i:=0) (N:=some 11) (v:=?_) (a':=?_) #[T,F,F,F,F,F,F,F] rfl rfl (any_of HT_.out (by kernel_rfl)) (fun _ _ _ h=>h) (Or.inl ⟨by rfl,?_⟩) ?_ ?_
  rotate_left;·intro w';go_simp;with_reducible rfl
  rotate_left;·simp only [Act.put,L_,M_,N_,i64_w,i32_w];rfl
  refine pure_ (i:=2) (N:=some 13) (v:=?_) (a':=?_) #[T,F,T,F,F,F,F,F] rfl rfl (any_of HT_.out (by kernel_rfl)) (fun _ _ _ h=>h) (Or.inl ⟨by rfl,?_⟩) ?_ ?_
  rotate_left;·intro w';go_simp;with_reducible rfl
  rotate_left;·simp only [Act.put,L_,M_,N_,i64_w,i32_w];rfl
  refine take_ (i:=1) (N:=some 12) (v:=?_) (a':=?_) #[T,T,T,F,F,F,F,F] rfl rfl (take_ofW HT_.out HW_.out (by kernel_rfl)) (fun _ _ _ h=>h) (Or.inl ⟨by rfl,?_⟩) hHeld ?_ ?_
  rotate_left
  ·rintro w' ⟨s0,s1⟩
   go_simp
   with_reducible rfl
  rotate_left;·simp only [Act.put,L_,M_,N_,i64_w,i32_w];rfl
  refine take_ (i:=3) (N:=some 14) (v:=?_) (a':=?_) #[T,T,T,T,F,F,F,F] rfl rfl (take_ofW HT_.out HW_.out (by kernel_rfl)) (fun _ _ _ h=>h) (Or.inl ⟨by rfl,?_⟩) hHeld ?_ ?_
  rotate_left
  ·rintro w' ⟨s0,s1⟩
   go_simp
   with_reducible rfl
  rotate_left;·simp only [Act.put,L_,M_,N_,i64_w,i32_w];rfl
  refine join_ (σ:=Value × Nat) 1 #[T,T,T,T,T,T,T,F] (fun s_=>[(15,s_.1),(4,.pointer (some ⟨s_.2,0,none⟩)),(16,.agg #[.int .i64 a0_0,s_.1])]) (fun s_ w'=>(w'.cell? ⟨Ak,0,none⟩ = some (.int .i64 a0_0) ∧ w'.cell? ⟨Ak,1,none⟩ = some (.slice A0_1 l0_1.length c0_1)) ∧ (Kd.R (Kd.int .i64) 3 w' w.heap.size (fun _=>True) s_.1 Aj) ∧ (w'.heap[Ak]? = some (.cells #[.int .i64 a0_0,.slice A0_1 l0_1.length c0_1] 28 (0,0))) ∧ (w'.heap[An]? = some (.cells #[.int .i64 0,.slice none 0 0] 28 (0,0))) ∧ (w'.heap[s_.2]? = some (.cells #[.int .i64 0,.slice none 0 0] 28 (0,0))) ∧ (w.heap.size ≤ s_.2) ∧ (w.heap.size ≤ s_.2) ∧ (Ak ≠ s_.2) ∧ (s_.2 ≠ Ak) ∧ (An ≠ s_.2) ∧ (s_.2 ≠ An) ∧ (Below w.heap.size w w')) ?_ ?_
  rotate_left
  ·intro hCont
   refine two_ (i:=4) (j:=6) (Ni:=some 15) (Nj:=some 4) #[T,T,T,T,T,F,F,F] #[T,T,T,T,F,F,T,F] rfl rfl rfl rfl (two_of HT_.out (by kernel_rfl)) (by decide) (by decide) (fun K hK=>?_) (fun K hK=>?_)
   ·skip
    refine goes_ Tryd.func202 (by kernel_rfl) rfl #[.slice A0_1 l0_1.length c0_1] (by rfl) rfl rfl au_ ?_
    with_reducible refine (Abo.calls _ _ l0_1 Aj _ ?side1 ?side2 A4.out).mono ?_
    (case side1=>exact cl_ (Kd.C_below HR0_1.out HB.out))
    (case side2=>exact HC0_1.out)
    rintro e w11 ⟨Bc,rfl,ho0,hb⟩
    refine ⟨_,rfl,?_⟩
    have Ap:=A_ (Kd.R_lower ho0 (below_size bb_));replace Ab:=bz Ab hb;replace Ac:=bz Ac hb;replace HB:=A_ (below_step bb_ hb);(try clear hb);(try clear hb2);(try clear hk);(try clear hi);(try clear ho0);obtain ⟨Ao12,co12,eo12⟩:=Kd.R_slice Ap.out;(first|subst eo12|(injection eo12 with f1_ f2_ f3_;have f4_:=f1_.symm;have f5_:=f3_.symm;clear f1_ f2_ f3_;subst f4_;subst f5_))
    refine hK.out _ _ ⟨blk_cell Ab.out 0,blk_cell Ab.out 1⟩ (fun hHeld=>?_)
    clear hK K;refine norm_ (a':=?_) ?_ ?_
    rotate_left
    ·show Act.put _ (some 15) _ = _
     simp only [Act.put,L_,M_,N_,i64_w,i32_w]
     rfl
    refine pure_ (i:=5) (N:=some 16) (v:=?_) (a':=?_) #[T,T,T,T,T,T,F,F] rfl rfl (any_of HT_.out (by kernel_rfl)) (fun _ _ _ h=>h) (Or.inl ⟨by rfl,?_⟩) ?_ ?_
    rotate_left;·intro w';go_simp;with_reducible rfl
    rotate_left;·simp only [Act.put,L_,M_,N_,i64_w,i32_w];rfl
    refine one_ (i:=6) (N:=some 4) #[T,T,T,T,T,T,T,F] rfl rfl (one_of HT_.out (by kernel_rfl)) (by decide) (fun K hK=>?_)
    refine box_step ?hg (N:=4) ?hd (cs:=#[.int .i64 0,.slice none 0 0]) (t:=28) ?hr ?_;(case hd=>rfl);(case hg=>rfl);(case hr=>go_simp;try rfl)
    intro Af hg w13 hbox hb
    replace Ap:=rb_ Ap hb;have Ad:=A_ (hbox);have Az:=A_ (gw_ (w:=w) hg bb_);have Ba:=A_ (gw_ (w:=w) hg bb_);replace HB:=A_ (below_step bb_ hb);have Ag:=A_ (nl_ hg Ab);have Al:=A_ (ng_ hg Ab);replace Ab:=bz Ab hb;have Ai:=A_ (nl_ hg Ac);have Am:=A_ (ng_ hg Ac);replace Ac:=bz Ac hb;clear hb hbox hg;refine hK.out _ _ ⟨blk_cell Ab.out 0,blk_cell Ab.out 1⟩ (fun hHeld=>?_)
    clear hK K;refine norm_ (a':=?_) ?_ ?_
    rotate_left
    ·show Act.put _ (some 4) _ = _
     simp only [Act.put,L_,M_,N_,i64_w,i32_w]
     rfl
    exact norm_ (by simp only [putAll,Act.put,L_,M_,N_]) (hCont (.slice Ao12 Aj.length co12,Af) _ ⟨hHeld,(rl_ Ap),(bl_ Ab),(bl_ Ac),(bl_ Ad),Az.out,Ba.out,Ag.out,Al.out,Ai.out,Am.out,bb_⟩)
   ·skip
    refine box_step ?hg (N:=4) ?hd (cs:=#[.int .i64 0,.slice none 0 0]) (t:=28) ?hr ?_;(case hd=>rfl);(case hg=>rfl);(case hr=>go_simp;try rfl)
    intro Af hg w11 hbox hb
    have Ad:=A_ (hbox);have Az:=A_ (gw_ (w:=w) hg bb_);have Ba:=A_ (gw_ (w:=w) hg bb_);replace HB:=A_ (below_step bb_ hb);have Ag:=A_ (nl_ hg Ab);have Al:=A_ (ng_ hg Ab);replace Ab:=bz Ab hb;have Ai:=A_ (nl_ hg Ac);have Am:=A_ (ng_ hg Ac);replace Ac:=bz Ac hb;clear hb hbox hg;refine hK.out _ _ ⟨blk_cell Ab.out 0,blk_cell Ab.out 1⟩ (fun hHeld=>?_)
    clear hK K;refine norm_ (a':=?_) ?_ ?_
    rotate_left
    ·show Act.put _ (some 4) _ = _
     simp only [Act.put,L_,M_,N_,i64_w,i32_w]
     rfl
    refine one_ (i:=4) (N:=some 15) #[T,T,T,T,T,F,T,F] rfl rfl (one_of HT_.out (by kernel_rfl)) (by decide) (fun K hK=>?_)
    refine goes_ Tryd.func202 (by kernel_rfl) rfl #[.slice A0_1 l0_1.length c0_1] (by rfl) rfl rfl au_ ?_
    with_reducible refine (Abo.calls _ _ l0_1 Aj _ ?side1 ?side2 A4.out).mono ?_
    (case side1=>exact cl_ (Kd.C_below HR0_1.out HB.out))
    (case side2=>exact HC0_1.out)
    rintro e w12 ⟨Bc,rfl,ho0,hb⟩
    refine ⟨_,rfl,?_⟩
    have Ap:=A_ (Kd.R_lower ho0 (below_size bb_));replace Ab:=bz Ab hb;replace Ac:=bz Ac hb;replace Ad:=bz Ad hb;replace HB:=A_ (below_step bb_ hb);(try clear hb);(try clear hb2);(try clear hk);(try clear hi);(try clear ho0);obtain ⟨Ao13,co13,eo13⟩:=Kd.R_slice Ap.out;(first|subst eo13|(injection eo13 with f1_ f2_ f3_;have f4_:=f1_.symm;have f5_:=f3_.symm;clear f1_ f2_ f3_;subst f4_;subst f5_))
    refine hK.out _ _ ⟨blk_cell Ab.out 0,blk_cell Ab.out 1⟩ (fun hHeld=>?_)
    clear hK K;refine norm_ (a':=?_) ?_ ?_
    rotate_left
    ·show Act.put _ (some 15) _ = _
     simp only [Act.put,L_,M_,N_,i64_w,i32_w]
     rfl
    refine pure_ (i:=5) (N:=some 16) (v:=?_) (a':=?_) #[T,T,T,T,T,T,T,F] rfl rfl (any_of HT_.out (by kernel_rfl)) (fun _ _ _ h=>h) (Or.inl ⟨by rfl,?_⟩) ?_ ?_
    rotate_left;·intro w';go_simp;with_reducible rfl
    rotate_left;·simp only [Act.put,L_,M_,N_,i64_w,i32_w];rfl
    exact norm_ (by simp only [putAll,Act.put,L_,M_,N_]) (hCont (.slice Ao13 Aj.length co13,Af) _ ⟨hHeld,(rl_ Ap),(bl_ Ab),(bl_ Ac),(bl_ Ad),Az.out,Ba.out,Ag.out,Al.out,Ai.out,Am.out,bb_⟩)
  rintro ⟨Bc,Af⟩ w14 ⟨hS_,h0_,h1_,h2_,h3_,h4_,h5_,h6_,h7_,h8_,h9_,h10_⟩
  have n0_ : Aside0 (Kd.R (Kd.int .i64) 3 w14 w.heap.size (fun _=>True) Bc Aj):=⟨h0_⟩;have n1_ : Aside0 (w14.heap[Ak]? = some (.cells #[.int .i64 a0_0,.slice A0_1 l0_1.length c0_1] 28 (0,0))):=⟨h1_⟩;have n2_ : Aside0 (w14.heap[An]? = some (.cells #[.int .i64 0,.slice none 0 0] 28 (0,0))):=⟨h2_⟩;have n3_ : Aside0 (w14.heap[Af]? = some (.cells #[.int .i64 0,.slice none 0 0] 28 (0,0))):=⟨h3_⟩;have n4_ : Aside0 (w.heap.size ≤ Af):=⟨h4_⟩;have n5_ : Aside0 (w.heap.size ≤ Af):=⟨h5_⟩;have n6_ : Aside0 (Ak ≠ Af):=⟨h6_⟩;have n7_ : Aside0 (Af ≠ Ak):=⟨h7_⟩;have n8_ : Aside0 (An ≠ Af):=⟨h8_⟩;have n9_ : Aside0 (Af ≠ An):=⟨h9_⟩;have n10_ : Aside0 (Below w.heap.size w w14):=⟨h10_⟩;clear Ab;clear Ac;clear HB;clear h0_ h1_ h2_ h3_ h4_ h5_ h6_ h7_ h8_ h9_ h10_;have Ap:=n0_;have Ab:=n1_;have Ac:=n2_;have Ad:=n3_;have Az:=n4_;have Ba:=n5_;have Ag:=n6_;have Al:=n7_;have Ai:=n8_;have Am:=n9_;have HB:=n10_;clear n0_ n1_ n2_ n3_ n4_ n5_ n6_ n7_ n8_ n9_ n10_;have hHeld : w14.cell? ⟨Ak,0,none⟩ = some (.int .i64 a0_0) ∧ w14.cell? ⟨Ak,1,none⟩ = some (.slice A0_1 l0_1.length c0_1):=hS_;obtain ⟨Ao15,co15,eo15⟩:=Kd.R_slice Ap.out;(first|subst eo15|(injection eo15 with f1_ f2_ f3_;have f4_:=f1_.symm;have f5_:=f3_.symm;clear f1_ f2_ f3_;subst f4_;subst f5_))
  refine norm_ (a':=?_) ?_ ?_
  rotate_left;·simp only [putAll,Act.put,L_,M_,N_];rfl
  refine one_ (i:=7) (N:=none) #[T,T,T,T,T,T,T,T] rfl rfl (one_of HT_.out (by kernel_rfl)) (by decide) (fun K hK=>?_)
  have hs16 : w14.cell? ⟨Af,0,none⟩ = some (.int .i64 0):=blk_cell Ad.out 0;have hfs16:=blk_frozen Ad.out 0;have hns16_0:=Ag.out;have hns16_1:=Ai.out;have hms16_0:=Al.out;have hms16_1:=Am.out;have hs17 : w14.cell? ⟨Af,1,none⟩ = some (.slice none 0 0):=blk_cell Ad.out 1;have hfs17:=blk_frozen Ad.out 1;have hns17_0:=Ag.out;have hns17_1:=Ai.out;have hms17_0:=Al.out;have hms17_1:=Am.out;refine skip_ (w1:=?_) (by rfl) rfl ?_ ?_
  rotate_left
  ·go_simp
   rfl
  refine hK.out _ _ ⟨((cell_far (p:=⟨Af,_,none⟩) Ag.out _).trans (((cell_far (p:=⟨Af,_,none⟩) Ag.out _).trans (hHeld.1)))),((cell_far (p:=⟨Af,_,none⟩) Ag.out _).trans (((cell_far (p:=⟨Af,_,none⟩) Ag.out _).trans (hHeld.2))))⟩ (fun hHeld=>?_)
  clear hK K;refine done_ (done_of HT_.out (by kernel_rfl)) ?_
  have hnb18:=Al.out;have hnc18:=Ag.out;have hnb19:=Am.out;have hnc19:=Ai.out;have hcz20_0 : w14.cell? ⟨Af,0,none⟩ = some (.int .i64 0):=blk_cell Ad.out 0;have hcz20_1 : w14.cell? ⟨Af,1,none⟩ = some (.slice none 0 0):=blk_cell Ad.out 1;have hfz20_0:=blk_frozen Ad.out 0;have hfz20_1:=blk_frozen Ad.out 1;try go_wp2
  go_loopg [20] k (fun kq v20 w'=>∃ (x20_1 : Int) (Ah : List Int) (Ao : Value),v20 = .int .i64 x20_1 ∧ Aside0 (Aag.l0 kq (Aj.length : Int) x20_1 a0_0 Ah = some (r1,r2,r3)) ∧ Aside0 (kq ≤ k) ∧ Aside0 (Kd.R (Kd.int .i64) 3 w' w.heap.size (fun _=>True) Ao Ah) ∧ Aside0 (w'.heap[Ak]? = some (.cells #[.int .i64 a0_0,(.slice A0_1 l0_1.length c0_1)] 28 (0,0))) ∧ Aside0 (w'.heap[An]? = some (.cells #[.int .i64 0,(.slice none 0 0)] 28 (0,0))) ∧ Aside0 (w'.heap[Af]? = some (.cells #[.int .i64 a0_0,Ao] 28 (0,0))) ∧ Aside0 (Below w.heap.size w w'))
  case atStart=>exact ⟨(0),(Aj),(.slice Ao15 Aj.length co15),(by first|rfl|(simp;done)|(simp [*];done)),H',⟨Nat.le_refl _⟩,⟨rq_ (Kd.R_mono (Kd.R_far (p:=⟨Af,1,none⟩) (Kd.R_far (p:=⟨Af,0,none⟩) (Kd.R_types Ap.out Ad.out (by decide)) (fun _ hk=>hk.2) (.int .i64 a0_0)) (fun _ hk=>hk.2) (.slice Ao15 Aj.length co15)) (fun _ hk=>trivial))⟩,⟨by (with_reducible repeat (first|refine blk_drewN ?_ _|refine blk_drew ?_|refine blk_alloc ?_ _));refine blk_far ?_ Ag.out _;(with_reducible repeat (first|refine blk_drewN ?_ _|refine blk_drew ?_|refine blk_alloc ?_ _));refine blk_far ?_ Ag.out _;(with_reducible repeat (first|refine blk_drewN ?_ _|refine blk_drew ?_|refine blk_alloc ?_ _));exact Ab.out⟩,⟨by (with_reducible repeat (first|refine blk_drewN ?_ _|refine blk_drew ?_|refine blk_alloc ?_ _));refine blk_far ?_ Ai.out _;(with_reducible repeat (first|refine blk_drewN ?_ _|refine blk_drew ?_|refine blk_alloc ?_ _));refine blk_far ?_ Ai.out _;(with_reducible repeat (first|refine blk_drewN ?_ _|refine blk_drew ?_|refine blk_alloc ?_ _));exact Ac.out⟩,⟨by (with_reducible repeat (first|refine blk_drewN ?_ _|refine blk_drew ?_|refine blk_alloc ?_ _));refine blk_put (cs:=#[.int .i64 a0_0,.slice none 0 0]) ?_ 1 _ rfl;(with_reducible repeat (first|refine blk_drewN ?_ _|refine blk_drew ?_|refine blk_alloc ?_ _));refine blk_put (cs:=#[.int .i64 0,.slice none 0 0]) ?_ 0 _ rfl;(with_reducible repeat (first|refine blk_drewN ?_ _|refine blk_drew ?_|refine blk_alloc ?_ _));exact Ad.out⟩,⟨bb_⟩⟩
  case round =>
   clear H';try clear c1
   try clear c2
   try clear p2
   try clear c3
   try clear c7
   try clear c18
   try clear c19
   try clear c20
   try clear hcz20_0
   try clear hcz20_1
   try clear hcz8_0
   try clear hcz8_1
   try clear hfz20_0
   try clear hfz20_1
   try clear hfz8_0
   try clear hfz8_1
   obtain ⟨x20_1,Ah,Ao,rfl,HA,HK1,Ae,Ab,Ac,Ad,HB⟩:=hrel;cases gk with
   | zero=>exact absurd HA.out (by simp [Aag.l0])
   | succ k1 =>
    have H:=HA.out;clear HA;simp only [Aag.l0] at H
    by_cases c21 : x20_1 < (Aj.length : Int)
    ·rw [if_pos c21] at H;have c21b0 : decide (x20_1 < (Aj.length : Int)) = true:=decide_eq_true c21;clear c21;have H':=A_ H;clear H;have hnb22:=Al.out;have hnc22:=Ag.out;have hnb23:=Am.out;have hnc23:=Ai.out;have hcz24_0 : wr.cell? ⟨Af,0,none⟩ = some (.int .i64 a0_0):=blk_cell Ad.out 0;have hcz24_1 : wr.cell? ⟨Af,1,none⟩ = some (Ao):=blk_cell Ad.out 1;have hfz24_0:=blk_frozen Ad.out 0;have hfz24_1:=blk_frozen Ad.out 1;obtain ⟨Ao25,co25,eo25⟩:=Kd.R_slice Ae.out;subst eo25;go_wp2
     go_loopg [26] k1 (fun kq v26 w'=>∃ (x26_2 : Int) (Aa : List Int) (Ao : Value),v26 = .int .i64 x26_2 ∧ Aside0 (Aag.l1 kq x20_1 (Aj.length : Int) x20_1 (Ah.length : Int) x26_2 a0_0 Aa = some (r1,r2,r3)) ∧ Aside0 (kq ≤ k1) ∧ Aside0 (Kd.R (Kd.int .i64) 3 w' w.heap.size (fun _=>True) Ao Aa) ∧ Aside0 (w'.heap[Ak]? = some (.cells #[.int .i64 a0_0,(.slice A0_1 l0_1.length c0_1)] 28 (0,0))) ∧ Aside0 (w'.heap[An]? = some (.cells #[.int .i64 0,(.slice none 0 0)] 28 (0,0))) ∧ Aside0 (w'.heap[Af]? = some (.cells #[.int .i64 a0_0,Ao] 28 (0,0))) ∧ Aside0 (Below w.heap.size w w'))
     case atStart=>exact ⟨(0),(Ah),(.slice Ao25 Ah.length co25),(by first|rfl|(simp;done)|(simp [*];done)),H',⟨Nat.le_refl _⟩,⟨rl_ Ae⟩,⟨bl_ Ab⟩,⟨bl_ Ac⟩,⟨bl_ Ad⟩,⟨bb_⟩⟩
     case round =>
      clear H';try clear c1
      try clear c2
      try clear p2
      try clear c3
      try clear c7
      try clear c18
      try clear c19
      try clear c20
      try clear c21
      try clear c21b0
      try clear c22
      try clear c23
      try clear hcz20_0
      try clear hcz20_1
      try clear hcz24_0
      try clear hcz24_1
      try clear hcz8_0
      try clear hcz8_1
      try clear hfz20_0
      try clear hfz20_1
      try clear hfz24_0
      try clear hfz24_1
      try clear hfz8_0
      try clear hfz8_1
      try clear p2
      obtain ⟨x26_2,Aa,Ao,rfl,HA,HK2,Ae,Ab,Ac,Ad,HB⟩:=hrel;cases gk with
      | zero=>exact absurd HA.out (by simp [Aag.l1])
      | succ k2 =>
       have H:=HA.out;clear HA;simp only [Aag.l1] at H
       by_cases c26 : x26_2 < (Ah.length : Int)
       ·rw [if_pos c26] at H;have c26b0 : decide (x26_2 < (Ah.length : Int)) = true:=decide_eq_true c26;clear c26;by_cases c27 : 0 ≤ x26_2
        ·rw [if_pos c27] at H;have c27b0 : decide (0 ≤ x26_2) = true:=decide_eq_true c27;clear c27;by_cases c28 : x26_2 < (Aa.length : Int)
         ·rw [if_pos c28] at H;have c28b0 : decide (x26_2 < (Aa.length : Int)) = true:=decide_eq_true c28;clear c28;replace H:=Option.bind_eq_some_iff.mp H;obtain ⟨Bi,Bj,H⟩:=H;replace H : (if Bi = true then (if 0 ≤ x20_1 then (if x20_1 < (Aa.length : Int) then (Aag.l1 k2 x20_1 (Aj.length : Int) x20_1 (Ah.length : Int) (wrap64 (x26_2 + 1)) a0_0 (Aa.set (x26_2 : Int).toNat (Go.bits .or .i64 (rd Aa x26_2) (rd Aa x20_1)))) else (none)) else (none)) else (Aag.l1 k2 x20_1 (Aj.length : Int) x20_1 (Ah.length : Int) (wrap64 (x26_2 + 1)) a0_0 Aa)) = some (r1,r2,r3):=H;have A29:=A_ Bj;clear Bj;by_cases c30 : Bi = true
          ·subst c30;have H1 : (if 0 ≤ x20_1 then (if x20_1 < (Aa.length : Int) then (Aag.l1 k2 x20_1 (Aj.length : Int) x20_1 (Ah.length : Int) (wrap64 (x26_2 + 1)) a0_0 (Aa.set (x26_2 : Int).toNat (Go.bits .or .i64 (rd Aa x26_2) (rd Aa x20_1)))) else (none)) else (none)) = some (r1,r2,r3):=by rw [if_pos rfl] at H;exact H
           clear H;have H:=H1;clear H1;by_cases c31 : 0 ≤ x20_1
           ·rw [if_pos c31] at H;have c31b0 : decide (0 ≤ x20_1) = true:=decide_eq_true c31;clear c31;by_cases c32 : x20_1 < (Aa.length : Int)
            ·rw [if_pos c32] at H;have c32b0 : decide (x20_1 < (Aa.length : Int)) = true:=decide_eq_true c32;clear c32;obtain ⟨Bk,Av⟩ : ∃ y_ : List Int,y_ = (Aa.set (x26_2 : Int).toNat (Go.bits .or .i64 (rd Aa x26_2) (rd Aa x20_1))):=⟨_,rfl⟩;replace H : (Aag.l1 k2 x20_1 (Aj.length : Int) x20_1 (Ah.length : Int) (wrap64 (x26_2 + 1)) a0_0 Bk) = some (r1,r2,r3):=by first|(rw [Av];with_reducible exact H)|(have H2_:=(Option.bind_some _ _).symm.trans H;rw [Av];with_reducible exact H2_)|(have H2_:=(Option.bind_some _ _).symm.trans H;with_reducible exact H2_)|with_reducible exact H|(rw [Av];exact H)|exact H
             have Bp:=A_ Av;clear Av;have H':=A_ H;clear H;have hnb34:=Al.out;have hnc34:=Ag.out;have hnb35:=Am.out;have hnc35:=Ai.out;have hcz36_0 : wr.cell? ⟨Af,0,none⟩ = some (.int .i64 a0_0):=blk_cell Ad.out 0;have hcz36_1 : wr.cell? ⟨Af,1,none⟩ = some (Ao):=blk_cell Ad.out 1;have hfz36_0:=blk_frozen Ad.out 0;have hfz36_1:=blk_frozen Ad.out 1;obtain ⟨Ao37,co37,eo37⟩:=Kd.R_slice Ae.out;subst eo37;have At : 0 ≤ (x26_2 : Int):=of_decide_eq_true (by first|(with_reducible assumption)|assumption);have Au : x26_2 < (Aa.length : Int):=of_decide_eq_true (by first|(with_reducible assumption)|assumption);obtain ⟨As,Bd,Aw⟩:=Kd.at_int (Kd.R_reads' Ae.out).2.2 x26_2 At Au;cases Bd
             replace At:=eq_true At;replace Au:=eq_true Au;try go_wp2_with (first|((with_reducible refine gate_callee (f:=192) rfl ?_);refine goesL_ (some 35) rfl rfl Tryd.func192 (by kernel_rfl) rfl #[.int .i64 (rd Aa x26_2),.int .i64 x20_1] rfl au_ ?_;(with_reducible refine (Abc.calls (rd Aa x26_2) x20_1 true _ A29.out).mono ?_);rintro e w' ⟨rfl,⟨nd,rfl⟩⟩;refine ⟨_,rfl,?_⟩;(try (rw [drewN_self wr];generalize hq_ : World.drewN wr _ = wr;have n0_ : Aside0 (Kd.R (Kd.int .i64) 3 wr w.heap.size (fun _=>True) (.slice (some As) Aa.length co37) Aa):=⟨by rw [← hq_];exact (rl_ Ae)⟩;have n1_ : Aside0 (wr.heap[Ak]? = some (.cells #[.int .i64 a0_0,.slice A0_1 l0_1.length c0_1] 28 (0,0))):=⟨by rw [← hq_];exact (bl_ Ab)⟩;have n2_ : Aside0 (wr.heap[An]? = some (.cells #[.int .i64 0,.slice none 0 0] 28 (0,0))):=⟨by rw [← hq_];exact (bl_ Ac)⟩;have n3_ : Aside0 (wr.heap[Af]? = some (.cells #[.int .i64 a0_0,.slice (some As) Aa.length co37] 28 (0,0))):=⟨by rw [← hq_];exact (bl_ Ad)⟩;have n4_ : Aside0 (Below w.heap.size w wr):=⟨by rw [← hq_];exact bb_⟩;clear Ae Ab Ac Ad HB hq_;have Ae:=n0_;have Ab:=n1_;have Ac:=n2_;have Ad:=n3_;have HB:=n4_;clear n0_ n1_ n2_ n3_ n4_;have Bt : wr.cell? ⟨Ak,0,none⟩ = some (.int .i64 a0_0):=blk_cell Ab.out 0;have Bu:=blk_frozen Ab.out 0;have Bw : wr.cell? ⟨Ak,1,none⟩ = some (.slice A0_1 l0_1.length c0_1):=blk_cell Ab.out 1;have Bx:=blk_frozen Ab.out 1;have Bz : wr.cell? ⟨An,0,none⟩ = some (.int .i64 0):=blk_cell Ac.out 0;have B0:=blk_frozen Ac.out 0;have B1 : wr.cell? ⟨An,1,none⟩ = some (.slice none 0 0):=blk_cell Ac.out 1;have B2:=blk_frozen Ac.out 1;have B4 : wr.cell? ⟨Af,0,none⟩ = some (.int .i64 a0_0):=blk_cell Ad.out 0;have Ca:=blk_frozen Ad.out 0;have Cb : wr.cell? ⟨Af,1,none⟩ = some (.slice (some As) Aa.length co37):=blk_cell Ad.out 1;have Cc:=blk_frozen Ad.out 1))))
             replace Ae:=A_ (Kd.R_drew Ae.out);replace Ab:=A_ (blk_drew Ab.out);replace Ac:=A_ (blk_drew Ac.out);replace Ad:=A_ (blk_drew Ad.out);replace HB:=A_ (below_drew1 HB.out);have Be : 0 ≤ (x26_2 : Int):=of_decide_eq_true (by first|(with_reducible assumption)|assumption);have Bf : x26_2 < (Aa.length : Int):=of_decide_eq_true (by first|(with_reducible assumption)|assumption);obtain ⟨Bq,Cd,Ax⟩:=Kd.at_int (Kd.R_reads' Ae.out).2.2 x26_2 Be Bf;obtain rfl : As = Bq:=(by injection Cd);replace Be:=eq_true Be;replace Bf:=eq_true Bf;have Bg : 0 ≤ (x20_1 : Int):=of_decide_eq_true (by first|(with_reducible assumption)|assumption);have Bh : x20_1 < (Aa.length : Int):=of_decide_eq_true (by first|(with_reducible assumption)|assumption);obtain ⟨Br,Ce,Ay⟩:=Kd.at_int (Kd.R_reads' Ae.out).2.2 x20_1 Bg Bh;obtain rfl : As = Br:=(by injection Ce);replace Bg:=eq_true Bg;replace Bh:=eq_true Bh;have p33 : 0 ≤ (x26_2 : Int):=of_decide_eq_true (by first|(with_reducible assumption)|assumption);have q33 : (x26_2 : Int) < ((Aa.length : Int) : Int):=of_decide_eq_true (by first|(with_reducible assumption)|assumption);obtain ⟨go33,co33,eo33,gb33,gl33,cl33,HG33⟩:=Kd.R_form Ae.out (by omega);(first|cases eo33|(injection eo33 with ea_ en_ ec_;(first|subst ea_|(injection ea_ with ea_;subst ea_));subst ec_;clear en_))
             have GB33:=A_ gb33;have GG33:=A_ HG33;clear gb33 gl33 HG33;(first|simp only [add_plain] at Aw|skip)
             (first|simp only [add_plain] at Ax|skip)
             (first|simp only [add_plain] at Ay|skip)
             obtain ⟨hx33_0,hf33_0⟩:=Kd.R_celln 0 Ae.out (x26_2 : Int) p33 q33;replace p33:=eq_true p33;replace q33:=eq_true q33;have HP39:=Kd.R_putn Ae.out (x26_2 : Int) (Go.bits .or .i64 (rd Aa x26_2) (rd Aa x20_1));rw [← Bp.out] at HP39;have HQ39:=A_ HP39;clear HP39;refine start_ (n:=13) (S:=fun w'=>w'.cell? ⟨Af,0,none⟩ = some (.int .i64 a0_0) ∧ w'.cell? ⟨Af,1,none⟩ = some (.slice (some ⟨go33,0,none⟩) Aa.length co37) ∧ w'.cell? ⟨go33,(x26_2).toNat,none⟩ = some (.int .i64 (rd Aa x26_2)) ∧ w'.cell? ⟨go33,(x20_1).toNat,none⟩ = some (.int .i64 (rd Aa x20_1))) (ds:=[12]) #[F,F,F,F,F,F,F,F,F,F,F,F,F] (by kernel_rfl) rfl rfl ⟨blk_cell Ad.out 0,blk_cell Ad.out 1,Ax,Ay⟩ (fun hHeld=>?_);refine with_tabW Aag.tab11 Aag.bits11 (fun HT_ HW_=>?_)
             generalize wr.drew = w38 at Ae Ab Ac Ad HB GG33 HQ39 hf33_0 hx33_0 Aw Ax Ay hHeld ⊢
             refine pure_ (i:=0) (N:=some 36) (v:=?_) (a':=?_) #[T,F,F,F,F,F,F,F,F,F,F,F,F] rfl rfl (any_of HT_.out (by kernel_rfl)) (fun _ _ _ h=>h) (Or.inl ⟨by rfl,?_⟩) ?_ ?_
             rotate_left;·intro w';go_simp;with_reducible rfl
             rotate_left;·simp only [Act.put,L_,M_,N_,i64_w,i32_w];rfl
             refine pure_ (i:=2) (N:=some 38) (v:=?_) (a':=?_) #[T,F,T,F,F,F,F,F,F,F,F,F,F] rfl rfl (any_of HT_.out (by kernel_rfl)) (fun _ _ _ h=>h) (Or.inl ⟨by rfl,?_⟩) ?_ ?_
             rotate_left;·intro w';go_simp;with_reducible rfl
             rotate_left;·simp only [Act.put,L_,M_,N_,i64_w,i32_w];rfl
             refine pure_ (i:=5) (N:=some 41) (v:=?_) (a':=?_) #[T,F,T,F,F,T,F,F,F,F,F,F,F] rfl rfl (any_of HT_.out (by kernel_rfl)) (fun _ _ _ h=>h) (Or.inl ⟨by rfl,?_⟩) ?_ ?_
             rotate_left;·intro w';go_simp;with_reducible rfl
             rotate_left;·simp only [Act.put,L_,M_,N_,i64_w,i32_w];rfl
             refine pure_ (i:=7) (N:=some 43) (v:=?_) (a':=?_) #[T,F,T,F,F,T,F,T,F,F,F,F,F] rfl rfl (any_of HT_.out (by kernel_rfl)) (fun _ _ _ h=>h) (Or.inl ⟨by rfl,?_⟩) ?_ ?_
             rotate_left;·intro w';go_simp;with_reducible rfl
             rotate_left;·simp only [Act.put,L_,M_,N_,i64_w,i32_w];rfl
             refine take_ (i:=1) (N:=some 37) (v:=?_) (a':=?_) #[T,T,T,F,F,T,F,T,F,F,F,F,F] rfl rfl (take_ofW HT_.out HW_.out (by kernel_rfl)) (fun _ _ _ h=>h) (Or.inl ⟨by rfl,?_⟩) hHeld ?_ ?_
             rotate_left
             ·rintro w' ⟨s0,s1,s2,s3⟩
              go_simp
              with_reducible rfl
             rotate_left;·simp only [Act.put,L_,M_,N_,i64_w,i32_w];rfl
             refine pure_ (i:=3) (N:=some 39) (v:=?_) (a':=?_) #[T,T,T,T,F,T,F,T,F,F,F,F,F] rfl rfl (any_of HT_.out (by kernel_rfl)) (fun _ _ _ h=>h) (Or.inl ⟨by rfl,?_⟩) ?_ ?_
             rotate_left;·intro w';go_simp;with_reducible rfl
             rotate_left;·simp only [Act.put,L_,M_,N_,i64_w,i32_w];rfl
             refine take_ (i:=4) (N:=some 40) (v:=?_) (a':=?_) #[T,T,T,T,T,T,F,T,F,F,F,F,F] rfl rfl (take_ofW HT_.out HW_.out (by kernel_rfl)) (fun _ _ _ h=>h) (Or.inl ⟨by rfl,?_⟩) hHeld ?_ ?_
             rotate_left
             ·rintro w' ⟨s0,s1,s2,s3⟩
              go_simp
              with_reducible rfl
             rotate_left;·simp only [Act.put,L_,M_,N_,i64_w,i32_w];rfl
             refine take_ (i:=6) (N:=some 42) (v:=?_) (a':=?_) #[T,T,T,T,T,T,T,T,F,F,F,F,F] rfl rfl (take_ofW HT_.out HW_.out (by kernel_rfl)) (fun _ _ _ h=>h) (Or.inl ⟨by rfl,?_⟩) hHeld ?_ ?_
             rotate_left
             ·rintro w' ⟨s0,s1,s2,s3⟩
              go_simp
              with_reducible rfl
             rotate_left;·simp only [Act.put,L_,M_,N_,i64_w,i32_w];rfl
             refine pure_ (i:=8) (N:=some 44) (v:=?_) (a':=?_) #[T,T,T,T,T,T,T,T,T,F,F,F,F] rfl rfl (any_of HT_.out (by kernel_rfl)) (fun _ _ _ h=>h) (Or.inl ⟨by rfl,?_⟩) ?_ ?_
             rotate_left;·intro w';go_simp;with_reducible rfl
             rotate_left;·simp only [Act.put,L_,M_,N_,i64_w,i32_w];rfl
             refine take_ (i:=9) (N:=some 45) (v:=?_) (a':=?_) #[T,T,T,T,T,T,T,T,T,T,F,F,F] rfl rfl (take_ofW HT_.out HW_.out (by kernel_rfl)) (fun _ _ _ h=>h) (Or.inl ⟨by rfl,?_⟩) hHeld ?_ ?_
             rotate_left
             ·rintro w' ⟨s0,s1,s2,s3⟩
              go_simp
              with_reducible rfl
             rotate_left;·simp only [Act.put,L_,M_,N_,i64_w,i32_w];rfl
             refine pure_ (i:=10) (N:=some 46) (v:=?_) (a':=?_) #[T,T,T,T,T,T,T,T,T,T,T,F,F] rfl rfl (any_of HT_.out (by kernel_rfl)) (fun _ _ _ h=>h) (Or.inl ⟨by rfl,?_⟩) ?_ ?_
             rotate_left;·intro w';go_simp;with_reducible rfl
             rotate_left;·simp only [Act.put,L_,M_,N_,i64_w,i32_w];rfl
             refine pure_ (i:=11) (N:=some 47) (v:=?_) (a':=?_) #[T,T,T,T,T,T,T,T,T,T,T,T,F] rfl rfl (any_of HT_.out (by kernel_rfl)) (fun _ _ _ h=>h) (Or.inl ⟨by rfl,?_⟩) ?_ ?_
             rotate_left;·intro w';go_simp;with_reducible rfl
             rotate_left;·simp only [Act.put,L_,M_,N_,i64_w,i32_w];rfl
             refine last_ (i:=12) (N:=none) #[T,T,T,T,T,T,T,T,T,T,T,T,T] rfl rfl (one_of HT_.out (by kernel_rfl)) (by decide) (fun K hK=>?_)
             refine skip_ (w1:=?_) (by rfl) rfl ?_ ?_
             rotate_left
             ·go_simp
              rfl
             refine hK.out _ _ ?_
             clear hK K;refine done_ (done_of HT_.out (by kernel_rfl)) ?_
             try go_wp2
             go_roundg k2
             case measure=>have:=HK1.out;have:=HK2.out;omega
             case rel=>exact ⟨(wrap64 (x26_2 + 1)),(Bk),(.slice (some ⟨go33,0,none⟩) Aa.length co37),(by first|rfl|(simp;done)|(simp [*];done)),H',⟨by have:=HK1.out;have:=HK2.out;omega⟩,⟨rl_ HQ39⟩,⟨by (with_reducible repeat (first|refine blk_drewN ?_ _|refine blk_drew ?_|refine blk_alloc ?_ _));refine blk_far ?_ (by have h_:=Kd.R_ne Ae.out Ab.out (by decide);intro e_;exact h_ (by rw [e_];rfl)) _;(with_reducible repeat (first|refine blk_drewN ?_ _|refine blk_drew ?_|refine blk_alloc ?_ _));exact Ab.out⟩,⟨by (with_reducible repeat (first|refine blk_drewN ?_ _|refine blk_drew ?_|refine blk_alloc ?_ _));refine blk_far ?_ (by have h_:=Kd.R_ne Ae.out Ac.out (by decide);intro e_;exact h_ (by rw [e_];rfl)) _;(with_reducible repeat (first|refine blk_drewN ?_ _|refine blk_drew ?_|refine blk_alloc ?_ _));exact Ac.out⟩,⟨by (with_reducible repeat (first|refine blk_drewN ?_ _|refine blk_drew ?_|refine blk_alloc ?_ _));refine blk_far ?_ (by have h_:=Kd.R_ne Ae.out Ad.out (by decide);intro e_;exact h_ (by rw [e_];rfl)) _;(with_reducible repeat (first|refine blk_drewN ?_ _|refine blk_drew ?_|refine blk_alloc ?_ _));exact Ad.out⟩,⟨by repeat (first|(with_reducible first|exact HB.out|apply below_alloc|apply pw_below_drewN|apply below_drew1|refine below_set ?_ GB33.out|refine below_set ?_ (Aside0.out (by assumption)))|exact HB.out)⟩⟩
            ·rw [if_neg c32] at H;exact absurd H (by simp)
           ·rw [if_neg c31] at H;exact absurd H (by simp)
          ·replace c30:=Bool.eq_false_iff.mpr c30;subst c30;have H1 : (Aag.l1 k2 x20_1 (Aj.length : Int) x20_1 (Ah.length : Int) (wrap64 (x26_2 + 1)) a0_0 Aa) = some (r1,r2,r3):=by rw [if_neg (show ¬ (false = true) by decide)] at H;exact H
           clear H;have H:=H1;clear H1;have H':=A_ H;clear H;have hnb40:=Al.out;have hnc40:=Ag.out;have hnb41:=Am.out;have hnc41:=Ai.out;have hcz42_0 : wr.cell? ⟨Af,0,none⟩ = some (.int .i64 a0_0):=blk_cell Ad.out 0;have hcz42_1 : wr.cell? ⟨Af,1,none⟩ = some (Ao):=blk_cell Ad.out 1;have hfz42_0:=blk_frozen Ad.out 0;have hfz42_1:=blk_frozen Ad.out 1;obtain ⟨Ao43,co43,eo43⟩:=Kd.R_slice Ae.out;subst eo43;have At : 0 ≤ (x26_2 : Int):=of_decide_eq_true (by first|(with_reducible assumption)|assumption);have Au : x26_2 < (Aa.length : Int):=of_decide_eq_true (by first|(with_reducible assumption)|assumption);obtain ⟨As,Bd,Aw⟩:=Kd.at_int (Kd.R_reads' Ae.out).2.2 x26_2 At Au;cases Bd
           replace At:=eq_true At;replace Au:=eq_true Au;go_wp2_with (first|((with_reducible refine gate_callee (f:=192) rfl ?_);refine goesL_ (some 35) rfl rfl Tryd.func192 (by kernel_rfl) rfl #[.int .i64 (rd Aa x26_2),.int .i64 x20_1] rfl au_ ?_;(with_reducible refine (Abc.calls (rd Aa x26_2) x20_1 false _ A29.out).mono ?_);rintro e w' ⟨rfl,⟨nd,rfl⟩⟩;refine ⟨_,rfl,?_⟩))
           go_roundg k2
           case measure=>have:=HK1.out;have:=HK2.out;omega
           case rel=>exact ⟨(wrap64 (x26_2 + 1)),(Aa),(.slice (some As) Aa.length co43),(by first|rfl|(simp;done)|(simp [*];done)),H',⟨by have:=HK1.out;have:=HK2.out;omega⟩,⟨rl_ Ae⟩,⟨bl_ Ab⟩,⟨bl_ Ac⟩,⟨bl_ Ad⟩,⟨bb_⟩⟩
         ·rw [if_neg c28] at H;exact absurd H (by simp)
        ·rw [if_neg c27] at H;exact absurd H (by simp)
       ·rw [if_neg c26] at H;have c26b0 : decide (x26_2 < (Ah.length : Int)) = false:=decide_eq_false c26;clear c26;have H':=A_ H;clear H;go_wp2
        go_roundg k2
        case measure=>have:=HK1.out;have:=HK2.out;omega
        case rel=>exact ⟨(wrap64 (x20_1 + 1)),(Aa),(Ao),(by first|rfl|(simp;done)|(simp [*];done)),H',⟨by have:=HK1.out;have:=HK2.out;omega⟩,⟨rl_ Ae⟩,⟨bl_ Ab⟩,⟨bl_ Ac⟩,⟨bl_ Ad⟩,⟨bb_⟩⟩
    ·rw [if_neg c21] at H;have c21b0 : decide (x20_1 < (Aj.length : Int)) = false:=decide_eq_false c21;clear c21;simp only [Option.some.injEq,Prod.mk.injEq] at H
     obtain ⟨rfl,rfl,rfl⟩:=H;have hnb44:=Al.out;have hnc44:=Ag.out;have hnb45:=Am.out;have hnc45:=Ai.out;have hcz46_0 : wr.cell? ⟨Af,0,none⟩ = some (.int .i64 a0_0):=blk_cell Ad.out 0;have hcz46_1 : wr.cell? ⟨Af,1,none⟩ = some (Ao):=blk_cell Ad.out 1;have hfz46_0:=blk_frozen Ad.out 0;have hfz46_1:=blk_frozen Ad.out 1;have hnb47:=Ar.out;have hnc47:=Aq.out;have hcz48_0 : wr.cell? ⟨An,0,none⟩ = some (.int .i64 0):=blk_cell Ac.out 0;have hcz48_1 : wr.cell? ⟨An,1,none⟩ = some (.slice none 0 0):=blk_cell Ac.out 1;have hfz48_0:=blk_frozen Ac.out 0;have hfz48_1:=blk_frozen Ac.out 1;obtain ⟨Ao49,co49,eo49⟩:=Kd.R_slice Ae.out;subst eo49;go_wp2
     refine bodyPost_ret (results_ct rfl _ _ An 28 #[.int .i64 a0_0,.slice Ao49 Ah.length co49] (0,0) _ rfl (by (with_reducible repeat (first|refine blk_drewN ?_ _|refine blk_drew ?_|refine blk_alloc ?_ _));refine blk_put (cs:=#[.int .i64 a0_0,.slice none 0 0]) ?_ 1 _ rfl;(with_reducible repeat (first|refine blk_drewN ?_ _|refine blk_drew ?_|refine blk_alloc ?_ _));refine blk_put (cs:=#[.int .i64 0,.slice none 0 0]) ?_ 0 _ rfl;(with_reducible repeat (first|refine blk_drewN ?_ _|refine blk_drew ?_|refine blk_alloc ?_ _));exact Ac.out) Tryd.underlying28 rfl (by kernel_rfl)) rfl ?_
     exact ⟨_,by first|rfl|(simp [errW_none,errW_some] <;> rfl)|(simp [*,errW_none,errW_some] <;> rfl),rq_ (Kd.R_mono (Kd.R_far (p:=⟨An,1,none⟩) (Kd.R_far (p:=⟨An,0,none⟩) (Kd.R_types Ae.out Ac.out (by decide)) (fun _ hk=>hk.2) (.int .i64 a0_0)) (fun _ hk=>hk.2) (.slice Ao49 Ah.length co49)) (fun _ hk=>trivial)),bb_⟩
 ·replace c3:=Bool.eq_false_iff.mpr c3;subst c3;have H1 : (some (0,([] : List Int),false)) = some (r1,r2,r3):=by rw [if_neg (show ¬ (false = true) by decide)] at H;exact H
  clear H;have H:=H1;clear H1;simp only [Option.some.injEq,Prod.mk.injEq] at H
  obtain ⟨rfl,rfl,rfl⟩:=H;go_enter Tryd.func239,Tryd.ntmps239
  go_wp2_with (first|((with_reducible refine gate_dst (N:=1) rfl ?_);refine box_event ?hg (N:=1) ?hd (cs:=#[.int .i64 a0_0,.slice A0_1 l0_1.length c0_1]) (t:=28) ?hr ?_;(case hd=>rfl);(case hg=>rfl);(case hr=>go_simp;try rfl);intro Ak hg w50 hbox hb;have Ab:=A_ (hbox);have Bl:=A_ (gw_ (w:=w) hg bb_);have Bm:=A_ (gw_ (w:=w) hg bb_);replace HB:=A_ (below_step bb_ hb);clear hb hbox hg)|((with_reducible refine gate_dst (N:=2) rfl ?_);refine box_event ?hg (N:=2) ?hd (cs:=#[.int .i64 0,.slice none 0 0]) (t:=28) ?hr ?_;(case hd=>rfl);(case hg=>rfl);(case hr=>go_simp;try rfl);intro An hg w51 hbox hb;have Ac:=A_ (hbox);have Bn:=A_ (gw_ (w:=w) hg bb_);have Bo:=A_ (gw_ (w:=w) hg bb_);replace HB:=A_ (below_step bb_ hb);have Aq:=A_ (nl_ hg Ab);have Ar:=A_ (ng_ hg Ab);replace Ab:=bz Ab hb;clear hb hbox hg;have hnb52:=Aq.out;have hnc52:=Ar.out;have hcz53_0 : w51.cell? ⟨Ak,0,none⟩ = some (.int .i64 a0_0):=blk_cell Ab.out 0;have hcz53_1 : w51.cell? ⟨Ak,1,none⟩ = some (.slice A0_1 l0_1.length c0_1):=blk_cell Ab.out 1;have hfz53_0:=blk_frozen Ab.out 0;have hfz53_1:=blk_frozen Ab.out 1)|((with_reducible refine gate_callee (f:=207) rfl ?_);refine goesL_ (some 8) rfl rfl Tryd.func207 (by kernel_rfl) rfl #[.agg #[.int .i64 a0_0,.slice A0_1 l0_1.length c0_1]] rfl au_ ?_;(with_reducible refine (Abe.calls k a0_0 _ _ l0_1 false _ ?side1 ?side2 A2.out).mono ?_);(case side1=>exact cl_ (Kd.C_below HR0_1.out HB.out));(case side2=>exact HC0_1.out);rintro e w54 ⟨rfl,hb⟩;refine ⟨_,rfl,?_⟩;replace Ab:=bz Ab hb;replace Ac:=bz Ac hb;replace HB:=A_ (below_step bb_ hb);(try clear hb);(try clear hb2);(try clear hk);(try clear hi);have hcz55_0 : w54.cell? ⟨An,0,none⟩ = some (.int .i64 0):=blk_cell Ac.out 0;have hcz55_1 : w54.cell? ⟨An,1,none⟩ = some (.slice none 0 0):=blk_cell Ac.out 1;have hfz55_0:=blk_frozen Ac.out 0;have hfz55_1:=blk_frozen Ac.out 1))
  refine bodyPost_ret (results_ct rfl _ _ An 28 #[.int .i64 0,.slice none 0 0] (0,0) _ rfl (by (with_reducible repeat (first|refine blk_drewN ?_ _|refine blk_drew ?_|refine blk_alloc ?_ _));refine blk_put (cs:=#[.int .i64 0,.slice none 0 0]) ?_ 1 _ rfl;(with_reducible repeat (first|refine blk_drewN ?_ _|refine blk_drew ?_|refine blk_alloc ?_ _));refine blk_put (cs:=#[.int .i64 0,.slice none 0 0]) ?_ 0 _ rfl;(with_reducible repeat (first|refine blk_drewN ?_ _|refine blk_drew ?_|refine blk_alloc ?_ _));exact Ac.out) Tryd.underlying28 rfl (by kernel_rfl)) rfl ?_
  exact ⟨_,by first|rfl|(simp [errW_none,errW_some] <;> rfl)|(simp [*,errW_none,errW_some] <;> rfl),by first|exact Kd.R_nil _ _ _ _ _|exact Kd.N_nil _ _ _ _ _|exact Kd.V_nil _ _ _ _ _|exact Kd.Q_nil _ _ _ _ _|exact Kd.S_nil _ _ _ _ _,bb_⟩
end Go.Proofs.YtimjblnglhmakaaDoor.P

