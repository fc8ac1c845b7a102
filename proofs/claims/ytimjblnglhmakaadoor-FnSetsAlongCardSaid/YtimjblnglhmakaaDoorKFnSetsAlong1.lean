/- A part of the proof that the law FnSetsAlong holds at every input. Written by wip/pack.py: the kit's printed words that are used, the functions' walks as wip/gen.py prints them, and hand proofs. -/
import Derived.Test.YtimjblnglhmakaaDoorKFnSetsAlong0
import Derived.RangeFuncBox
import Derived.RangeFuncLeaves
import Derived.Shelf.Abstract
import Derived.Shelf.AbstractIn
import Derived.WalkKit
import Derived.OwnWalkIn
import Derived.TacticsInMore
import Derived.LoopNIn
import Derived.LoopIn
import Derived.Maps.AppendAt
import Derived.Lib.SlKeysI
import Derived.Shelf.SortM.Plain
import Derived.Shelf.SortM.SortNone
import Derived.Shelf.SlicesG.CompactI
import Derived.Shelf.SlicesG.SearchI
import Derived.Test.YtimjblnglhmakaaDoorProg
namespace Go.Proofs.YtimjblnglhmakaaDoor.P
open Go.RowKit Go.Proofs.YtimjblnglhmakaaDoorW.PrintWords Go.Proofs.YtimjblnglhmakaaDoorW.PrintLast Go.Proofs.YtimjblnglhmakaaDoorW.PrintMore
open Bool renaming true → T, false → F
open List renaming setIfInBounds_toArray → L_, set_cons_zero → M_, set_cons_succ → N_, map_toArray → P_, map_cons → Q_, map_nil → R_, length_drop → S_, length_take → U_
open Aside0 renaming mk → A_
attribute [local go_sem] max2_int min2_int max_two min_two max_three min_three max_four min_four
set_option linter.unusedVariables false
set_option linter.unusedSimpArgs false
attribute [local go_sem] fldOrder_0 fldOrder_1
def Abi.f (k : Nat) (a0_0 : Int) (l0_1 : List Int) : Option (Int × List Int) := (Aai.f k a0_0 (fun x0_ x1_ => Abr.f x0_ x1_ a0_0 l0_1)).bind fun bt166 => (some (bt166.1, bt166.2))
set_option maxHeartbeats 8000000 in
set_option maxRecDepth 100000 in
theorem Abi.calls (k : Nat) (a0_0 : Int) (A0_1 : Option Addr) (c0_1 : Nat) (l0_1 : List Int) (r1 : Int) (r2 : List Int) (w : World) (hr0_1 : Kd.C (Kd.int .i64) w A0_1 l0_1.length l0_1) (hc0_1 : l0_1.length ≤ c0_1) (h : Abi.f k a0_0 l0_1 = some (r1,r2)) :
 Calls Tryd.prog 113 #[.agg #[.int .i64 a0_0,.slice A0_1 l0_1.length c0_1]] w fun e w'=>∃ v1_ : Value,e = .returned (.agg #[.int .i64 r1,v1_]) ∧ Kd.R (Kd.int .i64) 3 w' w.heap.size (fun _=>True) v1_ r2 ∧ Below w.heap.size w w':=by
 have hu28:=Tryd.underlying28;have HR0_1:=A_ hr0_1;have HC0_1:=A_ hc0_1;clear hr0_1 hc0_1;have HB:=A_ (Below.refl w.heap.size w);have H : ((Aai.f k a0_0 (fun x0_ x1_=>Abr.f x0_ x1_ a0_0 l0_1)).bind fun Ai=>(some (Ai.1,Ai.2))) = some (r1,r2):=h;clear h;replace H:=Option.bind_eq_some_iff.mp H;obtain ⟨⟨Ae,Af⟩,A20,H⟩:=H;replace H : (some (Ae,Af)) = some (r1,r2):=H;have A2:=A_ A20;clear A20;simp only [Option.some.injEq,Prod.mk.injEq] at H
 obtain ⟨rfl,rfl⟩:=H;go_enter Tryd.func113,Tryd.ntmps113
 go_wp2_with (first|((with_reducible refine gate_dst (N:=1) rfl ?_);refine box_event ?hg (N:=1) ?hd (cs:=#[.int .i64 a0_0,.slice A0_1 l0_1.length c0_1]) (t:=28) ?hr ?_;(case hd=>rfl);(case hg=>rfl);(case hr=>go_simp;try rfl);intro Ac hg w3 hbox hb;have Aa:=A_ (hbox);have Ak:=A_ (gw_ (w:=w) hg bb_);have Al:=A_ (gw_ (w:=w) hg bb_);replace HB:=A_ (below_step bb_ hb);clear hb hbox hg)|((with_reducible refine gate_dst (N:=2) rfl ?_);refine box_event ?hg (N:=2) ?hd (cs:=#[.int .i64 0,.slice none 0 0]) (t:=28) ?hr ?_;(case hd=>rfl);(case hg=>rfl);(case hr=>go_simp;try rfl);intro Ad hg w4 hbox hb;have Ab:=A_ (hbox);have Am:=A_ (gw_ (w:=w) hg bb_);have An:=A_ (gw_ (w:=w) hg bb_);replace HB:=A_ (below_step bb_ hb);have Ag:=A_ (nl_ hg Aa);have Ah:=A_ (ng_ hg Aa);replace Aa:=bz Aa hb;clear hb hbox hg;have hnb5:=Ag.out;have hnc5:=Ah.out;have hcz6_0 : w4.cell? ⟨Ac,0,none⟩ = some (.int .i64 a0_0):=blk_cell Aa.out 0;have hcz6_1 : w4.cell? ⟨Ac,1,none⟩ = some (.slice A0_1 l0_1.length c0_1):=blk_cell Aa.out 1;have hfz6_0:=blk_frozen Aa.out 0;have hfz6_1:=blk_frozen Aa.out 1)|((with_reducible refine gate_callee (f:=114) rfl ?_);refine goesL_ (some 6) rfl rfl Tryd.func114 (by kernel_rfl) rfl #[.int .i64 a0_0,.func (.func 195) #[] #[.pointer (some ⟨Ac,0,none⟩)]] rfl au_ ?_;(with_reducible refine (Aai.calls k a0_0 (fun x0_ x1_=>Abr.f x0_ x1_ a0_0 l0_1) Ae Af _ _ _ ?side1 ?side2 A2.out).mono ?_);(case side1=>exact fun a_ w_=>enters_of Tryd.func195 (by kernel_rfl) rfl a_ w_);(case side2=>(intro W_ x0_ x1_ r_ hB_ h_;refine Calls.mono (Abr.calls x0_ x1_ Ac a0_0 _ _ l0_1 r_ W_ (blk_below (g:=Ac) (o:=.cells #[.int .i64 a0_0,.slice A0_1 l0_1.length c0_1] 28 (0,0)) (bl_ Aa) hB_) (Kd.C_below (by exact cl_ (Kd.C_below HR0_1.out HB.out)) hB_) (by exact HC0_1.out) h_) ?_;rintro e_ w_ ⟨h1_,h2_⟩;exact ⟨h1_,h2_⟩));rintro e w7 ⟨Ao,rfl,ho0,hb⟩;refine ⟨_,rfl,?_⟩;have Aj:=A_ (Kd.R_lower ho0 (below_size bb_));replace Aa:=bz Aa hb;replace Ab:=bz Ab hb;replace HB:=A_ (below_step bb_ hb);(try clear hb);(try clear hb2);(try clear hk);(try clear hi);(try clear ho0);have hcz8_0 : w7.cell? ⟨Ad,0,none⟩ = some (.int .i64 0):=blk_cell Ab.out 0;have hcz8_1 : w7.cell? ⟨Ad,1,none⟩ = some (.slice none 0 0):=blk_cell Ab.out 1;have hfz8_0:=blk_frozen Ab.out 0;have hfz8_1:=blk_frozen Ab.out 1;obtain ⟨Ao9,co9,eo9⟩:=Kd.R_slice Aj.out;subst eo9))
 refine bodyPost_ret (results_cell_row rfl _ _ Ad 28 #[.int .i64 Ae,.slice Ao9 Af.length co9] (0,0) _ rfl (by (with_reducible repeat (first|refine blk_drewN ?_ _|refine blk_drew ?_|refine blk_alloc ?_ _));refine blk_put (cs:=#[.int .i64 Ae,.slice none 0 0]) ?_ 1 _ rfl;(with_reducible repeat (first|refine blk_drewN ?_ _|refine blk_drew ?_|refine blk_alloc ?_ _));refine blk_put (cs:=#[.int .i64 0,.slice none 0 0]) ?_ 0 _ rfl;(with_reducible repeat (first|refine blk_drewN ?_ _|refine blk_drew ?_|refine blk_alloc ?_ _));exact Ab.out) Tryd.underlying28 rfl (by kernel_rfl)) rfl ?_
 exact ⟨_,by first|rfl|(simp [errW_none,errW_some] <;> rfl)|(simp [*,errW_none,errW_some] <;> rfl),rq_ (Kd.R_mono (Kd.R_far (p:=⟨Ad,1,none⟩) (Kd.R_far (p:=⟨Ad,0,none⟩) (Kd.R_types Aj.out Ab.out (by decide)) (fun _ hk=>hk.2) (.int .i64 Ae)) (fun _ hk=>hk.2) (.slice Ao9 Af.length co9)) (fun _ hk=>trivial)),bb_⟩
end Go.Proofs.YtimjblnglhmakaaDoor.P
namespace Go.Proofs.YtimjblnglhmakaaDoor.HD
open Go.RowKit Go.Shelf Go.Maps Go.Sort Go.Proofs.YtimjblnglhmakaaDoorW.PrintMore Go.Proofs.YtimjblnglhmakaaDoorW.PrintLast Go.Proofs.YtimjblnglhmakaaDoorW.PrintWords
attribute [local go_sem] Oper.semAt_some
def sortL_ren : Go.Shelf.Ren := ⟨fun | 5 => 190 | 8 => 232 | 7 => 231 | 19 => 264 | 20 => 265 | 10 => 256 | 11 => 257 | 12 => 258 | 13 => 259 | 14 => 260 | 15 => 261 | 16 => 251 | 17 => 262 | 18 => 263 | 30 => 280 | 31 => 281 | 32 => 282 | 33 => 283 | 34 => 284 | 35 => 279 | 40 => 299 | n => n, fun | 23 => 22 | 25 => 3 | 3 => 3 | 32 => 126 | 22 => 22 | 0 => 0 | 44 => 145 | 46 => 101 | 4 => 4 | 36 => 157 | 35 => 156 | 41 => 50 | 5 => 5 | 9 => 9 | 53 => 173 | 57 => 177 | 63 => 196 | 64 => 68 | n => n, fun | n => n⟩
theorem sortL : Go.Proofs.SlLaysM.n5 Tryd.prog sortL_ren := {
  mixed := by kernel_rfl,
  f5 := ⟨Tryd.f190.name, by decide, Tryd.func190.trans (congrArg some (by kernel_rfl))⟩,
  f7 := ⟨Tryd.f231.name, by decide, Tryd.func231.trans (congrArg some (by kernel_rfl))⟩,
  f8 := Tryd.func232.trans (congrArg some (by kernel_rfl)),
  f10 := ⟨Tryd.f256.name, by decide, Tryd.func256.trans (congrArg some (by kernel_rfl))⟩,
  f11 := ⟨Tryd.f257.name, by decide, Tryd.func257.trans (congrArg some (by kernel_rfl))⟩,
  f12 := ⟨Tryd.f258.name, by decide, Tryd.func258.trans (congrArg some (by kernel_rfl))⟩,
  f13 := ⟨Tryd.f259.name, by decide, Tryd.func259.trans (congrArg some (by kernel_rfl))⟩,
  f14 := ⟨Tryd.f260.name, by decide, Tryd.func260.trans (congrArg some (by kernel_rfl))⟩,
  f15 := ⟨Tryd.f261.name, by decide, Tryd.func261.trans (congrArg some (by kernel_rfl))⟩,
  f16 := ⟨Tryd.f251.name, by decide, Tryd.func251.trans (congrArg some (by kernel_rfl))⟩,
  f17 := ⟨Tryd.f262.name, by decide, Tryd.func262.trans (congrArg some (by kernel_rfl))⟩,
  f18 := ⟨Tryd.f263.name, by decide, Tryd.func263.trans (congrArg some (by kernel_rfl))⟩,
  f19 := Tryd.func264.trans (congrArg some (by kernel_rfl)),
  f20 := Tryd.func265.trans (congrArg some (by kernel_rfl)),
  f30 := ⟨Tryd.f280.name, by decide, Tryd.func280.trans (congrArg some (by kernel_rfl))⟩,
  f31 := Tryd.func281.trans (congrArg some (by kernel_rfl)),
  f32 := Tryd.func282.trans (congrArg some (by kernel_rfl)),
  f33 := ⟨Tryd.f283.name, by decide, Tryd.func283.trans (congrArg some (by kernel_rfl))⟩,
  f34 := ⟨Tryd.f284.name, by decide, Tryd.func284.trans (congrArg some (by kernel_rfl))⟩,
  f35 := ⟨Tryd.f279.name, by decide, Tryd.func279.trans (congrArg some (by kernel_rfl))⟩,
  f40 := ⟨Tryd.f299.name, by decide, Tryd.func299.trans (congrArg some (by kernel_rfl))⟩,
  t0 := Tryd.underlying0,
  a0 := Tryd.isAgg0,
  z0 := Tryd.sizeOf0,
  v0 := Tryd.zeroValue0,
  t3 := Tryd.underlying3,
  a3 := Tryd.isAgg3,
  z3 := Tryd.sizeOf3,
  v3 := Tryd.zeroValue3,
  t4 := Tryd.underlying4,
  a4 := Tryd.isAgg4,
  z4 := Tryd.sizeOf4,
  v4 := Tryd.zeroValue4,
  t5 := Tryd.underlying5,
  a5 := Tryd.isAgg5,
  z5 := Tryd.sizeOf5,
  v5 := Tryd.zeroValue5,
  t9 := Tryd.underlying9,
  a9 := Tryd.isAgg9,
  z9 := Tryd.sizeOf9,
  v9 := Tryd.zeroValue9,
  t22 := Tryd.underlying22,
  a22 := Tryd.isAgg22,
  z22 := Tryd.sizeOf22,
  v22 := Tryd.zeroValue22,
  t23 := Tryd.underlying22,
  a23 := Tryd.isAgg22,
  z23 := Tryd.sizeOf22,
  v23 := Tryd.zeroValue22,
  t25 := Tryd.underlying3,
  a25 := Tryd.isAgg3,
  z25 := Tryd.sizeOf3,
  v25 := Tryd.zeroValue3,
  t32 := Tryd.underlying126,
  a32 := Tryd.isAgg126,
  z32 := Tryd.sizeOf126,
  v32 := Tryd.zeroValue126,
  t35 := Tryd.underlying156,
  a35 := Tryd.isAgg156,
  z35 := Tryd.sizeOf156,
  v35 := Tryd.zeroValue156,
  t36 := Tryd.underlying157,
  a36 := Tryd.isAgg157,
  z36 := Tryd.sizeOf157,
  v36 := Tryd.zeroValue157,
  t41 := Tryd.underlying50,
  a41 := Tryd.isAgg50,
  z41 := Tryd.sizeOf50,
  v41 := Tryd.zeroValue50,
  t44 := Tryd.underlying145,
  a44 := Tryd.isAgg145,
  z44 := Tryd.sizeOf145,
  v44 := Tryd.zeroValue145,
  t46 := Tryd.underlying101,
  a46 := Tryd.isAgg101,
  z46 := Tryd.sizeOf101,
  v46 := Tryd.zeroValue101,
  t53 := Tryd.underlying173,
  a53 := Tryd.isAgg173,
  z53 := Tryd.sizeOf173,
  v53 := Tryd.zeroValue173,
  t57 := Tryd.underlying177,
  a57 := Tryd.isAgg177,
  z57 := Tryd.sizeOf177,
  v57 := Tryd.zeroValue177,
  t63 := Tryd.underlying196,
  a63 := Tryd.isAgg196,
  z63 := Tryd.sizeOf196,
  v63 := Tryd.zeroValue196,
  t64 := Tryd.underlying68,
  a64 := Tryd.isAgg68,
  z64 := Tryd.sizeOf68,
  v64 := Tryd.zeroValue68 }
def compactL_ren : Go.Shelf.Ren := ⟨fun | 43 => 233 | n => n, fun | 22 => 22 | 23 => 3 | 3 => 3 | 4 => 4 | 0 => 0 | n => n, fun | n => n⟩
theorem compactL : Go.Proofs.SlLaysN.n43 Tryd.prog compactL_ren := {
  mixed := by kernel_rfl,
  f43 := ⟨Tryd.f233.name, by decide, Tryd.func233.trans (congrArg some (by kernel_rfl))⟩,
  t0 := Tryd.underlying0,
  a0 := Tryd.isAgg0,
  z0 := Tryd.sizeOf0,
  v0 := Tryd.zeroValue0,
  t3 := Tryd.underlying3,
  a3 := Tryd.isAgg3,
  z3 := Tryd.sizeOf3,
  v3 := Tryd.zeroValue3,
  t4 := Tryd.underlying4,
  a4 := Tryd.isAgg4,
  z4 := Tryd.sizeOf4,
  v4 := Tryd.zeroValue4,
  t22 := Tryd.underlying22,
  a22 := Tryd.isAgg22,
  z22 := Tryd.sizeOf22,
  v22 := Tryd.zeroValue22,
  t23 := Tryd.underlying3,
  a23 := Tryd.isAgg3,
  z23 := Tryd.sizeOf3,
  v23 := Tryd.zeroValue3,
  i23 := by kernel_rfl }
def searchL_ren : Go.Shelf.Ren := ⟨fun | 49 => 224 | 59 => 251 | 60 => 252 | 68 => 279 | n => n, fun | 22 => 22 | 23 => 3 | 3 => 3 | 4 => 4 | 51 => 126 | 0 => 0 | n => n, fun | n => n⟩
def upto {α : Type} (f : Nat → α) (k : Nat) : List α := (List.range k).map f
theorem upto_succ {α : Type} (f : Nat → α) (k : Nat) : upto f (k + 1) = upto f k ++ [f k] := by simp [upto, List.range_succ]
theorem upto_length {α : Type} (f : Nat → α) (k : Nat) : (upto f k).length = k := by simp [upto]
theorem upto_all (zs : List Int) : upto (fun j => zs[j]?.getD 0) zs.length = zs := by
  apply List.ext_getElem
  · simp [upto]
  · intro i h1 h2
    simp [upto, h2]
theorem upto_take (zs : List Int) {k : Nat} (hk : k ≤ zs.length) : upto (fun j => zs[j]?.getD 0) k = zs.take k := by
  apply List.ext_getElem
  · simp [upto, hk]
  · intro i h1 h2
    have : i < zs.length := by simp [upto] at h1; omega
    simp [upto, this]
set_option maxRecDepth 100000 in
set_option maxHeartbeats 2000000 in
theorem values1_in (F : Fence) (n : Nat) (h7 : F.fn 267) (hro : F.round = none) (hn : 1 ≤ n) (l Bs n₀ b off len cap : Nat) (zs : List Int) (hreach : len * 8 ≤ 140737488351232) (hb : b < n₀) (J Jx : List Int → World → Prop)
    (hY : ∀ pre x W, J pre W → pre.length < len → YieldAt F (n - 1) Tryd.prog l #[.int .i64 x] W fun e W' =>
      (e = .returned (.bool true) ∧ J (pre ++ [x]) W' ∧ Below n₀ W W') ∨ (e = .returned (.bool false) ∧ Jx (pre ++ [x]) W'))
    (W : World) (hBs : W.cell? ⟨Bs, 0, none⟩ = some (.slice (some ⟨b, off, none⟩) len cap)) (hc : ∀ j, j < len → W.cell? ⟨b, off + j, none⟩ = some (.int .i64 (zs[j]?.getD 0))) (h0 : J [] W) :
    CallsIn F n Tryd.prog 267 #[.func (.yield l) #[] #[], .pointer (some ⟨Bs, 0, none⟩)] W fun e W' => (∃ v, e = .returned v) ∧
      ((∃ ys, ys = upto (fun j => zs[j]?.getD 0) len ∧ J ys W') ∨ (∃ pre, (∃ k, k ≤ len ∧ pre = upto (fun j => zs[j]?.getD 0) k) ∧ Jx pre W')) := by
  refine callsIn_of_wp Tryd.func267 rfl h7 ?_ hro
  simp only [Tryd.ntmps267, List.size_toArray, List.length_cons, List.length_nil, Nat.reduceAdd, Nat.reduceSub, Array.replicate_succ, Array.replicate_zero, List.push_toArray, List.append_toArray, List.nil_append, List.cons_append]
  gi_wp2
  gi_loopw [7] (fun i wr => ∃ k : Nat, k ≤ len ∧ i = .int .i64 k ∧ J (upto (fun j => zs[j]?.getD 0) k) wr ∧ Below n₀ W wr)
    (fun i _ => len - (intOf i).toNat)
  case atStart => exact ⟨0, Nat.zero_le _, rfl, h0, Below.refl _ _⟩
  case round =>
    obtain ⟨k, hk, rfl, hJs, hnx⟩ := hrel
    have hcx : k < len → wr.cell? ⟨b, off + k, none⟩ = some (.int .i64 (zs[k]?.getD 0)) := fun h => (hnx.cell (p := ⟨b, off + k, none⟩) hb).trans (hc k h)
    by_cases hlt : k < len
    · obtain ⟨fn, tmps, assign, body, hy, hR⟩ := hY _ (zs[k]?.getD 0) wr hJs (by rw [upto_length]; exact hlt)
      have hcx' := hcx hlt
      gi_wp2
      refine hR.mono ?_
      rintro e W3 (⟨rfl, hJ3, hk3⟩ | ⟨rfl, hJx3⟩)
      · gi_wp2
        go_roundw
        case rel => exact ⟨k + 1, by omega, by simp, by rw [upto_succ]; exact hJ3, hnx.trans hk3⟩
        case measure => simp [intOf]; omega
      · gi_wp2
        refine bodyPost_ret (results_none rfl _ _ _) rfl ?_
        exact ⟨⟨_, rfl⟩, .inr ⟨_, ⟨k + 1, by omega, (upto_succ _ _).symm⟩, hJx3⟩⟩
    · obtain rfl : k = len := by omega
      gi_wp2
      go_end0
      exact ⟨⟨_, rfl⟩, .inl ⟨_, rfl, hJs⟩⟩
set_option maxRecDepth 100000 in
set_option maxHeartbeats 1000000 in
theorem values1_none_in (F : Fence) (n : Nat) (h7 : F.fn 267) (hro : F.round = none) (l Bs cap : Nat) (A : Option Addr) (J : List Int → World → Prop) (W : World) (hBs : W.cell? ⟨Bs, 0, none⟩ = some (.slice A 0 cap)) (h0 : J [] W) :
    CallsIn F n Tryd.prog 267 #[.func (.yield l) #[] #[], .pointer (some ⟨Bs, 0, none⟩)] W fun e W' => (∃ v, e = .returned v) ∧ J [] W' := by
  refine callsIn_of_wp Tryd.func267 rfl h7 ?_ hro
  simp only [Tryd.ntmps267, List.size_toArray, List.length_cons, List.length_nil, Nat.reduceAdd, Nat.reduceSub, Array.replicate_succ, Array.replicate_zero, List.push_toArray, List.append_toArray, List.nil_append, List.cons_append]
  gi_wp2
  gi_loopw [7] (fun i wr => i = .int .i64 0 ∧ J [] wr) (fun _ _ => 0)
  case atStart => exact ⟨rfl, h0⟩
  case round =>
    obtain ⟨rfl, hJs⟩ := hrel
    gi_wp2
    go_end0
    exact ⟨⟨_, rfl⟩, hJs⟩
def Ints (n₀ : Nat) (W : World) (sv : Value) (zs : List Int) : Prop :=
  (∃ A c, sv = .slice A 0 c ∧ zs = []) ∨ ∃ b off cap, sv = .slice (some ⟨b, off, none⟩) zs.length cap ∧ b < n₀ ∧ ∀ j, j < zs.length → W.cell? ⟨b, off + j, none⟩ = some (.int .i64 (zs[j]?.getD 0))
theorem Ints.below {n₀ : Nat} {A B : World} (h : Below n₀ A B) {sv : Value} {zs : List Int} : Ints n₀ A sv zs → Ints n₀ B sv zs
  | .inl e => .inl e
  | .inr ⟨b, off, cap, e, hb, hc⟩ => .inr ⟨b, off, cap, e, hb, fun j hj => (h.cell (p := ⟨b, off + j, none⟩) hb).trans (hc j hj)⟩
theorem values_stops (F : Fence) (n : Nat) (h7 : F.fn 267) (hro : F.round = none) (hn : 1 ≤ n) (Bs n₀ : Nat) (sv : Value) (zs : List Int) (hreach : zs.length * 8 ≤ 140737488351232) (w : World) (hBs : Bs < w.heap.size) (hn₀ : n₀ ≤ w.heap.size)
    (hc : w.cell? ⟨Bs, 0, none⟩ = some sv) (hI : Ints n₀ w sv zs) :
    SeqStopsK F n Tryd.prog 267 #[.pointer (some ⟨Bs, 0, none⟩)] (fun x : Int => #[Value.int .i64 x]) (Below n₀) (fun ys => ys = zs) (fun pre => pre <+: zs) zs.length w := fun l J Jx W hW _ _ hY h0 => by
  have hc' := (hW.cell (p := ⟨Bs, 0, none⟩) hBs).trans hc
  rcases hI.below (hW.mono hn₀) with ⟨A, c, rfl, rfl⟩ | ⟨b, off, cap, rfl, hb, hcs⟩
  · exact (values1_none_in F n h7 hro l Bs c A J W hc' h0).mono fun e W' ⟨he, hj⟩ => ⟨he, .inl ⟨_, rfl, hj⟩⟩
  · refine (values1_in F n h7 hro hn l Bs n₀ b off zs.length cap zs hreach hb J Jx hY W hc' hcs h0).mono ?_
    rintro e W' ⟨he, ⟨ys, rfl, hj⟩ | ⟨pre, ⟨k, hk, rfl⟩, hj⟩⟩
    · exact ⟨he, .inl ⟨_, upto_all zs, hj⟩⟩
    · exact ⟨he, .inr ⟨_, by rw [upto_take zs hk]; exact List.take_prefix _ _, hj⟩⟩
theorem values_calls (a : Option Addr) (len cap : Nat) (w : World) :
    Calls Tryd.prog 235 #[.slice a len cap] w fun e w' => e = .returned (.func (.func 267) #[] #[.pointer (some ⟨w.heap.size, 0, none⟩)]) ∧ w' = w.alloc (.cells #[.slice a len cap] 22) := by
  go_enter Tryd.func235, Tryd.ntmps235
  go_wp2
  go_ret
  exact ⟨rfl, rfl⟩
theorem infoI : (Tryd.prog.info? 3).map (fun i => (i.zero, i.size, i.bytes)) = some (some (.int .i64 0), 1, 8) := by kernel_rfl
set_option maxRecDepth 100000 in
set_option maxHeartbeats 2000000 in
theorem appendSeq_in (F : Fence) (n : Nat) (h3 : F.fn 285) (h5 : F.fn 267) (hro : F.round = none) (hn : 3 ≤ n) (Bv : Nat) (sv : Value) (zs : List Int) (hlen : zs.length ≤ maxLen) (hbytes : zs.length * 8 ≤ 140737488351232) (w : World) (hBv : Bv < w.heap.size) (hc : w.cell? ⟨Bv, 0, none⟩ = some sv) (hI : Ints w.heap.size w sv zs) :
    CallsIn F n Tryd.prog 285 #[.slice none 0 0, .func (.func 267) #[] #[.pointer (some ⟨Bv, 0, none⟩)]] w fun e W' => ∃ v, e = .returned v ∧ W'.ownsRow w.heap.size 3 1 v zs.length (zs.map (Value.int .i64)) ∧ (v = .slice none 0 0 ↔ zs = []) ∧ Below w.heap.size w W' := by
  have h1 : 1 ≤ n := by omega
  obtain ⟨i0, hi, hz0, hz1, hz2⟩ := info_parts infoI
  refine callsIn_of_wp_marks Tryd.func285 rfl h3 ?_ hro
  simp only [Tryd.ntmps285, List.size_toArray, List.length_cons, List.length_nil, Nat.reduceAdd, Nat.reduceSub, Array.replicate_succ, Array.replicate_zero, List.push_toArray, List.append_toArray, List.nil_append, List.cons_append]
  gi_wp2
  have bO := Boxed.new w 22 (.slice none 0 0)
  have hB0 : Below w.heap.size w (w.alloc (.cells #[.slice none 0 0] 22)) := (Below.refl _ w).alloc (Nat.le_refl _) _
  refine wpIn_rangeFunc_ownG hro h1 (gf := 267) (lb := #[.pointer (some ⟨Bv, 0, none⟩)]) rfl h5 (enters_of Tryd.func267 (by kernel_rfl) rfl)
    (values_stops F (n - 1) h5 hro (by omega) Bv w.heap.size sv zs hbytes _ (by simp; omega) (by simp) ((hB0.cell (p := ⟨Bv, 0, none⟩) hBv).trans hc) (hI.below hB0)) belowK_t (belowK_b (by simp)) (Below.refl _ _) (fun _ => rfl)
    (fun pre W => (∃ v, Boxed W w.heap.size 22 v ∧ W.ownsRow w.heap.size 3 1 v pre.length (pre.map (Value.int .i64)) ∧ (v = .slice none 0 0 ↔ pre = [])) ∧ Below w.heap.size w W)
    (fun _ _ _ => False)
    (OwnFrom.and (Own.from (holdsRow_own w.heap.size w.heap.size 22 3 1 (fun pre => pre.length) (fun pre => pre.map (Value.int .i64)) (fun pre v => v = .slice none 0 0 ↔ pre = [])) _) (ownFrom_below (Nat.le_refl _) (by simp)))
    (fun _ _ _ _ _ hs _ _ => hs)
    ⟨⟨_, bO, World.ownsRow_nil _ _ _ _, by simp⟩, hB0⟩
    (fun x => { tmps := #[.slice none 0 0, .func (.func 267) #[] #[.pointer (some ⟨Bv, 0, none⟩)], .pointer (some ⟨w.heap.size, 0, none⟩), undef, .slice none 0 0, .int .i64 x, .func (.func 267) #[] #[.pointer (some ⟨Bv, 0, none⟩)], .int .i64 x, undef, undef, undef, undef, undef], defers := [] }) ?assign ?body ?done ?stop
  case assign =>
    intro l x W K hK
    gi_wp2
    exact hK
  case body =>
    rintro l pre x W ⟨⟨v, hv, hrow, hnil⟩, hB⟩ hlt
    have hc := hv.cell
    gi_wp2_with (gi_at_builtin; refine wpListIn_append_own _ rfl _ _ 22 rfl w.heap.size 3 i0 (.int .i64 0) 1 8 Tryd.underlying22 hi hz0 hz1 hz2 rfl (by decide) _ _ _ rfl (hrow.alloc _) ⟨W.heap.size, 0, none⟩ 1 1 [.int .i64 x] rfl rfl (cell_one_new _ _ _) (by simp [Value.oneCell']) (by omega) (by omega) (by have := hB.size; simp; omega) ?_; intro v' w1 hown' hgrow _; obtain ⟨g', cap', rfl⟩ := ownsRow_succ hown'; obtain ⟨hv1, hv2, hr2, hk2, hb2⟩ := hv.appended (by decide) hrow hB.size (Nat.le_refl _) hown' hgrow; have hc1 := hv1.cell; have hf1 := hv1.frozen)
    exact ⟨hk2.from _, hb2, ⟨_, hv2, by simpa using hr2, by simp⟩, hB.trans hb2⟩
  case done =>
    rintro D ys W hD rfl ⟨⟨v, hv, hrow, hnil⟩, hB⟩ hK
    have hc := hv.cell
    gi_wp2
    refine ⟨by simp, .inl ⟨_, _, rfl, run_takeDeferred hK, ?_⟩⟩
    exact ⟨_, results_tmp rfl _ _ _, v, rfl, ownsRow_putObj hrow _ hK rfl, hnil, hB.trans (belowK_b (w := w) (Nat.le_refl _) W D _ _ (by simp at hD; omega) hK rfl rfl)⟩
  case stop =>
    intro D c pre W _ _ h _
    exact h.elim
theorem collect_calls (Bv : Nat) (sv : Value) (zs : List Int) (hlen : zs.length ≤ maxLen) (hbytes : zs.length * 8 ≤ 140737488351232) (w : World) (hBv : Bv < w.heap.size) (hc : w.cell? ⟨Bv, 0, none⟩ = some sv) (hI : Ints w.heap.size w sv zs) :
    Calls Tryd.prog 266 #[.func (.func 267) #[] #[.pointer (some ⟨Bv, 0, none⟩)]] w fun e W' => ∃ v, e = .returned v ∧ W'.ownsRow w.heap.size 3 1 v zs.length (zs.map (Value.int .i64)) ∧ (v = .slice none 0 0 ↔ zs = []) ∧ Below w.heap.size w W' := by
  have cA := (callsIn_wide (n := 3)).1 (appendSeq_in Fence.wide 3 trivial trivial rfl (Nat.le_refl _) Bv sv zs hlen hbytes w hBv hc hI)
  go_enter Tryd.func266, Tryd.ntmps266
  go_wp2_with (go_at_call 285; refine cA.mono ?_; rintro e w' ⟨v, rfl, hrow, hnil, hb⟩)
  go_ret
  exact ⟨v, rfl, hrow, hnil, hb⟩
def srt (l : List Int) : List Int := l.mergeSort fun x y => decide (x ≤ y)
theorem ownsRow_some {w : World} {base e : Nat} {v : Value} {zs : List Int} (h : w.ownsRow base e 1 v zs.length (zs.map (Value.int .i64))) : (v = .slice none 0 0 ∧ zs = []) ∨ ∃ g cap cur, v = .slice (some ⟨g, 0, none⟩) zs.length cap ∧ base ≤ g ∧ w.heap[g]? = some (.cells cur e (0, 0)) ∧ zs.length ≤ cap ∧ cap ≤ maxLen ∧ cur.size = cap * 1 ∧ cur.toList.take zs.length = zs.map encZ := by
  rcases h.2 with ⟨rfl, hz⟩ | ⟨g, cap, cur, rfl, h1, h2, h3, h4, h5, h6⟩
  · exact .inl ⟨rfl, List.eq_nil_of_length_eq_zero hz⟩
  · exact .inr ⟨g, cap, cur, rfl, h1, h2, h3, h4, h5, by simpa using h6⟩
theorem sort_calls {base e : Nat} {v : Value} {zs : List Int} {w : World} (h : w.ownsRow base e 1 v zs.length (zs.map (Value.int .i64))) (hsz : zs.length < 4611686018427387904) :
    Calls Tryd.prog 190 #[v] w fun e' w' => e' = .returned (.tuple #[]) ∧ w'.ownsRow base e 1 v (srt zs).length ((srt zs).map (Value.int .i64)) ∧ w.grownBy w' v.ownBlock := by
  rcases ownsRow_some h with ⟨rfl, rfl⟩ | ⟨g, cap, cur, rfl, hbase, hgb, r1, r2, r3, r4⟩
  · refine (AnyM.slices_Sort_int_none sortL none 0 w).mono ?_
    rintro e' w' ⟨rfl, rfl⟩
    exact ⟨rfl, by simpa [srt] using h, rfl, rfl, rfl, Nat.le_refl _, fun _ _ _ => rfl⟩
  · have hH : Holds encZ w g 0 zs.toArray := holds_of_block_i hgb r4
    refine (AnyM.slices_Sort_int sortL g 0 cap zs w hH (Array.getElem?_eq_some_iff.1 hgb).1 hsz).mono ?_
    rintro e' w' ⟨rfl, nn, os, rfl⟩
    have hl : (srt zs).length = zs.length := by simp [srt]
    refine ⟨rfl, ?_, grownBy_sorted_i _⟩
    rw [hl]
    exact ownsRow_sorted_i hl hbase hgb r1 r2 r3
theorem sorted_calls (Bv : Nat) (sv : Value) (zs : List Int) (hlen : zs.length ≤ maxLen) (hbytes : zs.length * 8 ≤ 140737488351232) (w : World) (hBv : Bv < w.heap.size) (hc : w.cell? ⟨Bv, 0, none⟩ = some sv) (hI : Ints w.heap.size w sv zs) :
    Calls Tryd.prog 234 #[.func (.func 267) #[] #[.pointer (some ⟨Bv, 0, none⟩)]] w fun e W' => ∃ v, e = .returned v ∧ W'.ownsRow w.heap.size 3 1 v (srt zs).length ((srt zs).map (Value.int .i64)) ∧ (v = .slice none 0 0 ↔ zs = []) ∧ Below w.heap.size w W' := by
  have cC := collect_calls Bv sv zs hlen hbytes w hBv hc hI
  go_enter Tryd.func234, Tryd.ntmps234
  go_wp2_with (first
    | (go_at_call 266; refine cC.mono ?_; rintro e w1 ⟨v, rfl, hrow, hnil, hb⟩)
    | (go_at_call 190; refine (sort_calls hrow (by omega)).mono ?_; rintro e w2 ⟨rfl, hrow2, hg⟩))
  go_ret
  exact ⟨v, rfl, hrow2, hnil, hb.grown hg hb.size (own_base hrow)⟩
theorem ownsRow_cut {w : World} {base e g cap : Nat} {n m : Nat} {xs : List Value} (h : w.ownsRow base e 1 (.slice (some ⟨g, 0, none⟩) n cap) n xs) (hm : m ≤ n) : w.ownsRow base e 1 (.slice (some ⟨g, 0, none⟩) m cap) m (xs.take m) := by
  obtain ⟨h0, h⟩ := h
  refine ⟨by rw [List.length_take]; omega, ?_⟩
  rcases h with ⟨h, _⟩ | ⟨g', cap', cur, hv, h1, h2, h3, h4, h5, h6⟩
  · cases h
  · injection hv with a1 a2 a3
    injection a1 with a1
    injection a1 with a1
    subst a1 a3
    refine .inr ⟨g, cap, cur, rfl, h1, h2, by omega, h4, h5, ?_⟩
    rw [← h6, List.take_take, Nat.min_eq_left (by omega)]
    simp
theorem compact_calls {base e : Nat} {v : Value} {zs : List Int} {w : World} (h : w.ownsRow base e 1 v zs.length (zs.map (Value.int .i64))) (hsz : zs.length ≤ 9223372036854775807) :
    Calls Tryd.prog 233 #[v] w fun e' w' => ∃ v', e' = .returned v' ∧ w'.ownsRow base e 1 v' (Lib.compact zs).length ((Lib.compact zs).map (Value.int .i64)) ∧ w.grownBy w' v.ownBlock := by
  rcases ownsRow_some h with ⟨rfl, rfl⟩ | ⟨g, cap, cur, rfl, hbase, hgb, r1, r2, r3, r4⟩
  · refine (AnyG.slices_Compact_int_empty compactL none 0 w).mono ?_
    rintro e' w' ⟨rfl, rfl⟩
    exact ⟨_, rfl, by simpa [Lib.compact, Lib.compactUpTo] using h, rfl, rfl, rfl, Nat.le_refl _, fun _ _ _ => rfl⟩
  · have hH : Holds encZ w g 0 zs.toArray := holds_of_block_i hgb r4
    refine (AnyG.slices_Compact_int compactL g 0 cap zs w hH hsz r1).mono ?_
    rintro e' w' ⟨rfl, q, rfl⟩
    have hle : (Lib.compact zs).length ≤ zs.length := by
      unfold Lib.compact Lib.compactUpTo
      have := List.length_filter_le (Lib.keeps zs.toArray) (List.range zs.length)
      simpa using this
    have hl : (Lib.compact zs ++ List.replicate (zs.length - (Lib.compact zs).length) 0).length = zs.length := by simp; omega
    have hrow := ownsRow_sorted_i (n := q) (os := #[]) hl hbase hgb r1 r2 r3
    have hg := grownBy_sorted_i (w := w) (g := g) (n := q) (os := #[]) (Lib.compact zs ++ List.replicate (zs.length - (Lib.compact zs).length) (0 : Int)).toArray
    have e0 : ∀ W : World, grow W #[] = W := fun W => by simp [grow]
    rw [e0] at hrow hg
    refine ⟨_, rfl, ?_, hg⟩
    have := ownsRow_cut hrow hle
    rwa [List.map_append, List.take_append_of_le_length (by simp), List.take_of_length_le (by simp)] at this
theorem R_int {e : Nat} {w : World} {base : Nat} {v : Value} {zs : List Int} (h : w.ownsRow base e 1 v zs.length (zs.map (Value.int .i64))) : Kd.R (Kd.int .i64) e w base (fun _ => True) v zs := by
  refine ⟨fun _ _ => trivial, zs.map (Value.int .i64), h, by simp [Kd.int, Kd.scalar], fun j p hj => ?_⟩
  show ((zs.map (Value.int .i64)).drop (j * 1)).take 1 = [Value.int .i64 p]
  have hl := (List.getElem?_eq_some_iff.1 hj).1
  rw [Nat.mul_one, List.drop_eq_getElem_cons (by simpa using hl)]
  have := (List.getElem?_eq_some_iff.1 hj).2
  simp [this]
theorem ints_of {w : World} {A : Option Addr} {c : Nat} {zs : List Int} (h : Kd.C (Kd.int .i64) w A zs.length zs) : Ints w.heap.size w (.slice A zs.length c) zs := by
  rcases Nat.eq_zero_or_pos zs.length with h0 | h0
  · have : zs = [] := List.eq_nil_of_length_eq_zero h0
    subst this
    exact .inl ⟨A, c, rfl, rfl⟩
  · obtain ⟨ad, rfl, hc⟩ := h.2.2 h0
    have cell : ∀ j (hj : j < zs.length), w.cell? (ad.add j) = some (.int .i64 zs[j]) := by
      intro j hj
      obtain ⟨cs, hl, hr, hcs⟩ := hc j zs[j] (List.getElem?_eq_getElem hj)
      have hr : cs = [Value.int .i64 zs[j]] := hr
      subst hr
      have := hcs 0 (.int .i64 zs[j]) rfl
      simpa [Kd.int, Kd.scalar] using this
    obtain ⟨b, off, sp⟩ := ad
    have c0 := cell 0 h0
    have hsp : sp = none := by
      cases sp with
      | none => rfl
      | some s =>
        simp only [World.cell?, Addr.add] at c0
        split at c0 <;> simp at c0
    subst hsp
    refine .inr ⟨b, off, c, rfl, World.block_lt_of_cell? w _ c0, fun j hj => ?_⟩
    have := cell j hj
    by_cases h1 : j = 0
    · subst h1
      simpa [Addr.add, hj] using this
    · simpa [Addr.add, hj, h1] using this
set_option maxHeartbeats 1000000 in
theorem different_calls (A0 : Option Addr) (c0 : Nat) (zs : List Int) (w : World) (hz : zs.length < 17592186043904) (h : Kd.C (Kd.int .i64) w A0 zs.length zs) :
    Calls Tryd.prog 196 #[.slice A0 zs.length c0] w fun e w' => ∃ v0_ : Value, e = .returned (v0_) ∧ Kd.R (Kd.int .i64) 3 w' w.heap.size (fun _ => True) v0_ (Lib.compact (srt zs)) ∧ Below w.heap.size w w' := by
  have hI := ints_of (c := c0) h
  have hB0 : Below w.heap.size w (w.alloc (.cells #[.slice A0 zs.length c0] 22)) := (Below.refl _ w).alloc (Nat.le_refl _) _
  have hs : w.heap.size + 1 = (w.alloc (.cells #[.slice A0 zs.length c0] 22)).heap.size := by simp
  have cS := sorted_calls w.heap.size (.slice A0 zs.length c0) zs (by unfold maxLen; omega) (by omega) (w.alloc (.cells #[.slice A0 zs.length c0] 22)) (by simp) (Boxed.new w 22 (.slice A0 zs.length c0)).cell (by
    have := hI.below hB0
    rcases this with h | ⟨b, off, cap, e, hb, hc⟩
    · exact .inl h
    · exact .inr ⟨b, off, cap, e, by omega, hc⟩)
  have hl : (srt zs).length = zs.length := by simp [srt]
  go_enter Tryd.func196, Tryd.ntmps196
  go_wp2_with (first
    | (go_at_call 235; refine (values_calls _ _ _ _).mono ?_; rintro e w1 ⟨rfl, rfl⟩)
    | (go_at_call 234; refine cS.mono ?_; rintro e w2 ⟨v, rfl, hrow, hnil, hb⟩)
    | (go_at_call 233; refine (compact_calls hrow (by omega)).mono ?_; rintro e w3 ⟨v2, rfl, hrow2, hg⟩))
  go_ret
  have hb' := hB0.trans (hb.mono (by omega : w.heap.size ≤ _))
  exact ⟨v2, rfl, R_int (own_weaken hrow2 (by omega)), hb'.grown hg hb'.size (fun k hk => Nat.le_trans (by omega) (own_base hrow k hk))⟩
end Go.Proofs.YtimjblnglhmakaaDoor.HD
namespace Go.Proofs.YtimjblnglhmakaaDoor.P
open Go.RowKit Go.Proofs.YtimjblnglhmakaaDoorW.PrintWords Go.Proofs.YtimjblnglhmakaaDoorW.PrintLast Go.Proofs.YtimjblnglhmakaaDoorW.PrintMore
open Bool renaming true → T, false → F
open List renaming setIfInBounds_toArray → L_, set_cons_zero → M_, set_cons_succ → N_, map_toArray → P_, map_cons → Q_, map_nil → R_, length_drop → S_, length_take → U_
open Aside0 renaming mk → A_
attribute [local go_sem] max2_int min2_int max_two min_two max_three min_three max_four min_four
set_option linter.unusedVariables false
set_option linter.unusedSimpArgs false
attribute [local go_sem] fldOrder_0 fldOrder_1
def Abh.f (l0 : List Int) : Option (List Int) := if l0.length < 17592186043904 then some (Lib.compact (HD.srt l0)) else none
theorem Abh.calls (A0 : Option Addr) (c0 : Nat) (l0 : List Int) (r : List Int) (w : World) (hr0 : Kd.C (Kd.int .i64) w A0 l0.length l0) (hc0 : l0.length ≤ c0) (h : Abh.f l0 = some r) :
 Calls Tryd.prog 196 #[.slice A0 l0.length c0] w fun e w'=>∃ v0_ : Value,e = .returned (v0_) ∧ Kd.R (Kd.int .i64) 3 w' w.heap.size (fun _=>True) v0_ r ∧ Below w.heap.size w w':=by
 clear hc0;unfold Abh.f at h
 split at h
 ·rename_i hz
  injection h with h;subst h;exact HD.different_calls A0 c0 l0 w hz hr0
 ·cases h
mutual
def Aaq.l0 : Nat → List Int → List Int → List Int → Int → Int → Option (List Int)
 | 0,_,_,_,_,_=>none
 | k + 1,x3,x5,x17,x18,x19=>if x19 < x18 then (if 0 ≤ x19 then (if x19 < (x17.length : Int) then (Aaq.l1 k x3 x5 (rd x17 x19) 0 x17 x18 x19 x5 (x5.length : Int) 0) else (none)) else (none)) else (some x3)
def Aaq.l1 : Nat → List Int → List Int → Int → Int → List Int → Int → Int → List Int → Int → Int → Option (List Int)
 | 0,_,_,_,_,_,_,_,_,_,_=>none
 | k + 1,x3,x5,x7,x8,x17,x18,x19,x23,x24,x25=>if x25 < x24 then (if 0 ≤ x25 then (if x25 < (x23.length : Int) then (if (rd x23 x25) = x7 then (Aaq.l1 k x3 x5 x7 x8 x17 x18 x19 x23 x24 (wrap64 (x25 + 1))) else (if (Go.bits .andNot .i64 (rd x23 x25) x7) = 0 then (Aaq.l1 k x3 x5 x7 (wrap64 (x8 + 1)) x17 x18 x19 x23 x24 (wrap64 (x25 + 1))) else (Aaq.l1 k x3 x5 x7 x8 x17 x18 x19 x23 x24 (wrap64 (x25 + 1))))) else (none)) else (none)) else (if x3.length < 17592186044416 then (Aaq.l0 k (x3 ++ [x8]) x5 x17 x18 (wrap64 (x19 + 1))) else (none))
end
def Aaq.f (k : Nat) (a0_0 : Int) (l0_1 : List Int) : Option (List Int) := (Abi.f k a0_0 l0_1).bind fun bt311 => ((Abh.f bt311.2).bind fun t315 => (Aaq.l0 k (([] : List Int)) t315 bt311.2 (bt311.2.length : Int) 0))
set_option maxHeartbeats 8000000 in
set_option maxRecDepth 100000 in
theorem Aaq.calls (k : Nat) (a0_0 : Int) (A0_1 : Option Addr) (c0_1 : Nat) (l0_1 : List Int) (r : List Int) (w : World) (hr0_1 : Kd.C (Kd.int .i64) w A0_1 l0_1.length l0_1) (hc0_1 : l0_1.length ≤ c0_1) (h : Aaq.f k a0_0 l0_1 = some r) :
 Calls Tryd.prog 116 #[.agg #[.int .i64 a0_0,.slice A0_1 l0_1.length c0_1]] w fun e w'=>∃ v0_ : Value,e = .returned (v0_) ∧ Kd.R (Kd.int .i64) 3 w' w.heap.size (fun _=>True) v0_ r ∧ Below w.heap.size w w':=by
 have hu28:=Tryd.underlying28;have HR0_1:=A_ hr0_1;have HC0_1:=A_ hc0_1;clear hr0_1 hc0_1;have HB:=A_ (Below.refl w.heap.size w);have H : ((Abi.f k a0_0 l0_1).bind fun Af=>((Abh.f Af.2).bind fun Aa=>(Aaq.l0 k (([] : List Int)) Aa Af.2 (Af.2.length : Int) 0))) = some r:=h;clear h;obtain ⟨Ao,Aj⟩ : ∃ y_ : List Int,y_ = (([] : List Int)):=⟨_,rfl⟩;replace H : ((Abi.f k a0_0 l0_1).bind fun Af=>((Abh.f Af.2).bind fun Aa=>(Aaq.l0 k Ao Aa Af.2 (Af.2.length : Int) 0))) = some r:=by first|(rw [Aj];with_reducible exact H)|(have H2_:=(Option.bind_some _ _).symm.trans H;rw [Aj];with_reducible exact H2_)|(have H2_:=(Option.bind_some _ _).symm.trans H;with_reducible exact H2_)|with_reducible exact H|(rw [Aj];exact H)|exact H
 have As:=A_ Aj;clear Aj;replace H:=Option.bind_eq_some_iff.mp H;obtain ⟨⟨Az,Ab⟩,A20,H⟩:=H;replace H : ((Abh.f Ab).bind fun Aa=>(Aaq.l0 k Ao Aa Ab (Ab.length : Int) 0)) = some r:=H;have A2:=A_ A20;clear A20;replace H:=Option.bind_eq_some_iff.mp H;obtain ⟨Aa,A30,H⟩:=H;replace H : (Aaq.l0 k Ao Aa Ab (Ab.length : Int) 0) = some r:=H;have A3:=A_ A30;clear A30;have H':=A_ H;clear H;go_enter Tryd.func116,Tryd.ntmps116
 go_wp2_with (first|((with_reducible refine gate_dst (N:=1) rfl ?_);refine box_event ?hg (N:=1) ?hd (cs:=#[.int .i64 a0_0,.slice A0_1 l0_1.length c0_1]) (t:=28) ?hr ?_;(case hd=>rfl);(case hg=>rfl);(case hr=>go_simp;try rfl);intro Ak hg w4 hbox hb;have Ac:=A_ (hbox);have Bb:=A_ (gw_ (w:=w) hg bb_);have Bc:=A_ (gw_ (w:=w) hg bb_);replace HB:=A_ (below_step bb_ hb);clear hb hbox hg)|((with_reducible refine gate_dst (N:=11) rfl ?_);refine Kd.R_lit (Kd.int .i64) _ 3 ?hg (N:=11) ?hd (xs:=([] : List Int)) (inner:=[]) (ok:=fun _=>True) (okp:=fun _=>True) ?hr ?hp (fun _ hk=>hk) trivial (Below.refl _ _) (Nat.le_refl _) (by simp) ?_;(case hd=>rfl);(case hg=>rfl);(case hr=>go_simp;try rfl);(case hp=>exact (Reps.none _ _));intro Bd w5 ho6 hb hg_ hnew_;clear hg_ hnew_;(first|rw [← As.out] at ho6|(simp only [Int.reduceToNat] at ho6;rw [← As.out] at ho6));have Ag:=A_ (Kd.R_lower ho6 (below_size bb_));replace Ac:=bz Ac hb;replace HB:=A_ (below_step bb_ hb);clear hb ho6;have hcz7_0 : w5.cell? ⟨Ak,0,none⟩ = some (.int .i64 a0_0):=blk_cell Ac.out 0;have hcz7_1 : w5.cell? ⟨Ak,1,none⟩ = some (.slice A0_1 l0_1.length c0_1):=blk_cell Ac.out 1;have hfz7_0:=blk_frozen Ac.out 0;have hfz7_1:=blk_frozen Ac.out 1)|((with_reducible refine gate_callee (f:=113) rfl ?_);refine goesL_ (some 13) rfl rfl Tryd.func113 (by kernel_rfl) rfl #[.agg #[.int .i64 a0_0,.slice A0_1 l0_1.length c0_1]] rfl au_ ?_;(with_reducible refine (Abi.calls k a0_0 _ _ l0_1 Az Ab _ ?side1 ?side2 A2.out).mono ?_);(case side1=>exact cl_ (Kd.C_below HR0_1.out HB.out));(case side2=>exact HC0_1.out);rintro e w8 ⟨Be,rfl,ho0,hb⟩;refine ⟨_,rfl,?_⟩;have Ah:=A_ (Kd.R_lower (Kd.R_new' ho0 (Kd.R_lt (rl_ Ag))) (below_size bb_));replace Ag:=A_ (Kd.R_elder' (rl_ Ag) (Kd.R_base ho0) hb);replace Ac:=bz Ac hb;replace HB:=A_ (below_step bb_ hb);(try clear hb);(try clear hb2);(try clear hk);(try clear hi);(try clear ho0);obtain ⟨Ao9,co9,eo9⟩:=Kd.R_slice Ah.out;subst eo9)|((with_reducible refine gate_callee (f:=196) rfl ?_);refine goesL_ (some 16) rfl rfl Tryd.func196 (by kernel_rfl) rfl #[.slice Ao9 Ab.length co9] rfl au_ ?_;(with_reducible refine (Abh.calls _ _ Ab Aa _ ?side1 ?side2 A3.out).mono ?_);(case side1=>exact cl_ (Kd.R_reads' Ah.out).2.2);(case side2=>exact (Kd.R_reads' Ah.out).2.1);rintro e w10 ⟨Ar,rfl,ho0,hb⟩;refine ⟨_,rfl,?_⟩;have Aw:=A_ (Kd.R_lower (Kd.R_new' (Kd.R_new' ho0 (Kd.R_lt (rl_ Ag))) (Kd.R_lt (rl_ Ah))) (below_size bb_));replace Ag:=A_ (Kd.R_elder' (rl_ Ag) (Kd.R_base ho0) hb);replace Ah:=A_ (Kd.R_elder' (rl_ Ah) (Kd.R_base ho0) hb);replace Ac:=bz Ac hb;replace HB:=A_ (below_step bb_ hb);(try clear hb);(try clear hb2);(try clear hk);(try clear hi);(try clear ho0)))
 go_loopg [3,19] k (fun kq v3 v19 w'=>∃ (x3_1 : List Int) (x19_1 : Int),v19 = .int .i64 x19_1 ∧ Aside0 (Aaq.l0 kq x3_1 Aa Ab (Ab.length : Int) x19_1 = some r) ∧ Aside0 (kq ≤ k) ∧ Aside0 (Kd.R (Kd.int .i64) 3 w' w.heap.size (fun k_=>some k_ ≠ (Ar : Value).ownBlock ∧ some k_ ≠ ((.slice Ao9 Ab.length co9) : Value).ownBlock) v3 x3_1) ∧ Aside0 (Kd.R (Kd.int .i64) 3 w' w.heap.size (fun k_=>some k_ ≠ (v3 : Value).ownBlock ∧ some k_ ≠ ((.slice Ao9 Ab.length co9) : Value).ownBlock) Ar Aa) ∧ Aside0 (Kd.R (Kd.int .i64) 3 w' w.heap.size (fun k_=>some k_ ≠ (v3 : Value).ownBlock ∧ some k_ ≠ (Ar : Value).ownBlock) (.slice Ao9 Ab.length co9) Ab) ∧ Aside0 (w'.heap[Ak]? = some (.cells #[.int .i64 a0_0,(.slice A0_1 l0_1.length c0_1)] 28 (0,0))) ∧ Aside0 (Below w.heap.size w w'))
 case atStart=>exact ⟨(Ao),(0),(by first|rfl|(simp;done)|(simp [*];done)),H',⟨Nat.le_refl _⟩,⟨rq_ (Kd.R_mono Ag.out (fun _ hk=>⟨hk.2,hk.1.2⟩))⟩,⟨rq_ (Kd.R_mono Aw.out (fun _ hk=>⟨hk.1.2,hk.2⟩))⟩,⟨rq_ (Kd.R_mono Ah.out (fun _ hk=>⟨hk.1.2,hk.2⟩))⟩,⟨bl_ Ac⟩,⟨bb_⟩⟩
 case round =>
  clear H';try clear c1
  try clear p2
  try clear hcz7_0
  try clear hcz7_1
  try clear hfz7_0
  try clear hfz7_1
  obtain ⟨x3_1,x19_1,rfl,HA,HK1,HO_3,HO_5,HO_17,Ac,HB⟩:=hrel;cases gk with
  | zero => exact absurd HA.out (by simp [Aaq.l0])
  | succ k1 =>
   have H:=HA.out;clear HA;simp only [Aaq.l0] at H
   by_cases c11 : x19_1 < (Ab.length : Int)
   ·rw [if_pos c11] at H;have c11b0 : decide (x19_1 < (Ab.length : Int)) = true:=decide_eq_true c11;clear c11;by_cases c12 : 0 ≤ x19_1
    ·rw [if_pos c12] at H;have c12b0 : decide (0 ≤ x19_1) = true:=decide_eq_true c12;clear c12;by_cases c13 : x19_1 < (Ab.length : Int)
     ·rw [if_pos c13] at H;have c13b0 : decide (x19_1 < (Ab.length : Int)) = true:=decide_eq_true c13;clear c13;have H':=A_ H;clear H;have Ap : 0 ≤ (x19_1 : Int):=of_decide_eq_true (by first|(with_reducible assumption)|assumption);have Aq : x19_1 < (Ab.length : Int):=of_decide_eq_true (by first|(with_reducible assumption)|assumption);obtain ⟨Ai,Ba,Au⟩:=Kd.at_int (Kd.R_reads' HO_17.out).2.2 x19_1 Ap Aq;cases Ba
      replace Ap:=eq_true Ap;replace Aq:=eq_true Aq;obtain ⟨Ao14,co14,eo14⟩:=Kd.R_slice HO_5.out;subst eo14;go_wp2
      go_loopg [8,25] k1 (fun kq v8 v25 w'=>∃ (x8_2 : Int) (x25_2 : Int),v8 = .int .i64 x8_2 ∧ v25 = .int .i64 x25_2 ∧ Aside0 (Aaq.l1 kq x3_1 Aa (rd Ab x19_1) x8_2 Ab (Ab.length : Int) x19_1 Aa (Aa.length : Int) x25_2 = some r) ∧ Aside0 (kq ≤ k1) ∧ Aside0 (Kd.R (Kd.int .i64) 3 w' w.heap.size (fun k_=>some k_ ≠ ((.slice Ao14 Aa.length co14) : Value).ownBlock ∧ some k_ ≠ ((.slice (some Ai) Ab.length co9) : Value).ownBlock ∧ some k_ ≠ ((.slice Ao14 Aa.length co14) : Value).ownBlock) u3 x3_1) ∧ Aside0 (Kd.R (Kd.int .i64) 3 w' w.heap.size (fun k_=>some k_ ≠ (u3 : Value).ownBlock ∧ some k_ ≠ ((.slice (some Ai) Ab.length co9) : Value).ownBlock) (.slice Ao14 Aa.length co14) Aa) ∧ Aside0 (Kd.R (Kd.int .i64) 3 w' w.heap.size (fun k_=>some k_ ≠ (u3 : Value).ownBlock ∧ some k_ ≠ ((.slice Ao14 Aa.length co14) : Value).ownBlock ∧ some k_ ≠ ((.slice Ao14 Aa.length co14) : Value).ownBlock) (.slice (some Ai) Ab.length co9) Ab) ∧ Aside0 (Kd.R (Kd.int .i64) 3 w' w.heap.size (fun k_=>some k_ ≠ (u3 : Value).ownBlock ∧ some k_ ≠ ((.slice (some Ai) Ab.length co9) : Value).ownBlock) (.slice Ao14 Aa.length co14) Aa) ∧ Aside0 (w'.heap[Ak]? = some (.cells #[.int .i64 a0_0,(.slice A0_1 l0_1.length c0_1)] 28 (0,0))) ∧ Aside0 (Below w.heap.size w w'))
      case atStart=>exact ⟨(0),(0),(by first|rfl|(simp;done)|(simp [*];done)),(by first|rfl|(simp;done)|(simp [*];done)),H',⟨Nat.le_refl _⟩,⟨rq_ (Kd.R_mono HO_3.out (fun _ hk=>⟨hk.1,⟨hk.2,hk.1⟩⟩))⟩,⟨rl_ HO_5⟩,⟨rq_ (Kd.R_mono HO_17.out (fun _ hk=>⟨hk.1,⟨hk.2,hk.2⟩⟩))⟩,⟨rl_ HO_5⟩,⟨bl_ Ac⟩,⟨bb_⟩⟩
      case round =>
       clear H';try clear c1
       try clear p2
       try clear p3
       try clear q3
       try clear hx3
       try clear c11
       try clear c11b0
       try clear c12
       try clear c12b0
       try clear c13
       try clear c13b0
       try clear hcz7_0
       try clear hcz7_1
       try clear hfz7_0
       try clear hfz7_1
       try clear Au
       try clear p2
       try clear Ap
       try clear Aq
       obtain ⟨x8_2,x25_2,rfl,rfl,HA,HK2,HO_3,HO_5,HO_17,HO_23,Ac,HB⟩:=hrel;cases gk with
       | zero=>exact absurd HA.out (by simp [Aaq.l1])
       | succ k2 =>
        have H:=HA.out;clear HA;simp only [Aaq.l1] at H
        by_cases c15 : x25_2 < (Aa.length : Int)
        ·rw [if_pos c15] at H;have c15b0 : decide (x25_2 < (Aa.length : Int)) = true:=decide_eq_true c15;clear c15;by_cases c16 : 0 ≤ x25_2
         ·rw [if_pos c16] at H;have c16b0 : decide (0 ≤ x25_2) = true:=decide_eq_true c16;clear c16;by_cases c17 : x25_2 < (Aa.length : Int)
          ·rw [if_pos c17] at H;have c17b0 : decide (x25_2 < (Aa.length : Int)) = true:=decide_eq_true c17;clear c17;by_cases c18 : (rd Aa x25_2) = (rd Ab x19_1)
           ·rw [if_pos c18] at H;have c18b0 : ((rd Aa x25_2) == (rd Ab x19_1)) = true:=beq_iff_eq.mpr c18;have c18b1 : ((rd Aa x25_2) != (rd Ab x19_1)) = false:=bne_eq_false_iff_eq.mpr c18;clear c18;have H':=A_ H;clear H;have Ad : 0 ≤ (x25_2 : Int):=of_decide_eq_true (by first|(with_reducible assumption)|assumption);have Ae : x25_2 < (Aa.length : Int):=of_decide_eq_true (by first|(with_reducible assumption)|assumption);obtain ⟨At,Am,An⟩:=Kd.at_int (Kd.R_reads' HO_23.out).2.2 x25_2 Ad Ae;cases Am
            replace Ad:=eq_true Ad;replace Ae:=eq_true Ae;go_wp2
            go_roundg k2
            case measure=>have:=HK1.out;have:=HK2.out;omega
            case rel=>exact ⟨(x8_2),(wrap64 (x25_2 + 1)),(by first|rfl|(simp;done)|(simp [*];done)),(by first|rfl|(simp;done)|(simp [*];done)),H',⟨by have:=HK1.out;have:=HK2.out;omega⟩,⟨rl_ HO_3⟩,⟨rl_ HO_5⟩,⟨rl_ HO_17⟩,⟨rl_ HO_23⟩,⟨bl_ Ac⟩,⟨bb_⟩⟩
           ·rw [if_neg c18] at H;have c18b0 : ((rd Aa x25_2) == (rd Ab x19_1)) = false:=beq_eq_false_iff_ne.mpr c18;have c18b1 : ((rd Aa x25_2) != (rd Ab x19_1)) = true:=bne_iff_ne.mpr c18;by_cases c19 : (Go.bits .andNot .i64 (rd Aa x25_2) (rd Ab x19_1)) = 0
            ·rw [if_pos c19] at H;have c19b0 : ((Go.bits .andNot .i64 (rd Aa x25_2) (rd Ab x19_1)) == 0) = true:=beq_iff_eq.mpr c19;have c19b1 : ((Go.bits .andNot .i64 (rd Aa x25_2) (rd Ab x19_1)) != 0) = false:=bne_eq_false_iff_eq.mpr c19;clear c19;have H':=A_ H;clear H;have Ad : 0 ≤ (x25_2 : Int):=of_decide_eq_true (by first|(with_reducible assumption)|assumption);have Ae : x25_2 < (Aa.length : Int):=of_decide_eq_true (by first|(with_reducible assumption)|assumption);obtain ⟨At,Am,An⟩:=Kd.at_int (Kd.R_reads' HO_23.out).2.2 x25_2 Ad Ae;cases Am
             replace Ad:=eq_true Ad;replace Ae:=eq_true Ae;go_wp2
             go_roundg k2
             case measure=>have:=HK1.out;have:=HK2.out;omega
             case rel=>exact ⟨(wrap64 (x8_2 + 1)),(wrap64 (x25_2 + 1)),(by first|rfl|(simp;done)|(simp [*];done)),(by first|rfl|(simp;done)|(simp [*];done)),H',⟨by have:=HK1.out;have:=HK2.out;omega⟩,⟨rl_ HO_3⟩,⟨rl_ HO_5⟩,⟨rl_ HO_17⟩,⟨rl_ HO_23⟩,⟨bl_ Ac⟩,⟨bb_⟩⟩
            ·rw [if_neg c19] at H;have c19b0 : ((Go.bits .andNot .i64 (rd Aa x25_2) (rd Ab x19_1)) == 0) = false:=beq_eq_false_iff_ne.mpr c19;have c19b1 : ((Go.bits .andNot .i64 (rd Aa x25_2) (rd Ab x19_1)) != 0) = true:=bne_iff_ne.mpr c19;have H':=A_ H;clear H;have Ad : 0 ≤ (x25_2 : Int):=of_decide_eq_true (by first|(with_reducible assumption)|assumption);have Ae : x25_2 < (Aa.length : Int):=of_decide_eq_true (by first|(with_reducible assumption)|assumption);obtain ⟨At,Am,An⟩:=Kd.at_int (Kd.R_reads' HO_23.out).2.2 x25_2 Ad Ae;cases Am
             replace Ad:=eq_true Ad;replace Ae:=eq_true Ae;go_wp2
             go_roundg k2
             case measure=>have:=HK1.out;have:=HK2.out;omega
             case rel=>exact ⟨(x8_2),(wrap64 (x25_2 + 1)),(by first|rfl|(simp;done)|(simp [*];done)),(by first|rfl|(simp;done)|(simp [*];done)),H',⟨by have:=HK1.out;have:=HK2.out;omega⟩,⟨rl_ HO_3⟩,⟨rl_ HO_5⟩,⟨rl_ HO_17⟩,⟨rl_ HO_23⟩,⟨bl_ Ac⟩,⟨bb_⟩⟩
          ·rw [if_neg c17] at H;exact absurd H (by simp)
         ·rw [if_neg c16] at H;exact absurd H (by simp)
        ·rw [if_neg c15] at H;have c15b0 : decide (x25_2 < (Aa.length : Int)) = false:=decide_eq_false c15;clear c15;by_cases c20 : x3_1.length < 17592186044416
         ·rw [if_pos c20] at H;have LMc20:=A_ c20;clear c20;obtain ⟨Av,Al⟩ : ∃ y_ : List Int,y_ = (x3_1 ++ [x8_2]):=⟨_,rfl⟩;replace H : (Aaq.l0 k2 Av Aa Ab (Ab.length : Int) (wrap64 (x19_1 + 1))) = some r:=by first|(rw [Al];with_reducible exact H)|(have H2_:=(Option.bind_some _ _).symm.trans H;rw [Al];with_reducible exact H2_)|(have H2_:=(Option.bind_some _ _).symm.trans H;with_reducible exact H2_)|with_reducible exact H|(rw [Al];exact H)|exact H
          have Ax:=A_ Al;clear Al;have H':=A_ H;clear H;go_wp2_with (first|((with_reducible refine gate_builtin (b:=.append) (xs:=#[.tmp 41,.tmp 43]) rfl ?_);at_builtin;refine Kd.R_append (Kd.int .i64) (w0:=w) w.heap.size rfl (.tmp 41) (.tmp 43) 22 3 (.int .i64 0) 8 rfl Tryd.underlying22 info3 rfl (by decide) (by omega) u3 x3_1 x8_2 [.int .i64 x8_2] (fun k_=>some k_ ≠ (.slice Ao14 Aa.length co14 : Value).ownBlock ∧ some k_ ≠ (.slice (some Ai) Ab.length co9 : Value).ownBlock ∧ some k_ ≠ (.slice Ao14 Aa.length co14 : Value).ownBlock) (fun _=>False) rfl rfl ?aP (fun _ hk=>hk.elim) ?aF ?aO ?aB ?aS ?aL ?_;(case aP=>exact rfl);(case aB=>exact bb_);(case aF=>exact (fun k_ hk=>⟨Kd.fresh' (Kd.R_lt (rl_ HO_5)) k_ hk,Kd.fresh' (Kd.R_lt (rl_ HO_17)) k_ hk,Kd.fresh' (Kd.R_lt (rl_ HO_23)) k_ hk⟩));(case aO=>exact (rl_ HO_3));(case aS=>exact (below_size bb_));(case aL=>have:=LMc20.out;omega);intro Bf w21 ho hb hg hat;rw [← Ax.out] at ho;replace HO_5:=A_ (Kd.R_after (ok:=(fun k_=>some k_ ≠ (.slice (some Ai) Ab.length co9 : Value).ownBlock)) (rq_ (Kd.R_mono HO_5.out (fun _ hk=>⟨hk.2,hk.1⟩))) hg hat);replace HO_17:=A_ (Kd.R_after (ok:=(fun k_=>some k_ ≠ (.slice Ao14 Aa.length co14 : Value).ownBlock ∧ some k_ ≠ (.slice Ao14 Aa.length co14 : Value).ownBlock)) (rq_ (Kd.R_mono HO_17.out (fun _ hk=>⟨⟨hk.2.1,hk.2.2⟩,hk.1⟩))) hg hat);replace HO_23:=A_ (Kd.R_after (ok:=(fun k_=>some k_ ≠ (.slice (some Ai) Ab.length co9 : Value).ownBlock)) (rq_ (Kd.R_mono HO_23.out (fun _ hk=>⟨hk.2,hk.1⟩))) hg hat);replace Ac:=A_ (blk_grown (g:=Ak) (o:=.cells #[.int .i64 a0_0,.slice A0_1 l0_1.length c0_1] 28 (0,0)) (bl_ Ac) hg (Kd.R_ne HO_3.out Ac.out (by decide)));replace HB:=A_ (hb);have Ay:=A_ (ho);clear HO_3;clear ho hb hg hat))
          go_roundg k2
          case measure=>have:=HK1.out;have:=HK2.out;omega
          case rel=>exact ⟨(Av),(wrap64 (x19_1 + 1)),(by first|rfl|(simp;done)|(simp [*];done)),H',⟨by have:=HK1.out;have:=HK2.out;omega⟩,⟨rq_ (Kd.R_mono Ay.out (fun _ hk=>⟨hk.1,hk.2.1⟩))⟩,⟨rq_ (Kd.R_mono HO_5.out (fun _ hk=>⟨hk.2,hk.1⟩))⟩,⟨rq_ (Kd.R_mono HO_17.out (fun _ hk=>⟨hk.2,hk.1.1⟩))⟩,⟨bl_ Ac⟩,⟨bb_⟩⟩
         ·rw [if_neg c20] at H;exact absurd H (by simp)
     ·rw [if_neg c13] at H;exact absurd H (by simp)
    ·rw [if_neg c12] at H;exact absurd H (by simp)
   ·rw [if_neg c11] at H;have c11b0 : decide (x19_1 < (Ab.length : Int)) = false:=decide_eq_false c11;clear c11;obtain rfl:=Option.some.inj H;go_wp2
    go_ret
    exact ⟨_,by first|rfl|(simp [errW_none,errW_some] <;> rfl)|(simp [*,errW_none,errW_some] <;> rfl),rq_ (Kd.R_mono HO_3.out (fun _ hk=>trivial)),bb_⟩
mutual
def Aap.l0 : Nat → List (S62) → List Int → List Int → Int → Int → Int → List Int → Option ((List (S62)))
 | 0,_,_,_,_,_,_,_=>none
 | k + 1,x3,x4,x13,x14,x15,x324000,x324001=>if x15 < x14 then (if 0 ≤ x15 then (if x15 < (x13.length : Int) then (Aap.l1 k x3 x4 x15 (rd x13 x15) (rd x13 x15) x13 x14 x15 x4 (x4.length : Int) 0 x324000 x324001) else (none)) else (none)) else (some x3)
def Aap.l1 : Nat → List (S62) → List Int → Int → Int → Int → List Int → Int → Int → List Int → Int → Int → Int → List Int → Option ((List (S62)))
 | 0,_,_,_,_,_,_,_,_,_,_,_,_,_=>none
 | k + 1,x3,x4,x5,x6,x7,x13,x14,x15,x21,x22,x23,x324000,x324001=>if x23 < x22 then (if 0 ≤ x23 then (if x23 < (x21.length : Int) then ((Aak.f x324000 x324001 x5 x23).bind fun t332=>(if t332 = true then (Aap.l1 k x3 x4 x5 x6 x7 x13 x14 x15 x21 x22 (wrap64 (x23 + 1)) x324000 x324001) else (Aap.l1 k x3 x4 x5 x6 (mx x7 (rd x21 x23)) x13 x14 x15 x21 x22 (wrap64 (x23 + 1)) x324000 x324001))) else (none)) else (none)) else (if x3.length < 8796093022208 then (Aap.l0 k (x3 ++ [(⟨x6,x7⟩ : S62)]) x4 x13 x14 (wrap64 (x15 + 1)) x324000 x324001) else (none))
end
def Aap.f (k : Nat) (a0_0 : Int) (l0_1 : List Int) : Option ((List (S62))) := (Aaq.f k a0_0 l0_1).bind fun t327 => (Aap.l0 k (([] : List (S62))) t327 t327 (t327.length : Int) 0 a0_0 l0_1)
set_option maxHeartbeats 8000000 in
set_option maxRecDepth 100000 in
theorem Aap.calls (k : Nat) (a0_0 : Int) (A0_1 : Option Addr) (c0_1 : Nat) (l0_1 : List Int) (r : List (S62)) (w : World) (hr0_1 : Kd.C (Kd.int .i64) w A0_1 l0_1.length l0_1) (hc0_1 : l0_1.length ≤ c0_1) (h : Aap.f k a0_0 l0_1 = some r) :
 Calls Tryd.prog 135 #[.agg #[.int .i64 a0_0,.slice A0_1 l0_1.length c0_1]] w fun e w'=>∃ v0_ : Value,e = .returned (v0_) ∧ Kd.R k62 62 w' w.heap.size (fun _=>True) v0_ r ∧ Below w.heap.size w w':=by
 have hu28:=Tryd.underlying28;have hu62:=Tryd.underlying62;have HR0_1:=A_ hr0_1;have HC0_1:=A_ hc0_1;clear hr0_1 hc0_1;have HB:=A_ (Below.refl w.heap.size w);have H : ((Aaq.f k a0_0 l0_1).bind fun Aa=>(Aap.l0 k (([] : List (S62))) Aa Aa (Aa.length : Int) 0 a0_0 l0_1)) = some r:=h;clear h;obtain ⟨An,Af⟩ : ∃ y_ : List (S62),y_ = (([] : List (S62))):=⟨_,rfl⟩;replace H : ((Aaq.f k a0_0 l0_1).bind fun Aa=>(Aap.l0 k An Aa Aa (Aa.length : Int) 0 a0_0 l0_1)) = some r:=by first|(rw [Af];with_reducible exact H)|(have H2_:=(Option.bind_some _ _).symm.trans H;rw [Af];with_reducible exact H2_)|(have H2_:=(Option.bind_some _ _).symm.trans H;with_reducible exact H2_)|with_reducible exact H|(rw [Af];exact H)|exact H
 have Ap:=A_ Af;clear Af;replace H:=Option.bind_eq_some_iff.mp H;obtain ⟨Aa,A20,H⟩:=H;replace H : (Aap.l0 k An Aa Aa (Aa.length : Int) 0 a0_0 l0_1) = some r:=H;have A2:=A_ A20;clear A20;have H':=A_ H;clear H;go_enter Tryd.func135,Tryd.ntmps135
 go_wp2_with (first|((with_reducible refine gate_dst (N:=1) rfl ?_);refine box_event ?hg (N:=1) ?hd (cs:=#[.int .i64 a0_0,.slice A0_1 l0_1.length c0_1]) (t:=28) ?hr ?_;(case hd=>rfl);(case hg=>rfl);(case hr=>go_simp;try rfl);intro Ac hg w3 hbox hb;have Ab:=A_ (hbox);have Ay:=A_ (gw_ (w:=w) hg bb_);have Az:=A_ (gw_ (w:=w) hg bb_);replace HB:=A_ (below_step bb_ hb);clear hb hbox hg)|((with_reducible refine gate_dst (N:=10) rfl ?_);refine Kd.R_lit k62 _ 62 ?hg (N:=10) ?hd (xs:=([] : List (S62))) (inner:=[]) (ok:=fun _=>True) (okp:=fun _=>True) ?hr ?hp (fun _ hk=>hk) trivial (Below.refl _ _) (Nat.le_refl _) (by simp) ?_;(case hd=>rfl);(case hg=>rfl);(case hr=>go_simp;try rfl);(case hp=>exact (Reps.none _ _));intro Ba w4 ho5 hb hg_ hnew_;clear hg_ hnew_;(first|rw [← Ap.out] at ho5|(simp only [Int.reduceToNat] at ho5;rw [← Ap.out] at ho5));have Ai:=A_ (Kd.R_lower ho5 (below_size bb_));replace Ab:=bz Ab hb;replace HB:=A_ (below_step bb_ hb);clear hb ho5;have hcz6_0 : w4.cell? ⟨Ac,0,none⟩ = some (.int .i64 a0_0):=blk_cell Ab.out 0;have hcz6_1 : w4.cell? ⟨Ac,1,none⟩ = some (.slice A0_1 l0_1.length c0_1):=blk_cell Ab.out 1;have hfz6_0:=blk_frozen Ab.out 0;have hfz6_1:=blk_frozen Ab.out 1)|((with_reducible refine gate_callee (f:=116) rfl ?_);refine goesL_ (some 12) rfl rfl Tryd.func116 (by kernel_rfl) rfl #[.agg #[.int .i64 a0_0,.slice A0_1 l0_1.length c0_1]] rfl au_ ?_;(with_reducible refine (Aaq.calls k a0_0 _ _ l0_1 Aa _ ?side1 ?side2 A2.out).mono ?_);(case side1=>exact cl_ (Kd.C_below HR0_1.out HB.out));(case side2=>exact HC0_1.out);rintro e w7 ⟨Bb,rfl,ho0,hb⟩;refine ⟨_,rfl,?_⟩;replace Ai:=rb_ Ai hb;have Aj:=A_ (Kd.R_lower ho0 (below_size bb_));replace Ab:=bz Ab hb;replace HB:=A_ (below_step bb_ hb);(try clear hb);(try clear hb2);(try clear hk);(try clear hi);(try clear ho0);obtain ⟨Ao8,co8,eo8⟩:=Kd.R_slice Aj.out;subst eo8))
 go_loopg [3,15] k (fun kq v3 v15 w'=>∃ (x3_1 : List (S62)) (x15_1 : Int),v15 = .int .i64 x15_1 ∧ Aside0 (Aap.l0 kq x3_1 Aa Aa (Aa.length : Int) x15_1 a0_0 l0_1 = some r) ∧ Aside0 (kq ≤ k) ∧ Aside0 (Kd.R k62 62 w' w.heap.size (fun _=>True) v3 x3_1) ∧ Aside0 (Kd.R (Kd.int .i64) 3 w' w.heap.size (fun _=>True) (.slice Ao8 Aa.length co8) Aa) ∧ Aside0 (Kd.R (Kd.int .i64) 3 w' w.heap.size (fun _=>True) (.slice Ao8 Aa.length co8) Aa) ∧ Aside0 (w'.heap[Ac]? = some (.cells #[.int .i64 a0_0,(.slice A0_1 l0_1.length c0_1)] 28 (0,0))) ∧ Aside0 (Below w.heap.size w w'))
 case atStart=>exact ⟨(An),(0),(by first|rfl|(simp;done)|(simp [*];done)),H',⟨Nat.le_refl _⟩,⟨rl_ Ai⟩,⟨rl_ Aj⟩,⟨rl_ Aj⟩,⟨bl_ Ab⟩,⟨bb_⟩⟩
 case round =>
  clear H';try clear c1
  try clear p2
  try clear hcz6_0
  try clear hcz6_1
  try clear hfz6_0
  try clear hfz6_1
  obtain ⟨x3_1,x15_1,rfl,HA,HK1,HO_3,HO_4,HO_13,Ab,HB⟩:=hrel;cases gk with
  | zero => exact absurd HA.out (by simp [Aap.l0])
  | succ k1 =>
   have H:=HA.out;clear HA;simp only [Aap.l0] at H
   by_cases c9 : x15_1 < (Aa.length : Int)
   ·rw [if_pos c9] at H;have c9b0 : decide (x15_1 < (Aa.length : Int)) = true:=decide_eq_true c9;clear c9;by_cases c10 : 0 ≤ x15_1
    ·rw [if_pos c10] at H;have c10b0 : decide (0 ≤ x15_1) = true:=decide_eq_true c10;clear c10;by_cases c11 : x15_1 < (Aa.length : Int)
     ·rw [if_pos c11] at H;have c11b0 : decide (x15_1 < (Aa.length : Int)) = true:=decide_eq_true c11;clear c11;have H':=A_ H;clear H;have Ak : 0 ≤ (x15_1 : Int):=of_decide_eq_true (by first|(with_reducible assumption)|assumption);have Al : x15_1 < (Aa.length : Int):=of_decide_eq_true (by first|(with_reducible assumption)|assumption);obtain ⟨Ag,Ax,Aq⟩:=Kd.at_int (Kd.R_reads' HO_13.out).2.2 x15_1 Ak Al;cases Ax
      replace Ak:=eq_true Ak;replace Al:=eq_true Al;go_wp2
      go_loopg [7,23] k1 (fun kq v7 v23 w'=>∃ (x7_2 : Int) (x23_2 : Int),v7 = .int .i64 x7_2 ∧ v23 = .int .i64 x23_2 ∧ Aside0 (Aap.l1 kq x3_1 Aa x15_1 (rd Aa x15_1) x7_2 Aa (Aa.length : Int) x15_1 Aa (Aa.length : Int) x23_2 a0_0 l0_1 = some r) ∧ Aside0 (kq ≤ k1) ∧ Aside0 (Kd.R k62 62 w' w.heap.size (fun _=>True) u3 x3_1) ∧ Aside0 (Kd.R (Kd.int .i64) 3 w' w.heap.size (fun _=>True) (.slice (some Ag) Aa.length co8) Aa) ∧ Aside0 (Kd.R (Kd.int .i64) 3 w' w.heap.size (fun _=>True) (.slice (some Ag) Aa.length co8) Aa) ∧ Aside0 (Kd.R (Kd.int .i64) 3 w' w.heap.size (fun _=>True) (.slice (some Ag) Aa.length co8) Aa) ∧ Aside0 (w'.heap[Ac]? = some (.cells #[.int .i64 a0_0,(.slice A0_1 l0_1.length c0_1)] 28 (0,0))) ∧ Aside0 (Below w.heap.size w w'))
      case atStart=>exact ⟨(rd Aa x15_1),(0),(by first|rfl|(simp;done)|(simp [*];done)),(by first|rfl|(simp;done)|(simp [*];done)),H',⟨Nat.le_refl _⟩,⟨rl_ HO_3⟩,⟨rl_ HO_4⟩,⟨rl_ HO_13⟩,⟨rl_ HO_4⟩,⟨bl_ Ab⟩,⟨bb_⟩⟩
      case round =>
       clear H';try clear c1
       try clear p2
       try clear p3
       try clear q3
       try clear hx3
       try clear c9
       try clear c9b0
       try clear c10
       try clear c10b0
       try clear c11
       try clear c11b0
       try clear hcz6_0
       try clear hcz6_1
       try clear hfz6_0
       try clear hfz6_1
       try clear Aq
       try clear p2
       try clear Ak
       try clear Al
       obtain ⟨x7_2,x23_2,rfl,rfl,HA,HK2,HO_3,HO_4,HO_13,HO_21,Ab,HB⟩:=hrel;cases gk with
       | zero=>exact absurd HA.out (by simp [Aap.l1])
       | succ k2 =>
        have H:=HA.out;clear HA;simp only [Aap.l1] at H
        by_cases c12 : x23_2 < (Aa.length : Int)
        ·rw [if_pos c12] at H;have c12b0 : decide (x23_2 < (Aa.length : Int)) = true:=decide_eq_true c12;clear c12;by_cases c13 : 0 ≤ x23_2
         ·rw [if_pos c13] at H;have c13b0 : decide (0 ≤ x23_2) = true:=decide_eq_true c13;clear c13;by_cases c14 : x23_2 < (Aa.length : Int)
          ·rw [if_pos c14] at H;have c14b0 : decide (x23_2 < (Aa.length : Int)) = true:=decide_eq_true c14;clear c14;replace H:=Option.bind_eq_some_iff.mp H;obtain ⟨As,At,H⟩:=H;replace H : (if As = true then (Aap.l1 k2 x3_1 Aa x15_1 (rd Aa x15_1) x7_2 Aa (Aa.length : Int) x15_1 Aa (Aa.length : Int) (wrap64 (x23_2 + 1)) a0_0 l0_1) else (Aap.l1 k2 x3_1 Aa x15_1 (rd Aa x15_1) (mx x7_2 (rd Aa x23_2)) Aa (Aa.length : Int) x15_1 Aa (Aa.length : Int) (wrap64 (x23_2 + 1)) a0_0 l0_1)) = some r:=H;have A15:=A_ At;clear At;by_cases c16 : As = true
           ·subst c16;have H1 : (Aap.l1 k2 x3_1 Aa x15_1 (rd Aa x15_1) x7_2 Aa (Aa.length : Int) x15_1 Aa (Aa.length : Int) (wrap64 (x23_2 + 1)) a0_0 l0_1) = some r:=by rw [if_pos rfl] at H;exact H
            clear H;have H:=H1;clear H1;have H':=A_ H;clear H;have Ad : 0 ≤ (x23_2 : Int):=of_decide_eq_true (by first|(with_reducible assumption)|assumption);have Ae : x23_2 < (Aa.length : Int):=of_decide_eq_true (by first|(with_reducible assumption)|assumption);obtain ⟨Am,Ao,Ar⟩:=Kd.at_int (Kd.R_reads' HO_21.out).2.2 x23_2 Ad Ae;obtain rfl : Ag = Am:=(by injection Ao);replace Ad:=eq_true Ad;replace Ae:=eq_true Ae;have hcz17_0 : wr.cell? ⟨Ac,0,none⟩ = some (.int .i64 a0_0):=blk_cell Ab.out 0;have hcz17_1 : wr.cell? ⟨Ac,1,none⟩ = some (.slice A0_1 l0_1.length c0_1):=blk_cell Ab.out 1;have hfz17_0:=blk_frozen Ab.out 0;have hfz17_1:=blk_frozen Ab.out 1;go_wp2_with (first|((with_reducible refine gate_callee (f:=146) rfl ?_);refine goesL_ (some 31) rfl rfl Tryd.func146 (by kernel_rfl) rfl #[.agg #[.int .i64 a0_0,.slice A0_1 l0_1.length c0_1],.int .i64 x15_1,.int .i64 x23_2] rfl au_ ?_;(with_reducible refine (Aak.calls a0_0 _ _ l0_1 x15_1 x23_2 true _ ?side1 ?side2 A15.out).mono ?_);(case side1=>exact cl_ (Kd.C_below HR0_1.out HB.out));(case side2=>exact HC0_1.out);rintro e w18 ⟨rfl,hb⟩;refine ⟨_,rfl,?_⟩;replace HO_3:=rb_ HO_3 hb;replace HO_4:=rb_ HO_4 hb;replace HO_13:=rb_ HO_13 hb;replace HO_21:=rb_ HO_21 hb;replace Ab:=bz Ab hb;replace HB:=A_ (below_step bb_ hb);(try clear hb);(try clear hb2);(try clear hk);(try clear hi)))
            go_roundg k2
            case measure=>have:=HK1.out;have:=HK2.out;omega
            case rel=>exact ⟨(x7_2),(wrap64 (x23_2 + 1)),(by first|rfl|(simp;done)|(simp [*];done)),(by first|rfl|(simp;done)|(simp [*];done)),H',⟨by have:=HK1.out;have:=HK2.out;omega⟩,⟨rl_ HO_3⟩,⟨rl_ HO_4⟩,⟨rl_ HO_13⟩,⟨rl_ HO_21⟩,⟨bl_ Ab⟩,⟨bb_⟩⟩
           ·replace c16:=Bool.eq_false_iff.mpr c16;subst c16;have H1 : (Aap.l1 k2 x3_1 Aa x15_1 (rd Aa x15_1) (mx x7_2 (rd Aa x23_2)) Aa (Aa.length : Int) x15_1 Aa (Aa.length : Int) (wrap64 (x23_2 + 1)) a0_0 l0_1) = some r:=by rw [if_neg (show ¬ (false = true) by decide)] at H;exact H
            clear H;have H:=H1;clear H1;obtain ⟨ji19,hji19⟩ : ∃ j_ : Int,(mx x7_2 (rd Aa x23_2)) = j_:=⟨_,rfl⟩;replace H : (Aap.l1 k2 x3_1 Aa x15_1 (rd Aa x15_1) ji19 Aa (Aa.length : Int) x15_1 Aa (Aa.length : Int) (wrap64 (x23_2 + 1)) a0_0 l0_1) = some r:=by first|(rw [hji19] at H;exact H)|(simp only [hji19] at H ⊢;exact H)
            (try rw [hji19] at A15);have hji19_ : (if x7_2 < (rd Aa x23_2) then (rd Aa x23_2) else x7_2) = ji19:=hji19;have H':=A_ H;clear H;have Ad : 0 ≤ (x23_2 : Int):=of_decide_eq_true (by first|(with_reducible assumption)|assumption);have Ae : x23_2 < (Aa.length : Int):=of_decide_eq_true (by first|(with_reducible assumption)|assumption);obtain ⟨Am,Ao,Ar⟩:=Kd.at_int (Kd.R_reads' HO_21.out).2.2 x23_2 Ad Ae;obtain rfl : Ag = Am:=(by injection Ao);replace Ad:=eq_true Ad;replace Ae:=eq_true Ae;have hcz20_0 : wr.cell? ⟨Ac,0,none⟩ = some (.int .i64 a0_0):=blk_cell Ab.out 0;have hcz20_1 : wr.cell? ⟨Ac,1,none⟩ = some (.slice A0_1 l0_1.length c0_1):=blk_cell Ab.out 1;have hfz20_0:=blk_frozen Ab.out 0;have hfz20_1:=blk_frozen Ab.out 1;go_wp2_with (first|((with_reducible refine gate_callee (f:=146) rfl ?_);refine goesL_ (some 31) rfl rfl Tryd.func146 (by kernel_rfl) rfl #[.agg #[.int .i64 a0_0,.slice A0_1 l0_1.length c0_1],.int .i64 x15_1,.int .i64 x23_2] rfl au_ ?_;(with_reducible refine (Aak.calls a0_0 _ _ l0_1 x15_1 x23_2 false _ ?side1 ?side2 A15.out).mono ?_);(case side1=>exact cl_ (Kd.C_below HR0_1.out HB.out));(case side2=>exact HC0_1.out);rintro e w21 ⟨rfl,hb⟩;refine ⟨_,rfl,?_⟩;replace HO_3:=rb_ HO_3 hb;replace HO_4:=rb_ HO_4 hb;replace HO_13:=rb_ HO_13 hb;replace HO_21:=rb_ HO_21 hb;replace Ab:=bz Ab hb;replace HB:=A_ (below_step bb_ hb);(try clear hb);(try clear hb2);(try clear hk);(try clear hi)))
            go_roundg k2
            case measure=>have:=HK1.out;have:=HK2.out;omega
            case rel=>exact ⟨(ji19),(wrap64 (x23_2 + 1)),(by first|rfl|(simp;done)|(simp only [← hji19] <;> (first|rfl|simp))|(simp [*];done)),(by first|rfl|(simp;done)|(simp [*];done)),H',⟨by have:=HK1.out;have:=HK2.out;omega⟩,⟨rl_ HO_3⟩,⟨rl_ HO_4⟩,⟨rl_ HO_13⟩,⟨rl_ HO_21⟩,⟨bl_ Ab⟩,⟨bb_⟩⟩
          ·rw [if_neg c14] at H;exact absurd H (by simp)
         ·rw [if_neg c13] at H;exact absurd H (by simp)
        ·rw [if_neg c12] at H;have c12b0 : decide (x23_2 < (Aa.length : Int)) = false:=decide_eq_false c12;clear c12;by_cases c22 : x3_1.length < 8796093022208
         ·rw [if_pos c22] at H;have LMc22:=A_ c22;clear c22;obtain ⟨Au,Ah⟩ : ∃ y_ : List (S62),y_ = (x3_1 ++ [(⟨(rd Aa x15_1),x7_2⟩ : S62)]):=⟨_,rfl⟩;replace H : (Aap.l0 k2 Au Aa Aa (Aa.length : Int) (wrap64 (x15_1 + 1)) a0_0 l0_1) = some r:=by first|(rw [Ah];with_reducible exact H)|(have H2_:=(Option.bind_some _ _).symm.trans H;rw [Ah];with_reducible exact H2_)|(have H2_:=(Option.bind_some _ _).symm.trans H;with_reducible exact H2_)|with_reducible exact H|(rw [Ah];exact H)|exact H
          have Av:=A_ Ah;clear Ah;have H':=A_ H;clear H;go_wp2_with (first|((with_reducible refine gate_builtin (b:=.append) (xs:=#[.tmp 37,.tmp 41]) rfl ?_);at_builtin;refine Kd.R_append k62 (w0:=w) w.heap.size rfl (.tmp 37) (.tmp 41) 52 62 (.agg #[(.int .i64 0),(.int .i64 0)]) 16 rfl Tryd.underlying52 info62 rfl (by decide) (by omega) u3 x3_1 (⟨(rd Aa x15_1),x7_2⟩ : S62) [.int .i64 (rd Aa x15_1),.int .i64 x7_2] (fun _=>True) (fun _=>False) rfl rfl ?aP (fun _ hk=>hk.elim) ?aF ?aO ?aB ?aS ?aL ?_;(case aP=>exact k62_mkM _ _ _ (⟨(rd Aa x15_1),x7_2⟩ : S62));(case aB=>exact bb_);(case aF=>exact (fun _ _=>trivial));(case aO=>exact (rl_ HO_3));(case aS=>exact (below_size bb_));(case aL=>have:=LMc22.out;omega);intro Bc w23 ho hb hg hat;rw [← Av.out] at ho;replace HO_4:=A_ (Kd.R_over' (rl_ HO_4) (Kd.R_typed (rl_ HO_3)) (by decide) hg);replace HO_13:=A_ (Kd.R_over' (rl_ HO_13) (Kd.R_typed (rl_ HO_3)) (by decide) hg);replace HO_21:=A_ (Kd.R_over' (rl_ HO_21) (Kd.R_typed (rl_ HO_3)) (by decide) hg);replace Ab:=A_ (blk_grown (g:=Ac) (o:=.cells #[.int .i64 a0_0,.slice A0_1 l0_1.length c0_1] 28 (0,0)) (bl_ Ab) hg (Kd.R_ne HO_3.out Ab.out (by decide)));replace HB:=A_ (hb);have Aw:=A_ (ho);clear HO_3;clear ho hb hg hat))
          go_roundg k2
          case measure=>have:=HK1.out;have:=HK2.out;omega
          case rel=>exact ⟨(Au),(wrap64 (x15_1 + 1)),(by first|rfl|(simp;done)|(simp [*];done)),H',⟨by have:=HK1.out;have:=HK2.out;omega⟩,⟨rl_ Aw⟩,⟨rl_ HO_4⟩,⟨rl_ HO_13⟩,⟨bl_ Ab⟩,⟨bb_⟩⟩
         ·rw [if_neg c22] at H;exact absurd H (by simp)
     ·rw [if_neg c11] at H;exact absurd H (by simp)
    ·rw [if_neg c10] at H;exact absurd H (by simp)
   ·rw [if_neg c9] at H;have c9b0 : decide (x15_1 < (Aa.length : Int)) = false:=decide_eq_false c9;clear c9;obtain rfl:=Option.some.inj H;go_wp2
    go_ret
    exact ⟨_,by first|rfl|(simp [errW_none,errW_some] <;> rfl)|(simp [*,errW_none,errW_some] <;> rfl),rl_ HO_3,bb_⟩
def Ab1.f (k : Nat) (a0_0 : Int) (l0_1 : List Int) : Option ((List (S62)) × Bool) := (Aav.f k a0_0 l0_1).bind fun t337 => (if t337 = true then ((Aap.f k a0_0 l0_1).bind fun t338 => (some (t338, true))) else (some (([] : List (S62)), false)))
set_option maxHeartbeats 8000000 in
set_option maxRecDepth 100000 in
theorem Ab1.calls (k : Nat) (a0_0 : Int) (A0_1 : Option Addr) (c0_1 : Nat) (l0_1 : List Int) (r1 : List (S62)) (r2 : Bool) (w : World) (hr0_1 : Kd.C (Kd.int .i64) w A0_1 l0_1.length l0_1) (hc0_1 : l0_1.length ≤ c0_1) (hT : TabOK w) (h : Ab1.f k a0_0 l0_1 = some (r1,r2)) :
 Calls Tryd.prog 48 #[.agg #[.int .i64 a0_0,.slice A0_1 l0_1.length c0_1]] w fun e w'=>∃ v0_ : Value,e = .returned (.tuple #[v0_,.bool r2]) ∧ Kd.R k62 62 w' w.heap.size (fun _=>True) v0_ r1 ∧ Below w.heap.size w w':=by
 have hu28:=Tryd.underlying28;have HT:=A_ hT;clear hT;have HR0_1:=A_ hr0_1;have HC0_1:=A_ hc0_1;clear hr0_1 hc0_1;have HB:=A_ (Below.refl w.heap.size w);have H : ((Aav.f k a0_0 l0_1).bind fun Ad=>(if Ad = true then ((Aap.f k a0_0 l0_1).bind fun Ac=>(some (Ac,true))) else (some (([] : List (S62)),false)))) = some (r1,r2):=h;clear h;replace H:=Option.bind_eq_some_iff.mp H;obtain ⟨Ad,A20,H⟩:=H;replace H : (if Ad = true then ((Aap.f k a0_0 l0_1).bind fun Ac=>(some (Ac,true))) else (some (([] : List (S62)),false))) = some (r1,r2):=H;have A2:=A_ A20;clear A20;by_cases c3 : Ad = true
 ·subst c3;have H1 : ((Aap.f k a0_0 l0_1).bind fun Ac=>(some (Ac,true))) = some (r1,r2):=by rw [if_pos rfl] at H;exact H
  clear H;have H:=H1;clear H1;replace H:=Option.bind_eq_some_iff.mp H;obtain ⟨Ac,A40,H⟩:=H;replace H : (some (Ac,true)) = some (r1,r2):=H;have A4:=A_ A40;clear A40;simp only [Option.some.injEq,Prod.mk.injEq] at H
  obtain ⟨rfl,rfl⟩:=H;go_enter Tryd.func48,Tryd.ntmps48
  go_wp2_with (first|((with_reducible refine gate_dst (N:=1) rfl ?_);refine box_event ?hg (N:=1) ?hd (cs:=#[.int .i64 a0_0,.slice A0_1 l0_1.length c0_1]) (t:=28) ?hr ?_;(case hd=>rfl);(case hg=>rfl);(case hr=>go_simp;try rfl);intro Ab hg w5 hbox hb;have Aa:=A_ (hbox);have Ae:=A_ (gw_ (w:=w) hg bb_);have Af:=A_ (gw_ (w:=w) hg bb_);replace HB:=A_ (below_step bb_ hb);clear hb hbox hg;have hcz6_0 : w5.cell? ⟨Ab,0,none⟩ = some (.int .i64 a0_0):=blk_cell Aa.out 0;have hcz6_1 : w5.cell? ⟨Ab,1,none⟩ = some (.slice A0_1 l0_1.length c0_1):=blk_cell Aa.out 1;have hfz6_0:=blk_frozen Aa.out 0;have hfz6_1:=blk_frozen Aa.out 1)|((with_reducible refine gate_callee (f:=134) rfl ?_);refine goesL_ (some 5) rfl rfl Tryd.func134 (by kernel_rfl) rfl #[.agg #[.int .i64 a0_0,.slice A0_1 l0_1.length c0_1]] rfl au_ ?_;(with_reducible refine (Aav.calls k a0_0 _ _ l0_1 true _ ?side1 ?side2 ?side3 A2.out).mono ?_);(case side1=>exact cl_ (Kd.C_below HR0_1.out HB.out));(case side2=>exact HC0_1.out);(case side3=>first|exact HT.out|exact HT.out.below bb_|(repeat (first|exact HT.out|apply TabOK.drewN|apply TabOK.drew|apply TabOK.alloc)));rintro e w7 ⟨rfl,hb⟩;refine ⟨_,rfl,?_⟩;replace Aa:=bz Aa hb;replace HB:=A_ (below_step bb_ hb);(try clear hb);(try clear hb2);(try clear hk);(try clear hi);have hcz8_0 : w7.cell? ⟨Ab,0,none⟩ = some (.int .i64 a0_0):=blk_cell Aa.out 0;have hcz8_1 : w7.cell? ⟨Ab,1,none⟩ = some (.slice A0_1 l0_1.length c0_1):=blk_cell Aa.out 1;have hfz8_0:=blk_frozen Aa.out 0;have hfz8_1:=blk_frozen Aa.out 1)|((with_reducible refine gate_callee (f:=135) rfl ?_);refine goesL_ (some 8) rfl rfl Tryd.func135 (by kernel_rfl) rfl #[.agg #[.int .i64 a0_0,.slice A0_1 l0_1.length c0_1]] rfl au_ ?_;(with_reducible refine (Aap.calls k a0_0 _ _ l0_1 Ac _ ?side1 ?side2 A4.out).mono ?_);(case side1=>exact cl_ (Kd.C_below HR0_1.out HB.out));(case side2=>exact HC0_1.out);rintro e w9 ⟨Ah,rfl,ho0,hb⟩;refine ⟨_,rfl,?_⟩;have Ag:=A_ (Kd.R_lower ho0 (below_size bb_));replace Aa:=bz Aa hb;replace HB:=A_ (below_step bb_ hb);(try clear hb);(try clear hb2);(try clear hk);(try clear hi);(try clear ho0)))
  go_ret2
  exact ⟨_,by first|rfl|(simp [errW_none,errW_some] <;> rfl)|(simp [*,errW_none,errW_some] <;> rfl),rl_ Ag,bb_⟩
 ·replace c3:=Bool.eq_false_iff.mpr c3;subst c3;have H1 : (some (([] : List (S62)),false)) = some (r1,r2):=by rw [if_neg (show ¬ (false = true) by decide)] at H;exact H
  clear H;have H:=H1;clear H1;simp only [Option.some.injEq,Prod.mk.injEq] at H
  obtain ⟨rfl,rfl⟩:=H;go_enter Tryd.func48,Tryd.ntmps48
  go_wp2_with (first|((with_reducible refine gate_dst (N:=1) rfl ?_);refine box_event ?hg (N:=1) ?hd (cs:=#[.int .i64 a0_0,.slice A0_1 l0_1.length c0_1]) (t:=28) ?hr ?_;(case hd=>rfl);(case hg=>rfl);(case hr=>go_simp;try rfl);intro Ab hg w10 hbox hb;have Aa:=A_ (hbox);have Ae:=A_ (gw_ (w:=w) hg bb_);have Af:=A_ (gw_ (w:=w) hg bb_);replace HB:=A_ (below_step bb_ hb);clear hb hbox hg;have hcz11_0 : w10.cell? ⟨Ab,0,none⟩ = some (.int .i64 a0_0):=blk_cell Aa.out 0;have hcz11_1 : w10.cell? ⟨Ab,1,none⟩ = some (.slice A0_1 l0_1.length c0_1):=blk_cell Aa.out 1;have hfz11_0:=blk_frozen Aa.out 0;have hfz11_1:=blk_frozen Aa.out 1)|((with_reducible refine gate_callee (f:=134) rfl ?_);refine goesL_ (some 5) rfl rfl Tryd.func134 (by kernel_rfl) rfl #[.agg #[.int .i64 a0_0,.slice A0_1 l0_1.length c0_1]] rfl au_ ?_;(with_reducible refine (Aav.calls k a0_0 _ _ l0_1 false _ ?side1 ?side2 ?side3 A2.out).mono ?_);(case side1=>exact cl_ (Kd.C_below HR0_1.out HB.out));(case side2=>exact HC0_1.out);(case side3=>first|exact HT.out|exact HT.out.below bb_|(repeat (first|exact HT.out|apply TabOK.drewN|apply TabOK.drew|apply TabOK.alloc)));rintro e w12 ⟨rfl,hb⟩;refine ⟨_,rfl,?_⟩;replace Aa:=bz Aa hb;replace HB:=A_ (below_step bb_ hb);(try clear hb);(try clear hb2);(try clear hk);(try clear hi)))
  go_ret2
  exact ⟨_,by first|rfl|(simp [errW_none,errW_some] <;> rfl)|(simp [*,errW_none,errW_some] <;> rfl),by first|exact Kd.R_nil _ _ _ _ _|exact Kd.N_nil _ _ _ _ _|exact Kd.V_nil _ _ _ _ _|exact Kd.Q_nil _ _ _ _ _|exact Kd.S_nil _ _ _ _ _,bb_⟩
def Aa6.f (k : Nat) (a0_0 : Int) (l0_1 : List Int) : Option (Int) := (Aaq.f k a0_0 l0_1).bind fun t1358 => ((Abh.f t1358).bind fun t1361 => (some (t1361.length : Int)))
set_option maxHeartbeats 8000000 in
set_option maxRecDepth 100000 in
theorem Aa6.calls (k : Nat) (a0_0 : Int) (A0_1 : Option Addr) (c0_1 : Nat) (l0_1 : List Int) (r : Int) (w : World) (hr0_1 : Kd.C (Kd.int .i64) w A0_1 l0_1.length l0_1) (hc0_1 : l0_1.length ≤ c0_1) (h : Aa6.f k a0_0 l0_1 = some r) :
 Calls Tryd.prog 144 #[.agg #[.int .i64 a0_0,.slice A0_1 l0_1.length c0_1]] w fun e w'=>e = .returned (.int .i64 r) ∧ Below w.heap.size w w':=by
 have hu28:=Tryd.underlying28;have HR0_1:=A_ hr0_1;have HC0_1:=A_ hc0_1;clear hr0_1 hc0_1;have HB:=A_ (Below.refl w.heap.size w);have H : ((Aaq.f k a0_0 l0_1).bind fun Ac=>((Abh.f Ac).bind fun Ad=>(some (Ad.length : Int)))) = some r:=h;clear h;replace H:=Option.bind_eq_some_iff.mp H;obtain ⟨Ac,A20,H⟩:=H;replace H : ((Abh.f Ac).bind fun Ad=>(some (Ad.length : Int))) = some r:=H;have A2:=A_ A20;clear A20;replace H:=Option.bind_eq_some_iff.mp H;obtain ⟨Ad,A30,H⟩:=H;replace H : (some (Ad.length : Int)) = some r:=H;have A3:=A_ A30;clear A30;obtain rfl:=Option.some.inj H;go_enter Tryd.func144,Tryd.ntmps144
 go_wp2_with (first|((with_reducible refine gate_dst (N:=1) rfl ?_);refine box_event ?hg (N:=1) ?hd (cs:=#[.int .i64 a0_0,.slice A0_1 l0_1.length c0_1]) (t:=28) ?hr ?_;(case hd=>rfl);(case hg=>rfl);(case hr=>go_simp;try rfl);intro Ae hg w4 hbox hb;have Aa:=A_ (hbox);have Ag:=A_ (gw_ (w:=w) hg bb_);have Ah:=A_ (gw_ (w:=w) hg bb_);replace HB:=A_ (below_step bb_ hb);clear hb hbox hg;have hcz5_0 : w4.cell? ⟨Ae,0,none⟩ = some (.int .i64 a0_0):=blk_cell Aa.out 0;have hcz5_1 : w4.cell? ⟨Ae,1,none⟩ = some (.slice A0_1 l0_1.length c0_1):=blk_cell Aa.out 1;have hfz5_0:=blk_frozen Aa.out 0;have hfz5_1:=blk_frozen Aa.out 1)|((with_reducible refine gate_callee (f:=116) rfl ?_);refine goesL_ (some 4) rfl rfl Tryd.func116 (by kernel_rfl) rfl #[.agg #[.int .i64 a0_0,.slice A0_1 l0_1.length c0_1]] rfl au_ ?_;(with_reducible refine (Aaq.calls k a0_0 _ _ l0_1 Ac _ ?side1 ?side2 A2.out).mono ?_);(case side1=>exact cl_ (Kd.C_below HR0_1.out HB.out));(case side2=>exact HC0_1.out);rintro e w6 ⟨Ai,rfl,ho0,hb⟩;refine ⟨_,rfl,?_⟩;have Ab:=A_ (Kd.R_lower ho0 (below_size bb_));replace Aa:=bz Aa hb;replace HB:=A_ (below_step bb_ hb);(try clear hb);(try clear hb2);(try clear hk);(try clear hi);(try clear ho0);obtain ⟨Ao7,co7,eo7⟩:=Kd.R_slice Ab.out;subst eo7)|((with_reducible refine gate_callee (f:=196) rfl ?_);refine goesL_ (some 5) rfl rfl Tryd.func196 (by kernel_rfl) rfl #[.slice Ao7 Ac.length co7] rfl au_ ?_;(with_reducible refine (Abh.calls _ _ Ac Ad _ ?side1 ?side2 A3.out).mono ?_);(case side1=>exact cl_ (Kd.R_reads' Ab.out).2.2);(case side2=>exact (Kd.R_reads' Ab.out).2.1);rintro e w8 ⟨Aj,rfl,ho0,hb⟩;refine ⟨_,rfl,?_⟩;have Af:=A_ (Kd.R_lower (Kd.R_new' ho0 (Kd.R_lt (rl_ Ab))) (below_size bb_));replace Ab:=A_ (Kd.R_elder' (rl_ Ab) (Kd.R_base ho0) hb);replace Aa:=bz Aa hb;replace HB:=A_ (below_step bb_ hb);(try clear hb);(try clear hb2);(try clear hk);(try clear hi);(try clear ho0);obtain ⟨Ao9,co9,eo9⟩:=Kd.R_slice Af.out;subst eo9))
 go_ret
 exact ⟨by first|rfl|(simp [errW_none,errW_some] <;> rfl)|(simp [*,errW_none,errW_some] <;> rfl),bb_⟩
def Abo.f (k : Nat) (a0_0 : Int) (l0_1 : List Int) : Option (Int × Bool) := (Aav.f k a0_0 l0_1).bind fun t1365 => (if t1365 = true then ((Aa6.f k a0_0 l0_1).bind fun t1366 => (some (t1366, true))) else (some (0, false)))
set_option maxHeartbeats 8000000 in
set_option maxRecDepth 100000 in
theorem Abo.calls (k : Nat) (a0_0 : Int) (A0_1 : Option Addr) (c0_1 : Nat) (l0_1 : List Int) (r1 : Int) (r2 : Bool) (w : World) (hr0_1 : Kd.C (Kd.int .i64) w A0_1 l0_1.length l0_1) (hc0_1 : l0_1.length ≤ c0_1) (hT : TabOK w) (h : Abo.f k a0_0 l0_1 = some (r1,r2)) :
 Calls Tryd.prog 59 #[.agg #[.int .i64 a0_0,.slice A0_1 l0_1.length c0_1]] w fun e w'=>e = .returned (.tuple #[.int .i64 r1,.bool r2]) ∧ Below w.heap.size w w':=by
 have hu28:=Tryd.underlying28;have HT:=A_ hT;clear hT;have HR0_1:=A_ hr0_1;have HC0_1:=A_ hc0_1;clear hr0_1 hc0_1;have HB:=A_ (Below.refl w.heap.size w);have H : ((Aav.f k a0_0 l0_1).bind fun Ad=>(if Ad = true then ((Aa6.f k a0_0 l0_1).bind fun Ac=>(some (Ac,true))) else (some (0,false)))) = some (r1,r2):=h;clear h;replace H:=Option.bind_eq_some_iff.mp H;obtain ⟨Ad,A20,H⟩:=H;replace H : (if Ad = true then ((Aa6.f k a0_0 l0_1).bind fun Ac=>(some (Ac,true))) else (some (0,false))) = some (r1,r2):=H;have A2:=A_ A20;clear A20;by_cases c3 : Ad = true
 ·subst c3;have H1 : ((Aa6.f k a0_0 l0_1).bind fun Ac=>(some (Ac,true))) = some (r1,r2):=by rw [if_pos rfl] at H;exact H
  clear H;have H:=H1;clear H1;replace H:=Option.bind_eq_some_iff.mp H;obtain ⟨Ac,A40,H⟩:=H;replace H : (some (Ac,true)) = some (r1,r2):=H;have A4:=A_ A40;clear A40;simp only [Option.some.injEq,Prod.mk.injEq] at H
  obtain ⟨rfl,rfl⟩:=H;go_enter Tryd.func59,Tryd.ntmps59
  go_wp2_with (first|((with_reducible refine gate_dst (N:=1) rfl ?_);refine box_event ?hg (N:=1) ?hd (cs:=#[.int .i64 a0_0,.slice A0_1 l0_1.length c0_1]) (t:=28) ?hr ?_;(case hd=>rfl);(case hg=>rfl);(case hr=>go_simp;try rfl);intro Ab hg w5 hbox hb;have Aa:=A_ (hbox);have Ae:=A_ (gw_ (w:=w) hg bb_);have Af:=A_ (gw_ (w:=w) hg bb_);replace HB:=A_ (below_step bb_ hb);clear hb hbox hg;have hcz6_0 : w5.cell? ⟨Ab,0,none⟩ = some (.int .i64 a0_0):=blk_cell Aa.out 0;have hcz6_1 : w5.cell? ⟨Ab,1,none⟩ = some (.slice A0_1 l0_1.length c0_1):=blk_cell Aa.out 1;have hfz6_0:=blk_frozen Aa.out 0;have hfz6_1:=blk_frozen Aa.out 1)|((with_reducible refine gate_callee (f:=134) rfl ?_);refine goesL_ (some 5) rfl rfl Tryd.func134 (by kernel_rfl) rfl #[.agg #[.int .i64 a0_0,.slice A0_1 l0_1.length c0_1]] rfl au_ ?_;(with_reducible refine (Aav.calls k a0_0 _ _ l0_1 true _ ?side1 ?side2 ?side3 A2.out).mono ?_);(case side1=>exact cl_ (Kd.C_below HR0_1.out HB.out));(case side2=>exact HC0_1.out);(case side3=>first|exact HT.out|exact HT.out.below bb_|(repeat (first|exact HT.out|apply TabOK.drewN|apply TabOK.drew|apply TabOK.alloc)));rintro e w7 ⟨rfl,hb⟩;refine ⟨_,rfl,?_⟩;replace Aa:=bz Aa hb;replace HB:=A_ (below_step bb_ hb);(try clear hb);(try clear hb2);(try clear hk);(try clear hi);have hcz8_0 : w7.cell? ⟨Ab,0,none⟩ = some (.int .i64 a0_0):=blk_cell Aa.out 0;have hcz8_1 : w7.cell? ⟨Ab,1,none⟩ = some (.slice A0_1 l0_1.length c0_1):=blk_cell Aa.out 1;have hfz8_0:=blk_frozen Aa.out 0;have hfz8_1:=blk_frozen Aa.out 1)|((with_reducible refine gate_callee (f:=144) rfl ?_);refine goesL_ (some 8) rfl rfl Tryd.func144 (by kernel_rfl) rfl #[.agg #[.int .i64 a0_0,.slice A0_1 l0_1.length c0_1]] rfl au_ ?_;(with_reducible refine (Aa6.calls k a0_0 _ _ l0_1 Ac _ ?side1 ?side2 A4.out).mono ?_);(case side1=>exact cl_ (Kd.C_below HR0_1.out HB.out));(case side2=>exact HC0_1.out);rintro e w9 ⟨rfl,hb⟩;refine ⟨_,rfl,?_⟩;replace Aa:=bz Aa hb;replace HB:=A_ (below_step bb_ hb);(try clear hb);(try clear hb2);(try clear hk);(try clear hi)))
  go_ret2
  exact ⟨by first|rfl|(simp [errW_none,errW_some] <;> rfl)|(simp [*,errW_none,errW_some] <;> rfl),bb_⟩
 ·replace c3:=Bool.eq_false_iff.mpr c3;subst c3;have H1 : (some (0,false)) = some (r1,r2):=by rw [if_neg (show ¬ (false = true) by decide)] at H;exact H
  clear H;have H:=H1;clear H1;simp only [Option.some.injEq,Prod.mk.injEq] at H
  obtain ⟨rfl,rfl⟩:=H;go_enter Tryd.func59,Tryd.ntmps59
  go_wp2_with (first|((with_reducible refine gate_dst (N:=1) rfl ?_);refine box_event ?hg (N:=1) ?hd (cs:=#[.int .i64 a0_0,.slice A0_1 l0_1.length c0_1]) (t:=28) ?hr ?_;(case hd=>rfl);(case hg=>rfl);(case hr=>go_simp;try rfl);intro Ab hg w10 hbox hb;have Aa:=A_ (hbox);have Ae:=A_ (gw_ (w:=w) hg bb_);have Af:=A_ (gw_ (w:=w) hg bb_);replace HB:=A_ (below_step bb_ hb);clear hb hbox hg;have hcz11_0 : w10.cell? ⟨Ab,0,none⟩ = some (.int .i64 a0_0):=blk_cell Aa.out 0;have hcz11_1 : w10.cell? ⟨Ab,1,none⟩ = some (.slice A0_1 l0_1.length c0_1):=blk_cell Aa.out 1;have hfz11_0:=blk_frozen Aa.out 0;have hfz11_1:=blk_frozen Aa.out 1)|((with_reducible refine gate_callee (f:=134) rfl ?_);refine goesL_ (some 5) rfl rfl Tryd.func134 (by kernel_rfl) rfl #[.agg #[.int .i64 a0_0,.slice A0_1 l0_1.length c0_1]] rfl au_ ?_;(with_reducible refine (Aav.calls k a0_0 _ _ l0_1 false _ ?side1 ?side2 ?side3 A2.out).mono ?_);(case side1=>exact cl_ (Kd.C_below HR0_1.out HB.out));(case side2=>exact HC0_1.out);(case side3=>first|exact HT.out|exact HT.out.below bb_|(repeat (first|exact HT.out|apply TabOK.drewN|apply TabOK.drew|apply TabOK.alloc)));rintro e w12 ⟨rfl,hb⟩;refine ⟨_,rfl,?_⟩;replace Aa:=bz Aa hb;replace HB:=A_ (below_step bb_ hb);(try clear hb);(try clear hb2);(try clear hk);(try clear hi)))
  go_ret2
  exact ⟨by first|rfl|(simp [errW_none,errW_some] <;> rfl)|(simp [*,errW_none,errW_some] <;> rfl),bb_⟩
mutual
def Aaj.l0 : Nat → List Int → List (S62) → Int → Int → Option (List Int)
 | 0,_,_,_,_=>none
 | k + 1,x3,x4,x13,x14=>if x14 < x13 then (Aaj.l1 k x3 x4 x14 0 x13 x14 x4 (x4.length : Int) 0) else (some x3)
def Aaj.l1 : Nat → List Int → List (S62) → Int → Int → Int → Int → List (S62) → Int → Int → Option (List Int)
 | 0,_,_,_,_,_,_,_,_,_=>none
 | k + 1,x3,x4,x5,x6,x13,x14,x17,x18,x19=>if x19 < x18 then (if 0 ≤ x19 then (if x19 < (x17.length : Int) then ((Aba.f x5 ((rd_T62 x17 x19).f0) ((rd_T62 x17 x19).f1)).bind fun t1465=>(if t1465 = true then (Aaj.l1 k x3 x4 x5 (Go.bits .or .i64 x6 (shl .i64 1 x19)) x13 x14 x17 x18 (wrap64 (x19 + 1))) else (Aaj.l1 k x3 x4 x5 x6 x13 x14 x17 x18 (wrap64 (x19 + 1))))) else (none)) else (none)) else (if x3.length < 17592186044416 then (Aaj.l0 k (x3 ++ [x6]) x4 x13 (wrap64 (x14 + 1))) else (none))
end
def Aaj.f (k : Nat) (a0_0 : Int) (l0_1 : List Int) : Option (List Int) := (Aap.f k a0_0 l0_1).bind fun t1459 => ((Aa6.f k a0_0 l0_1).bind fun t1462 => (Aaj.l0 k (([] : List Int)) t1459 t1462 0))
set_option maxHeartbeats 8000000 in
set_option maxRecDepth 100000 in
theorem Aaj.calls (k : Nat) (a0_0 : Int) (A0_1 : Option Addr) (c0_1 : Nat) (l0_1 : List Int) (r : List Int) (w : World) (hr0_1 : Kd.C (Kd.int .i64) w A0_1 l0_1.length l0_1) (hc0_1 : l0_1.length ≤ c0_1) (h : Aaj.f k a0_0 l0_1 = some r) :
 Calls Tryd.prog 145 #[.agg #[.int .i64 a0_0,.slice A0_1 l0_1.length c0_1]] w fun e w'=>∃ v0_ : Value,e = .returned (v0_) ∧ Kd.R (Kd.int .i64) 3 w' w.heap.size (fun _=>True) v0_ r ∧ Below w.heap.size w w':=by
 have hu28:=Tryd.underlying28;have hu62:=Tryd.underlying62;have HR0_1:=A_ hr0_1;have HC0_1:=A_ hc0_1;clear hr0_1 hc0_1;have HB:=A_ (Below.refl w.heap.size w);have H : ((Aap.f k a0_0 l0_1).bind fun Aa=>((Aa6.f k a0_0 l0_1).bind fun Ad=>(Aaj.l0 k (([] : List Int)) Aa Ad 0))) = some r:=h;clear h;obtain ⟨An,Ak⟩ : ∃ y_ : List Int,y_ = (([] : List Int)):=⟨_,rfl⟩;replace H : ((Aap.f k a0_0 l0_1).bind fun Aa=>((Aa6.f k a0_0 l0_1).bind fun Ad=>(Aaj.l0 k An Aa Ad 0))) = some r:=by first|(rw [Ak];with_reducible exact H)|(have H2_:=(Option.bind_some _ _).symm.trans H;rw [Ak];with_reducible exact H2_)|(have H2_:=(Option.bind_some _ _).symm.trans H;with_reducible exact H2_)|with_reducible exact H|(rw [Ak];exact H)|exact H
 have Aq:=A_ Ak;clear Ak;replace H:=Option.bind_eq_some_iff.mp H;obtain ⟨Aa,A20,H⟩:=H;replace H : ((Aa6.f k a0_0 l0_1).bind fun Ad=>(Aaj.l0 k An Aa Ad 0)) = some r:=H;have A2:=A_ A20;clear A20;replace H:=Option.bind_eq_some_iff.mp H;obtain ⟨Ad,A30,H⟩:=H;replace H : (Aaj.l0 k An Aa Ad 0) = some r:=H;have A3:=A_ A30;clear A30;have H':=A_ H;clear H;go_enter Tryd.func145,Tryd.ntmps145
 go_wp2_with (first|((with_reducible refine gate_dst (N:=1) rfl ?_);refine box_event ?hg (N:=1) ?hd (cs:=#[.int .i64 a0_0,.slice A0_1 l0_1.length c0_1]) (t:=28) ?hr ?_;(case hd=>rfl);(case hg=>rfl);(case hr=>go_simp;try rfl);intro Ag hg w4 hbox hb;have Ab:=A_ (hbox);have Bc:=A_ (gw_ (w:=w) hg bb_);have Bd:=A_ (gw_ (w:=w) hg bb_);replace HB:=A_ (below_step bb_ hb);clear hb hbox hg)|((with_reducible refine gate_dst (N:=9) rfl ?_);refine Kd.R_lit (Kd.int .i64) _ 3 ?hg (N:=9) ?hd (xs:=([] : List Int)) (inner:=[]) (ok:=fun _=>True) (okp:=fun _=>True) ?hr ?hp (fun _ hk=>hk) trivial (Below.refl _ _) (Nat.le_refl _) (by simp) ?_;(case hd=>rfl);(case hg=>rfl);(case hr=>go_simp;try rfl);(case hp=>exact (Reps.none _ _));intro Be w5 ho6 hb hg_ hnew_;clear hg_ hnew_;(first|rw [← Aq.out] at ho6|(simp only [Int.reduceToNat] at ho6;rw [← Aq.out] at ho6));have Al:=A_ (Kd.R_lower ho6 (below_size bb_));replace Ab:=bz Ab hb;replace HB:=A_ (below_step bb_ hb);clear hb ho6;have hcz7_0 : w5.cell? ⟨Ag,0,none⟩ = some (.int .i64 a0_0):=blk_cell Ab.out 0;have hcz7_1 : w5.cell? ⟨Ag,1,none⟩ = some (.slice A0_1 l0_1.length c0_1):=blk_cell Ab.out 1;have hfz7_0:=blk_frozen Ab.out 0;have hfz7_1:=blk_frozen Ab.out 1)|((with_reducible refine gate_callee (f:=135) rfl ?_);refine goesL_ (some 11) rfl rfl Tryd.func135 (by kernel_rfl) rfl #[.agg #[.int .i64 a0_0,.slice A0_1 l0_1.length c0_1]] rfl au_ ?_;(with_reducible refine (Aap.calls k a0_0 _ _ l0_1 Aa _ ?side1 ?side2 A2.out).mono ?_);(case side1=>exact cl_ (Kd.C_below HR0_1.out HB.out));(case side2=>exact HC0_1.out);rintro e w8 ⟨Bb,rfl,ho0,hb⟩;refine ⟨_,rfl,?_⟩;replace Al:=rb_ Al hb;have Ao:=A_ (Kd.R_lower ho0 (below_size bb_));replace Ab:=bz Ab hb;replace HB:=A_ (below_step bb_ hb);(try clear hb);(try clear hb2);(try clear hk);(try clear hi);(try clear ho0);have hcz9_0 : w8.cell? ⟨Ag,0,none⟩ = some (.int .i64 a0_0):=blk_cell Ab.out 0;have hcz9_1 : w8.cell? ⟨Ag,1,none⟩ = some (.slice A0_1 l0_1.length c0_1):=blk_cell Ab.out 1;have hfz9_0:=blk_frozen Ab.out 0;have hfz9_1:=blk_frozen Ab.out 1)|((with_reducible refine gate_callee (f:=144) rfl ?_);refine goesL_ (some 13) rfl rfl Tryd.func144 (by kernel_rfl) rfl #[.agg #[.int .i64 a0_0,.slice A0_1 l0_1.length c0_1]] rfl au_ ?_;(with_reducible refine (Aa6.calls k a0_0 _ _ l0_1 Ad _ ?side1 ?side2 A3.out).mono ?_);(case side1=>exact cl_ (Kd.C_below HR0_1.out HB.out));(case side2=>exact HC0_1.out);rintro e w10 ⟨rfl,hb⟩;refine ⟨_,rfl,?_⟩;replace Al:=rb_ Al hb;replace Ao:=rb_ Ao hb;replace Ab:=bz Ab hb;replace HB:=A_ (below_step bb_ hb);(try clear hb);(try clear hb2);(try clear hk);(try clear hi)))
 go_loopg [3,14] k (fun kq v3 v14 w'=>∃ (x3_1 : List Int) (x14_1 : Int),v14 = .int .i64 x14_1 ∧ Aside0 (Aaj.l0 kq x3_1 Aa Ad x14_1 = some r) ∧ Aside0 (kq ≤ k) ∧ Aside0 (Kd.R (Kd.int .i64) 3 w' w.heap.size (fun _=>True) v3 x3_1) ∧ Aside0 (Kd.R k62 62 w' w.heap.size (fun _=>True) Bb Aa) ∧ Aside0 (w'.heap[Ag]? = some (.cells #[.int .i64 a0_0,(.slice A0_1 l0_1.length c0_1)] 28 (0,0))) ∧ Aside0 (Below w.heap.size w w'))
 case atStart=>exact ⟨(An),(0),(by first|rfl|(simp;done)|(simp [*];done)),H',⟨Nat.le_refl _⟩,⟨rl_ Al⟩,⟨rl_ Ao⟩,⟨bl_ Ab⟩,⟨bb_⟩⟩
 case round =>
  clear H';try clear c1
  try clear p2
  try clear hcz7_0
  try clear hcz7_1
  try clear hcz9_0
  try clear hcz9_1
  try clear hfz7_0
  try clear hfz7_1
  try clear hfz9_0
  try clear hfz9_1
  obtain ⟨x3_1,x14_1,rfl,HA,HK1,HO_3,HO_4,Ab,HB⟩:=hrel;cases gk with
  | zero => exact absurd HA.out (by simp [Aaj.l0])
  | succ k1 =>
   have H:=HA.out;clear HA;simp only [Aaj.l0] at H
   by_cases c11 : x14_1 < Ad
   ·rw [if_pos c11] at H;have c11b0 : decide (x14_1 < Ad) = true:=decide_eq_true c11;clear c11;have H':=A_ H;clear H;obtain ⟨Ao12,co12,eo12⟩:=Kd.R_slice HO_4.out;subst eo12;go_wp2
    go_loopg [6,19] k1 (fun kq v6 v19 w'=>∃ (x6_2 : Int) (x19_2 : Int),v6 = .int .i64 x6_2 ∧ v19 = .int .i64 x19_2 ∧ Aside0 (Aaj.l1 kq x3_1 Aa x14_1 x6_2 Ad x14_1 Aa (Aa.length : Int) x19_2 = some r) ∧ Aside0 (kq ≤ k1) ∧ Aside0 (Kd.R (Kd.int .i64) 3 w' w.heap.size (fun _=>True) u3 x3_1) ∧ Aside0 (Kd.R k62 62 w' w.heap.size (fun _=>True) (.slice Ao12 Aa.length co12) Aa) ∧ Aside0 (Kd.R k62 62 w' w.heap.size (fun _=>True) (.slice Ao12 Aa.length co12) Aa) ∧ Aside0 (w'.heap[Ag]? = some (.cells #[.int .i64 a0_0,(.slice A0_1 l0_1.length c0_1)] 28 (0,0))) ∧ Aside0 (Below w.heap.size w w'))
    case atStart=>exact ⟨(0),(0),(by first|rfl|(simp;done)|(simp [*];done)),(by first|rfl|(simp;done)|(simp [*];done)),H',⟨Nat.le_refl _⟩,⟨rl_ HO_3⟩,⟨rl_ HO_4⟩,⟨rl_ HO_4⟩,⟨bl_ Ab⟩,⟨bb_⟩⟩
    case round =>
     clear H';try clear c1
     try clear p2
     try clear c11
     try clear c11b0
     try clear hcz7_0
     try clear hcz7_1
     try clear hcz9_0
     try clear hcz9_1
     try clear hfz7_0
     try clear hfz7_1
     try clear hfz9_0
     try clear hfz9_1
     try clear p2
     obtain ⟨x6_2,x19_2,rfl,rfl,HA,HK2,HO_3,HO_4,HO_17,Ab,HB⟩:=hrel;cases gk with
     | zero=>exact absurd HA.out (by simp [Aaj.l1])
     | succ k2 =>
      have H:=HA.out;clear HA;simp only [Aaj.l1] at H
      by_cases c13 : x19_2 < (Aa.length : Int)
      ·rw [if_pos c13] at H;have c13b0 : decide (x19_2 < (Aa.length : Int)) = true:=decide_eq_true c13;clear c13;by_cases c14 : 0 ≤ x19_2
       ·rw [if_pos c14] at H;have c14b0 : decide (0 ≤ x19_2) = true:=decide_eq_true c14;clear c14;by_cases c15 : x19_2 < (Aa.length : Int)
        ·rw [if_pos c15] at H;have c15b0 : decide (x19_2 < (Aa.length : Int)) = true:=decide_eq_true c15;clear c15;replace H:=Option.bind_eq_some_iff.mp H;obtain ⟨At,Av,H⟩:=H;replace H : (if At = true then (Aaj.l1 k2 x3_1 Aa x14_1 (Go.bits .or .i64 x6_2 (shl .i64 1 x19_2)) Ad x14_1 Aa (Aa.length : Int) (wrap64 (x19_2 + 1))) else (Aaj.l1 k2 x3_1 Aa x14_1 x6_2 Ad x14_1 Aa (Aa.length : Int) (wrap64 (x19_2 + 1)))) = some r:=H;have A16:=A_ Av;clear Av;by_cases c17 : At = true
         ·subst c17;have H1 : (Aaj.l1 k2 x3_1 Aa x14_1 (Go.bits .or .i64 x6_2 (shl .i64 1 x19_2)) Ad x14_1 Aa (Aa.length : Int) (wrap64 (x19_2 + 1))) = some r:=by rw [if_pos rfl] at H;exact H
          clear H;have H:=H1;clear H1;have c18b0:=eq_true (of_decide_eq_true (by first|(with_reducible assumption)|assumption) : 0 ≤ x19_2);obtain ⟨ji19,hji19⟩ : ∃ j_ : Int,(shl .i64 1 x19_2) = j_:=⟨_,rfl⟩;replace H : (Aaj.l1 k2 x3_1 Aa x14_1 (Go.bits .or .i64 x6_2 (ji19)) Ad x14_1 Aa (Aa.length : Int) (wrap64 (x19_2 + 1))) = some r:=by first|(rw [hji19] at H;exact H)|(simp only [hji19] at H ⊢;exact H)
          (try rw [hji19] at A16);have hji19_ : (IntKind.i64.wrap (1 * 2 ^ min x19_2.toNat 64)) = ji19:=hji19;have hji19z : x19_2 ≤ 64 → (IntKind.i64.wrap (1 * 2 ^ x19_2.toNat)) = ji19:=shl_small hji19;have hji19u : (IntKind.i64.wrap (2 ^ min x19_2.toNat 64)) = ji19:=by have h_:=hji19_;rw [Int.one_mul] at h_;exact h_
          have hji19v : x19_2 ≤ 64 → (IntKind.i64.wrap (2 ^ x19_2.toNat)) = ji19:=fun hle_=>by have h_:=hji19z hle_;rw [Int.one_mul] at h_;exact h_
          have hji19y : (wrap64 (1 * 2 ^ min x19_2.toNat 64)) = ji19:=(i64_w _).symm.trans hji19_;have hji19x : x19_2 ≤ 64 → (wrap64 (1 * 2 ^ x19_2.toNat)) = ji19:=fun h_=>(i64_w _).symm.trans (hji19z h_)
          have H':=A_ H;clear H;have Ai : 0 ≤ (x19_2 : Int):=of_decide_eq_true (by first|(with_reducible assumption)|assumption);have Aj : x19_2 < (Aa.length : Int):=of_decide_eq_true (by first|(with_reducible assumption)|assumption);obtain ⟨Aw,Ap,Ar,As⟩:=at_T62 (Kd.R_reads' HO_17.out).2.2 x19_2 Ai Aj;cases Ap
          replace Ai:=eq_true Ai;replace Aj:=eq_true Aj;go_wp2_with (first|((with_reducible refine gate_dst (N:=8) rfl ?_);refine box_event ?hg (N:=8) ?hd (cs:=#[.int .i64 0,.int .i64 0]) (t:=62) ?hr ?_;(case hd=>rfl);(case hg=>rfl);(case hr=>go_simp;try rfl);intro Ac hg w20 hbox hb;replace HO_3:=rb_ HO_3 hb;replace HO_4:=A_ (Kd.R_below (Kd.R_elderB (rl_ HO_4) Ac (Nat.le_of_eq hg.symm)) hb);replace HO_17:=A_ (Kd.R_below (Kd.R_elderB (rl_ HO_17) Ac (Nat.le_of_eq hg.symm)) hb);have Af:=A_ (hbox);have Ax:=A_ (gw_ (w:=w) hg bb_);have Ay:=A_ (gw_ (w:=w) hg bb_);replace HB:=A_ (below_step bb_ hb);have Ae:=A_ (nl_ hg Ab);have Ah:=A_ (ng_ hg Ab);replace Ab:=bz Ab hb;clear hb hbox hg;have hnb21:=Ah.out;have hnc21:=Ae.out;have hcz22_0 : w20.cell? ⟨Ac,0,none⟩ = some (.int .i64 0):=blk_cell Af.out 0;have hcz22_1 : w20.cell? ⟨Ac,1,none⟩ = some (.int .i64 0):=blk_cell Af.out 1;have hfz22_0:=blk_frozen Af.out 0;have hfz22_1:=blk_frozen Af.out 1)|((with_reducible refine gate_callee (f:=121) rfl ?_);refine goesL_ (some 29) rfl rfl Tryd.func121 (by kernel_rfl) rfl #[.int .i64 x14_1,.int .i64 ((rd_T62 Aa x19_2).f0),.int .i64 ((rd_T62 Aa x19_2).f1)] rfl au_ ?_;(with_reducible refine (Aba.calls x14_1 ((rd_T62 Aa x19_2).f0) ((rd_T62 Aa x19_2).f1) true _ A16.out).mono ?_);rintro e w' ⟨rfl,⟨nd,rfl⟩⟩;refine ⟨_,rfl,?_⟩))
          go_roundg k2
          case measure=>have:=HK1.out;have:=HK2.out;omega
          case rel=>exact ⟨(Go.bits .or .i64 x6_2 (ji19)),(wrap64 (x19_2 + 1)),(by first|rfl|(simp;done)|(simp only [← hji19] <;> (first|rfl|simp))|(simp [*];done)),(by first|rfl|(simp;done)|(simp [*];done)),H',⟨by have:=HK1.out;have:=HK2.out;omega⟩,⟨rq_ (Kd.R_mono (Kd.R_far (p:=⟨Ac,1,none⟩) (Kd.R_far (p:=⟨Ac,0,none⟩) (Kd.R_types HO_3.out Af.out (by decide)) (fun _ hk=>hk.2) (.int .i64 ((rd_T62 Aa x19_2).f0))) (fun _ hk=>hk.2) (.int .i64 ((rd_T62 Aa x19_2).f1))) (fun _ hk=>trivial))⟩,⟨rq_ (Kd.R_mono (Kd.R_far (p:=⟨Ac,1,none⟩) (Kd.R_far (p:=⟨Ac,0,none⟩) (Kd.R_mono HO_4.out (fun k_ hk=>(⟨hk,hk.2⟩ : _ ∧ k_ ≠ Ac))) (fun _ hk=>hk.2) (.int .i64 ((rd_T62 Aa x19_2).f0))) (fun _ hk=>hk.2) (.int .i64 ((rd_T62 Aa x19_2).f1))) (fun _ hk=>trivial))⟩,⟨rq_ (Kd.R_mono (Kd.R_far (p:=⟨Ac,1,none⟩) (Kd.R_far (p:=⟨Ac,0,none⟩) (Kd.R_mono HO_17.out (fun k_ hk=>(⟨hk,hk.2⟩ : _ ∧ k_ ≠ Ac))) (fun _ hk=>hk.2) (.int .i64 ((rd_T62 Aa x19_2).f0))) (fun _ hk=>hk.2) (.int .i64 ((rd_T62 Aa x19_2).f1))) (fun _ hk=>trivial))⟩,⟨by (with_reducible repeat (first|refine blk_drewN ?_ _|refine blk_drew ?_|refine blk_alloc ?_ _));refine blk_far ?_ Ae.out _;(with_reducible repeat (first|refine blk_drewN ?_ _|refine blk_drew ?_|refine blk_alloc ?_ _));refine blk_far ?_ Ae.out _;(with_reducible repeat (first|refine blk_drewN ?_ _|refine blk_drew ?_|refine blk_alloc ?_ _));exact Ab.out⟩,⟨bb_⟩⟩
         ·replace c17:=Bool.eq_false_iff.mpr c17;subst c17;have H1 : (Aaj.l1 k2 x3_1 Aa x14_1 x6_2 Ad x14_1 Aa (Aa.length : Int) (wrap64 (x19_2 + 1))) = some r:=by rw [if_neg (show ¬ (false = true) by decide)] at H;exact H
          clear H;have H:=H1;clear H1;have H':=A_ H;clear H;have Ai : 0 ≤ (x19_2 : Int):=of_decide_eq_true (by first|(with_reducible assumption)|assumption);have Aj : x19_2 < (Aa.length : Int):=of_decide_eq_true (by first|(with_reducible assumption)|assumption);obtain ⟨Aw,Ap,Ar,As⟩:=at_T62 (Kd.R_reads' HO_17.out).2.2 x19_2 Ai Aj;cases Ap
          replace Ai:=eq_true Ai;replace Aj:=eq_true Aj;go_wp2_with (first|((with_reducible refine gate_dst (N:=8) rfl ?_);refine box_event ?hg (N:=8) ?hd (cs:=#[.int .i64 0,.int .i64 0]) (t:=62) ?hr ?_;(case hd=>rfl);(case hg=>rfl);(case hr=>go_simp;try rfl);intro Ac hg w23 hbox hb;replace HO_3:=rb_ HO_3 hb;replace HO_4:=A_ (Kd.R_below (Kd.R_elderB (rl_ HO_4) Ac (Nat.le_of_eq hg.symm)) hb);replace HO_17:=A_ (Kd.R_below (Kd.R_elderB (rl_ HO_17) Ac (Nat.le_of_eq hg.symm)) hb);have Af:=A_ (hbox);have Ax:=A_ (gw_ (w:=w) hg bb_);have Ay:=A_ (gw_ (w:=w) hg bb_);replace HB:=A_ (below_step bb_ hb);have Ae:=A_ (nl_ hg Ab);have Ah:=A_ (ng_ hg Ab);replace Ab:=bz Ab hb;clear hb hbox hg;have hnb24:=Ah.out;have hnc24:=Ae.out;have hcz25_0 : w23.cell? ⟨Ac,0,none⟩ = some (.int .i64 0):=blk_cell Af.out 0;have hcz25_1 : w23.cell? ⟨Ac,1,none⟩ = some (.int .i64 0):=blk_cell Af.out 1;have hfz25_0:=blk_frozen Af.out 0;have hfz25_1:=blk_frozen Af.out 1)|((with_reducible refine gate_callee (f:=121) rfl ?_);refine goesL_ (some 29) rfl rfl Tryd.func121 (by kernel_rfl) rfl #[.int .i64 x14_1,.int .i64 ((rd_T62 Aa x19_2).f0),.int .i64 ((rd_T62 Aa x19_2).f1)] rfl au_ ?_;(with_reducible refine (Aba.calls x14_1 ((rd_T62 Aa x19_2).f0) ((rd_T62 Aa x19_2).f1) false _ A16.out).mono ?_);rintro e w' ⟨rfl,⟨nd,rfl⟩⟩;refine ⟨_,rfl,?_⟩))
          go_roundg k2
          case measure=>have:=HK1.out;have:=HK2.out;omega
          case rel=>exact ⟨(x6_2),(wrap64 (x19_2 + 1)),(by first|rfl|(simp;done)|(simp [*];done)),(by first|rfl|(simp;done)|(simp [*];done)),H',⟨by have:=HK1.out;have:=HK2.out;omega⟩,⟨rq_ (Kd.R_mono (Kd.R_far (p:=⟨Ac,1,none⟩) (Kd.R_far (p:=⟨Ac,0,none⟩) (Kd.R_types HO_3.out Af.out (by decide)) (fun _ hk=>hk.2) (.int .i64 ((rd_T62 Aa x19_2).f0))) (fun _ hk=>hk.2) (.int .i64 ((rd_T62 Aa x19_2).f1))) (fun _ hk=>trivial))⟩,⟨rq_ (Kd.R_mono (Kd.R_far (p:=⟨Ac,1,none⟩) (Kd.R_far (p:=⟨Ac,0,none⟩) (Kd.R_mono HO_4.out (fun k_ hk=>(⟨hk,hk.2⟩ : _ ∧ k_ ≠ Ac))) (fun _ hk=>hk.2) (.int .i64 ((rd_T62 Aa x19_2).f0))) (fun _ hk=>hk.2) (.int .i64 ((rd_T62 Aa x19_2).f1))) (fun _ hk=>trivial))⟩,⟨rq_ (Kd.R_mono (Kd.R_far (p:=⟨Ac,1,none⟩) (Kd.R_far (p:=⟨Ac,0,none⟩) (Kd.R_mono HO_17.out (fun k_ hk=>(⟨hk,hk.2⟩ : _ ∧ k_ ≠ Ac))) (fun _ hk=>hk.2) (.int .i64 ((rd_T62 Aa x19_2).f0))) (fun _ hk=>hk.2) (.int .i64 ((rd_T62 Aa x19_2).f1))) (fun _ hk=>trivial))⟩,⟨by (with_reducible repeat (first|refine blk_drewN ?_ _|refine blk_drew ?_|refine blk_alloc ?_ _));refine blk_far ?_ Ae.out _;(with_reducible repeat (first|refine blk_drewN ?_ _|refine blk_drew ?_|refine blk_alloc ?_ _));refine blk_far ?_ Ae.out _;(with_reducible repeat (first|refine blk_drewN ?_ _|refine blk_drew ?_|refine blk_alloc ?_ _));exact Ab.out⟩,⟨bb_⟩⟩
        ·rw [if_neg c15] at H;exact absurd H (by simp)
       ·rw [if_neg c14] at H;exact absurd H (by simp)
      ·rw [if_neg c13] at H;have c13b0 : decide (x19_2 < (Aa.length : Int)) = false:=decide_eq_false c13;clear c13;by_cases c26 : x3_1.length < 17592186044416
       ·rw [if_pos c26] at H;have LMc26:=A_ c26;clear c26;obtain ⟨Au,Am⟩ : ∃ y_ : List Int,y_ = (x3_1 ++ [x6_2]):=⟨_,rfl⟩;replace H : (Aaj.l0 k2 Au Aa Ad (wrap64 (x14_1 + 1))) = some r:=by first|(rw [Am];with_reducible exact H)|(have H2_:=(Option.bind_some _ _).symm.trans H;rw [Am];with_reducible exact H2_)|(have H2_:=(Option.bind_some _ _).symm.trans H;with_reducible exact H2_)|with_reducible exact H|(rw [Am];exact H)|exact H
        have Az:=A_ Am;clear Am;have H':=A_ H;clear H;go_wp2_with (first|((with_reducible refine gate_builtin (b:=.append) (xs:=#[.tmp 35,.tmp 37]) rfl ?_);at_builtin;refine Kd.R_append (Kd.int .i64) (w0:=w) w.heap.size rfl (.tmp 35) (.tmp 37) 22 3 (.int .i64 0) 8 rfl Tryd.underlying22 info3 rfl (by decide) (by omega) u3 x3_1 x6_2 [.int .i64 x6_2] (fun _=>True) (fun _=>False) rfl rfl ?aP (fun _ hk=>hk.elim) ?aF ?aO ?aB ?aS ?aL ?_;(case aP=>exact rfl);(case aB=>exact bb_);(case aF=>exact (fun _ _=>trivial));(case aO=>exact (rl_ HO_3));(case aS=>exact (below_size bb_));(case aL=>have:=LMc26.out;omega);intro Bf w27 ho hb hg hat;rw [← Az.out] at ho;replace HO_4:=A_ (Kd.R_over' (rl_ HO_4) (Kd.R_typed (rl_ HO_3)) (by decide) hg);replace HO_17:=A_ (Kd.R_over' (rl_ HO_17) (Kd.R_typed (rl_ HO_3)) (by decide) hg);replace Ab:=A_ (blk_grown (g:=Ag) (o:=.cells #[.int .i64 a0_0,.slice A0_1 l0_1.length c0_1] 28 (0,0)) (bl_ Ab) hg (Kd.R_ne HO_3.out Ab.out (by decide)));replace HB:=A_ (hb);have Ba:=A_ (ho);clear HO_3;clear ho hb hg hat))
        go_roundg k2
        case measure=>have:=HK1.out;have:=HK2.out;omega
        case rel=>exact ⟨(Au),(wrap64 (x14_1 + 1)),(by first|rfl|(simp;done)|(simp [*];done)),H',⟨by have:=HK1.out;have:=HK2.out;omega⟩,⟨rl_ Ba⟩,⟨rl_ HO_4⟩,⟨bl_ Ab⟩,⟨bb_⟩⟩
       ·rw [if_neg c26] at H;exact absurd H (by simp)
   ·rw [if_neg c11] at H;have c11b0 : decide (x14_1 < Ad) = false:=decide_eq_false c11;clear c11;obtain rfl:=Option.some.inj H;go_wp2
    go_ret
    exact ⟨_,by first|rfl|(simp [errW_none,errW_some] <;> rfl)|(simp [*,errW_none,errW_some] <;> rfl),rl_ HO_3,bb_⟩
def Abq.f (k : Nat) (a0_0 : Int) (l0_1 : List Int) : Option (List Int × Bool) := (Aav.f k a0_0 l0_1).bind fun t1470 => (if t1470 = true then ((Aaj.f k a0_0 l0_1).bind fun t1471 => (some (t1471, true))) else (some (([] : List Int), false)))
set_option maxHeartbeats 8000000 in
set_option maxRecDepth 100000 in
theorem Abq.calls (k : Nat) (a0_0 : Int) (A0_1 : Option Addr) (c0_1 : Nat) (l0_1 : List Int) (r1 : List Int) (r2 : Bool) (w : World) (hr0_1 : Kd.C (Kd.int .i64) w A0_1 l0_1.length l0_1) (hc0_1 : l0_1.length ≤ c0_1) (hT : TabOK w) (h : Abq.f k a0_0 l0_1 = some (r1,r2)) :
 Calls Tryd.prog 60 #[.agg #[.int .i64 a0_0,.slice A0_1 l0_1.length c0_1]] w fun e w'=>∃ v0_ : Value,e = .returned (.tuple #[v0_,.bool r2]) ∧ Kd.R (Kd.int .i64) 3 w' w.heap.size (fun _=>True) v0_ r1 ∧ Below w.heap.size w w':=by
 have hu28:=Tryd.underlying28;have HT:=A_ hT;clear hT;have HR0_1:=A_ hr0_1;have HC0_1:=A_ hc0_1;clear hr0_1 hc0_1;have HB:=A_ (Below.refl w.heap.size w);have H : ((Aav.f k a0_0 l0_1).bind fun Ad=>(if Ad = true then ((Aaj.f k a0_0 l0_1).bind fun Ac=>(some (Ac,true))) else (some (([] : List Int),false)))) = some (r1,r2):=h;clear h;replace H:=Option.bind_eq_some_iff.mp H;obtain ⟨Ad,A20,H⟩:=H;replace H : (if Ad = true then ((Aaj.f k a0_0 l0_1).bind fun Ac=>(some (Ac,true))) else (some (([] : List Int),false))) = some (r1,r2):=H;have A2:=A_ A20;clear A20;by_cases c3 : Ad = true
 ·subst c3;have H1 : ((Aaj.f k a0_0 l0_1).bind fun Ac=>(some (Ac,true))) = some (r1,r2):=by rw [if_pos rfl] at H;exact H
  clear H;have H:=H1;clear H1;replace H:=Option.bind_eq_some_iff.mp H;obtain ⟨Ac,A40,H⟩:=H;replace H : (some (Ac,true)) = some (r1,r2):=H;have A4:=A_ A40;clear A40;simp only [Option.some.injEq,Prod.mk.injEq] at H
  obtain ⟨rfl,rfl⟩:=H;go_enter Tryd.func60,Tryd.ntmps60
  go_wp2_with (first|((with_reducible refine gate_dst (N:=1) rfl ?_);refine box_event ?hg (N:=1) ?hd (cs:=#[.int .i64 a0_0,.slice A0_1 l0_1.length c0_1]) (t:=28) ?hr ?_;(case hd=>rfl);(case hg=>rfl);(case hr=>go_simp;try rfl);intro Ab hg w5 hbox hb;have Aa:=A_ (hbox);have Ae:=A_ (gw_ (w:=w) hg bb_);have Af:=A_ (gw_ (w:=w) hg bb_);replace HB:=A_ (below_step bb_ hb);clear hb hbox hg;have hcz6_0 : w5.cell? ⟨Ab,0,none⟩ = some (.int .i64 a0_0):=blk_cell Aa.out 0;have hcz6_1 : w5.cell? ⟨Ab,1,none⟩ = some (.slice A0_1 l0_1.length c0_1):=blk_cell Aa.out 1;have hfz6_0:=blk_frozen Aa.out 0;have hfz6_1:=blk_frozen Aa.out 1)|((with_reducible refine gate_callee (f:=134) rfl ?_);refine goesL_ (some 5) rfl rfl Tryd.func134 (by kernel_rfl) rfl #[.agg #[.int .i64 a0_0,.slice A0_1 l0_1.length c0_1]] rfl au_ ?_;(with_reducible refine (Aav.calls k a0_0 _ _ l0_1 true _ ?side1 ?side2 ?side3 A2.out).mono ?_);(case side1=>exact cl_ (Kd.C_below HR0_1.out HB.out));(case side2=>exact HC0_1.out);(case side3=>first|exact HT.out|exact HT.out.below bb_|(repeat (first|exact HT.out|apply TabOK.drewN|apply TabOK.drew|apply TabOK.alloc)));rintro e w7 ⟨rfl,hb⟩;refine ⟨_,rfl,?_⟩;replace Aa:=bz Aa hb;replace HB:=A_ (below_step bb_ hb);(try clear hb);(try clear hb2);(try clear hk);(try clear hi);have hcz8_0 : w7.cell? ⟨Ab,0,none⟩ = some (.int .i64 a0_0):=blk_cell Aa.out 0;have hcz8_1 : w7.cell? ⟨Ab,1,none⟩ = some (.slice A0_1 l0_1.length c0_1):=blk_cell Aa.out 1;have hfz8_0:=blk_frozen Aa.out 0;have hfz8_1:=blk_frozen Aa.out 1)|((with_reducible refine gate_callee (f:=145) rfl ?_);refine goesL_ (some 8) rfl rfl Tryd.func145 (by kernel_rfl) rfl #[.agg #[.int .i64 a0_0,.slice A0_1 l0_1.length c0_1]] rfl au_ ?_;(with_reducible refine (Aaj.calls k a0_0 _ _ l0_1 Ac _ ?side1 ?side2 A4.out).mono ?_);(case side1=>exact cl_ (Kd.C_below HR0_1.out HB.out));(case side2=>exact HC0_1.out);rintro e w9 ⟨Ah,rfl,ho0,hb⟩;refine ⟨_,rfl,?_⟩;have Ag:=A_ (Kd.R_lower ho0 (below_size bb_));replace Aa:=bz Aa hb;replace HB:=A_ (below_step bb_ hb);(try clear hb);(try clear hb2);(try clear hk);(try clear hi);(try clear ho0)))
  go_ret2
  exact ⟨_,by first|rfl|(simp [errW_none,errW_some] <;> rfl)|(simp [*,errW_none,errW_some] <;> rfl),rl_ Ag,bb_⟩
 ·replace c3:=Bool.eq_false_iff.mpr c3;subst c3;have H1 : (some (([] : List Int),false)) = some (r1,r2):=by rw [if_neg (show ¬ (false = true) by decide)] at H;exact H
  clear H;have H:=H1;clear H1;simp only [Option.some.injEq,Prod.mk.injEq] at H
  obtain ⟨rfl,rfl⟩:=H;go_enter Tryd.func60,Tryd.ntmps60
  go_wp2_with (first|((with_reducible refine gate_dst (N:=1) rfl ?_);refine box_event ?hg (N:=1) ?hd (cs:=#[.int .i64 a0_0,.slice A0_1 l0_1.length c0_1]) (t:=28) ?hr ?_;(case hd=>rfl);(case hg=>rfl);(case hr=>go_simp;try rfl);intro Ab hg w10 hbox hb;have Aa:=A_ (hbox);have Ae:=A_ (gw_ (w:=w) hg bb_);have Af:=A_ (gw_ (w:=w) hg bb_);replace HB:=A_ (below_step bb_ hb);clear hb hbox hg;have hcz11_0 : w10.cell? ⟨Ab,0,none⟩ = some (.int .i64 a0_0):=blk_cell Aa.out 0;have hcz11_1 : w10.cell? ⟨Ab,1,none⟩ = some (.slice A0_1 l0_1.length c0_1):=blk_cell Aa.out 1;have hfz11_0:=blk_frozen Aa.out 0;have hfz11_1:=blk_frozen Aa.out 1)|((with_reducible refine gate_callee (f:=134) rfl ?_);refine goesL_ (some 5) rfl rfl Tryd.func134 (by kernel_rfl) rfl #[.agg #[.int .i64 a0_0,.slice A0_1 l0_1.length c0_1]] rfl au_ ?_;(with_reducible refine (Aav.calls k a0_0 _ _ l0_1 false _ ?side1 ?side2 ?side3 A2.out).mono ?_);(case side1=>exact cl_ (Kd.C_below HR0_1.out HB.out));(case side2=>exact HC0_1.out);(case side3=>first|exact HT.out|exact HT.out.below bb_|(repeat (first|exact HT.out|apply TabOK.drewN|apply TabOK.drew|apply TabOK.alloc)));rintro e w12 ⟨rfl,hb⟩;refine ⟨_,rfl,?_⟩;replace Aa:=bz Aa hb;replace HB:=A_ (below_step bb_ hb);(try clear hb);(try clear hb2);(try clear hk);(try clear hi)))
  go_ret2
  exact ⟨_,by first|rfl|(simp [errW_none,errW_some] <;> rfl)|(simp [*,errW_none,errW_some] <;> rfl),by first|exact Kd.R_nil _ _ _ _ _|exact Kd.N_nil _ _ _ _ _|exact Kd.V_nil _ _ _ _ _|exact Kd.Q_nil _ _ _ _ _|exact Kd.S_nil _ _ _ _ _,bb_⟩
def Abp.f (a0 : Int) (a1 : Int) : Option (Bool) := if 0 ≤ a1 then (some ((Int.tmod (shr .i64 a0 a1) 2) == 1)) else (none)
set_option maxHeartbeats 8000000 in
set_option maxRecDepth 100000 in
theorem Abp.calls (a0 : Int) (a1 : Int) (r : Bool) (w : World) (h : Abp.f a0 a1 = some r) :
 Calls Tryd.prog 62 #[.int .i64 a0,.int .i64 a1] w fun e w'=>e = .returned (.bool r) ∧ Drawn0 w w':=by
 have H : (if 0 ≤ a1 then (some ((Int.tmod (shr .i64 a0 a1) 2) == 1)) else (none)) = some r:=h;clear h;by_cases c3 : 0 ≤ a1
 ·rw [if_pos c3] at H;have c3b0:=eq_true c3;have c3b1 : decide (0 ≤ a1) = true:=decide_eq_true c3;clear c3;obtain ⟨ji4,hji4⟩ : ∃ j_ : Int,(shr .i64 a0 a1) = j_:=⟨_,rfl⟩;replace H : (some ((Int.tmod (ji4) 2) == 1)) = some r:=by first|(rw [hji4] at H;exact H)|(simp only [hji4] at H ⊢;exact H)
  have hji4_ : (a0 / 2 ^ min a1.toNat 64) = ji4:=hji4;have hji4z : a1 ≤ 64 → (a0 / 2 ^ a1.toNat) = ji4:=shr_small hji4;obtain rfl:=Option.some.inj H;go_enter Tryd.func62,Tryd.ntmps62
  go_wp2
  go_ret
  exact ⟨by first|rfl|(simp;done)|(simp only [← hji4] <;> (first|rfl|simp))|(simp [*];done),by repeat (first|exact Drawn0.refl _|apply Drawn0.step)⟩
 ·rw [if_neg c3] at H;exact absurd H (by simp)
def Aaa (w0 W : World) (g : Nat) (f0 : List Int) (f1 : Int) (f2 : Int) : Prop := ∃ A0 c0, W.heap[g]? = some (.cells #[.slice A0 f0.length c0, .int .i64 f1, .int .u64 f2] 103 (0, 0)) ∧ w0.heap.size ≤ g ∧ Kd.C (Kd.int .u8) w0 A0 f0.length f0
theorem Aaa.grown {w0 W : World} {g : Nat} {f0 : List Int} {f1 : Int} {f2 : Int} {W1 : World} {row : Option Nat} (h : Aaa w0 W g f0 f1 f2) (hw : W.grownBy W1 row) (hne : some g ≠ row) : Aaa w0 W1 g f0 f1 f2:=by
 obtain ⟨A0,c0,hb,hg,hr0⟩:=h;exact ⟨A0,c0,blk_grown hb hw hne,hg,hr0⟩
theorem Aaa.below {w0 W : World} {g : Nat} {f0 : List Int} {f1 : Int} {f2 : Int} {W1 : World} (h : Aaa w0 W g f0 f1 f2) (hw : Below W.heap.size W W1) : Aaa w0 W1 g f0 f1 f2:=h.grown (grown_of_below hw none) (by simp)
theorem Aaa.drewN {w0 W : World} {g : Nat} {f0 : List Int} {f1 : Int} {f2 : Int} (h : Aaa w0 W g f0 f1 f2) (m : Nat) : Aaa w0 (W.drewN m) g f0 f1 f2:=h
theorem Aaa.drew {w0 W : World} {g : Nat} {f0 : List Int} {f1 : Int} {f2 : Int} (h : Aaa w0 W g f0 f1 f2) : Aaa w0 W.drew g f0 f1 f2:=h
theorem Aaa.apart {w0 W : World} {g : Nat} {f0 : List Int} {f1 : Int} {f2 : Int} {α : Type} {d : Kd α} {e : Nat} {base : Nat} {ok : Nat → Prop} {v : Value} {xs : List α} (h : Aaa w0 W g f0 f1 f2) (ho : d.R e W base ok v xs) (ht : ∀ q,q ∈ e :: d.E → q ≠ 103) : d.R e W base (fun k=>ok k ∧ k ≠ g) v xs:=by
 obtain ⟨A0,c0,hb,hg,hr0⟩:=h;exact Kd.R_types ho hb ht
theorem Aaa.own_ne {w0 W : World} {g : Nat} {f0 : List Int} {f1 : Int} {f2 : Int} {α : Type} {d : Kd α} {e : Nat} {base : Nat} {ok : Nat → Prop} {v : Value} {xs : List α} (h : Aaa w0 W g f0 f1 f2) (ho : d.R e W base ok v xs) (ht : e ≠ 103) : some g ≠ v.ownBlock:=by
 obtain ⟨A0,c0,hb,hg,hr0⟩:=h;exact Kd.R_ne ho hb ht
theorem Aaa.lt {w0 W : World} {g : Nat} {f0 : List Int} {f1 : Int} {f2 : Int} (h : Aaa w0 W g f0 f1 f2) : g < W.heap.size:=by
 obtain ⟨A0,c0,hb,hg,hr0⟩:=h;exact blk_lt hb
theorem Aaa.ge {w0 W : World} {g : Nat} {f0 : List Int} {f1 : Int} {f2 : Int} (h : Aaa w0 W g f0 f1 f2) : w0.heap.size ≤ g:=by
 obtain ⟨A0,c0,hb,hg,hr0⟩:=h;exact hg
theorem Aaa.far {w0 W : World} {g : Nat} {f0 : List Int} {f1 : Int} {f2 : Int} {p : Addr} (h : Aaa w0 W g f0 f1 f2) (hne : g ≠ p.block) (u : Value) : Aaa w0 (W.setCell p u) g f0 f1 f2:=by
 obtain ⟨A0,c0,hb,hg,hr0⟩:=h;exact ⟨A0,c0,blk_far hb hne u,hg,hr0⟩
theorem cellS103_0 {W : World} {g : Nat} {A0 : Option Addr} {c0 : Nat} {f0 : List Int} {f1 : Int} {f2 : Int} (h : W.heap[g]? = some (.cells #[.slice A0 f0.length c0,.int .i64 f1,.int .u64 f2] 103 (0,0))) : W.cell? ⟨g,0,none⟩ = some (.slice A0 f0.length c0):=(blk_cell h 0).trans rfl
theorem cellS103_1 {W : World} {g : Nat} {A0 : Option Addr} {c0 : Nat} {f0 : List Int} {f1 : Int} {f2 : Int} (h : W.heap[g]? = some (.cells #[.slice A0 f0.length c0,.int .i64 f1,.int .u64 f2] 103 (0,0))) : W.cell? ⟨g,1,none⟩ = some (.int .i64 f1):=(blk_cell h 1).trans rfl
theorem Aaa.set_1 {w0 W : World} {g : Nat} {f0 : List Int} {f1 : Int} {f2 : Int} (h : Aaa w0 W g f0 f1 f2) (x : Int) : Aaa w0 (W.setCell ⟨g,1,none⟩ (.int .i64 x)) g f0 x f2:=by
 obtain ⟨A0,c0,hb,hg,hr0⟩:=h;exact ⟨A0,c0,by simpa using blk_set hb 1 (.int .i64 x),hg,hr0⟩
theorem cellS103_2 {W : World} {g : Nat} {A0 : Option Addr} {c0 : Nat} {f0 : List Int} {f1 : Int} {f2 : Int} (h : W.heap[g]? = some (.cells #[.slice A0 f0.length c0,.int .i64 f1,.int .u64 f2] 103 (0,0))) : W.cell? ⟨g,2,none⟩ = some (.int .u64 f2):=(blk_cell h 2).trans rfl
theorem Aaa.set_2 {w0 W : World} {g : Nat} {f0 : List Int} {f1 : Int} {f2 : Int} (h : Aaa w0 W g f0 f1 f2) (x : Int) : Aaa w0 (W.setCell ⟨g,2,none⟩ (.int .u64 x)) g f0 f1 x:=by
 obtain ⟨A0,c0,hb,hg,hr0⟩:=h;exact ⟨A0,c0,by simpa using blk_set hb 2 (.int .u64 x),hg,hr0⟩
theorem is_ {p : Prop} (h : p := by repeat (with_reducible first | exact Aside0.out (by assumption) | apply Aaa.alloc | apply Aaa.drewN | apply Aaa.drew | apply Aaa.set_1 | apply Aaa.set_2 | refine Aaa.far ?_ (Aside0.out (by assumption)) _)) : p := h
def Abm.f (s0_0 : List Int) (s0_1 : Int) (s0_2 : Int) : Option (Int × Int × Int) := if s0_1 < (s0_0.length : Int) then (if 0 ≤ s0_1 then (if (wrap64 (s0_1 + 1)) ≤ (s0_0.length : Int) then (some (wrap64 (rd s0_0 s0_1), wrap64 (s0_1 + 1), IntKind.u64.wrap ((IntKind.u64.wrap ((IntKind.u64.wrap (s0_2 * 6364136223846793005)) + (IntKind.u64.wrap (wrap64 (rd s0_0 s0_1))))) + 1442695040888963407))) else (some (wrap64 (Go.bits .and .u64 ((IntKind.u64.wrap ((IntKind.u64.wrap ((IntKind.u64.wrap (s0_2 * 6364136223846793005)) + (IntKind.u64.wrap (wrap64 (rd s0_0 s0_1))))) + 1442695040888963407)) / 1099511627776) 255), wrap64 (s0_1 + 1), IntKind.u64.wrap ((IntKind.u64.wrap ((IntKind.u64.wrap (s0_2 * 6364136223846793005)) + (IntKind.u64.wrap (wrap64 (rd s0_0 s0_1))))) + 1442695040888963407)))) else (none)) else (if (wrap64 (s0_1 + 1)) ≤ (s0_0.length : Int) then (some (0, wrap64 (s0_1 + 1), IntKind.u64.wrap ((IntKind.u64.wrap ((IntKind.u64.wrap (s0_2 * 6364136223846793005)))) + 1442695040888963407))) else (some (wrap64 (Go.bits .and .u64 ((IntKind.u64.wrap ((IntKind.u64.wrap ((IntKind.u64.wrap (s0_2 * 6364136223846793005)))) + 1442695040888963407)) / 1099511627776) 255), wrap64 (s0_1 + 1), IntKind.u64.wrap ((IntKind.u64.wrap ((IntKind.u64.wrap (s0_2 * 6364136223846793005)))) + 1442695040888963407))))
set_option maxHeartbeats 8000000 in
set_option maxRecDepth 100000 in
theorem Abm.calls (g : Nat) (s0_0 : List Int) (s0_1 : Int) (s0_2 : Int) (r1 : Int) (r2 : Int) (r3 : Int) (w0 w : World) (hI : Aaa w0 w g s0_0 s0_1 s0_2) (hB : Below w0.heap.size w0 w) (h : Abm.f s0_0 s0_1 s0_2 = some (r1,r2,r3)) :
 Calls Tryd.prog 212 #[.pointer (some ⟨g,0,none⟩)] w fun e w'=>e = .returned (.int .i64 r1) ∧ Aaa w0 w' g s0_0 r2 r3 ∧ Below w0.heap.size w0 w' ∧ KeepBut w w' g none:=by
 have HI0:=A_ hI;have HK:=A_ (KeepBut.refl w g none);have HL:=A_ hB.size;clear hI;have HW0:=A_ hB.size;have HB:=A_ hB;clear hB;have H : (if s0_1 < (s0_0.length : Int) then (if 0 ≤ s0_1 then (if (wrap64 (s0_1 + 1)) ≤ (s0_0.length : Int) then (some (wrap64 (rd s0_0 s0_1),wrap64 (s0_1 + 1),IntKind.u64.wrap ((IntKind.u64.wrap ((IntKind.u64.wrap (s0_2 * 6364136223846793005)) + (IntKind.u64.wrap (wrap64 (rd s0_0 s0_1))))) + 1442695040888963407))) else (some (wrap64 (Go.bits .and .u64 ((IntKind.u64.wrap ((IntKind.u64.wrap ((IntKind.u64.wrap (s0_2 * 6364136223846793005)) + (IntKind.u64.wrap (wrap64 (rd s0_0 s0_1))))) + 1442695040888963407)) / 1099511627776) 255),wrap64 (s0_1 + 1),IntKind.u64.wrap ((IntKind.u64.wrap ((IntKind.u64.wrap (s0_2 * 6364136223846793005)) + (IntKind.u64.wrap (wrap64 (rd s0_0 s0_1))))) + 1442695040888963407)))) else (none)) else (if (wrap64 (s0_1 + 1)) ≤ (s0_0.length : Int) then (some (0,wrap64 (s0_1 + 1),IntKind.u64.wrap ((IntKind.u64.wrap ((IntKind.u64.wrap (s0_2 * 6364136223846793005)))) + 1442695040888963407))) else (some (wrap64 (Go.bits .and .u64 ((IntKind.u64.wrap ((IntKind.u64.wrap ((IntKind.u64.wrap (s0_2 * 6364136223846793005)))) + 1442695040888963407)) / 1099511627776) 255),wrap64 (s0_1 + 1),IntKind.u64.wrap ((IntKind.u64.wrap ((IntKind.u64.wrap (s0_2 * 6364136223846793005)))) + 1442695040888963407))))) = some (r1,r2,r3):=h;clear h;by_cases c2 : s0_1 < (s0_0.length : Int)
 ·rw [if_pos c2] at H;have c2b0 : decide (s0_1 < (s0_0.length : Int)) = true:=decide_eq_true c2;clear c2;by_cases c3 : 0 ≤ s0_1
  ·rw [if_pos c3] at H;have c3b0 : decide (0 ≤ s0_1) = true:=decide_eq_true c3;clear c3;by_cases c4 : (wrap64 (s0_1 + 1)) ≤ (s0_0.length : Int)
   ·rw [if_pos c4] at H;have c4b0 : decide ((wrap64 (s0_1 + 1)) ≤ (s0_0.length : Int)) = true:=decide_eq_true c4;clear c4;simp only [Option.some.injEq,Prod.mk.injEq] at H
    obtain ⟨rfl,rfl,rfl⟩:=H;obtain ⟨ASz5_0,cSz5_0,HGz5,hgz5,HSz5_0⟩:=HI0.out;have hcz5_0:=cellS103_0 HGz5;have hcz5_1:=cellS103_1 HGz5;have hcz5_2:=cellS103_2 HGz5;have hfz5_1:=blk_frozen HGz5 1;have hfz5_2:=blk_frozen HGz5 2;clear HGz5 hgz5;have Ab : 0 ≤ (s0_1 : Int):=of_decide_eq_true (by first|(with_reducible assumption)|assumption);have Ac : s0_1 < (s0_0.length : Int):=of_decide_eq_true (by first|(with_reducible assumption)|assumption);obtain ⟨Ae,Ad,Aa⟩:=Kd.at_int HSz5_0 s0_1 Ab Ac;cases Ad
    replace Aa:=pw_cell_below HB.out Aa;replace Ab:=eq_true Ab;replace Ac:=eq_true Ac;go_enter Tryd.func212,Tryd.ntmps212
    go_wp2
    repeat (go_quiet (fail);try go_wp2)
    go_ret
    exact ⟨by first|rfl|(simp [errW_none,errW_some] <;> rfl)|(simp [*,errW_none,errW_some] <;> rfl),is_,by repeat (first|(with_reducible first|exact HB.out|apply below_alloc|apply pw_below_drewN|apply below_drew1|refine below_set ?_ (Aaa.ge HI0.out))|exact HB.out),by repeat (first|(with_reducible first|exact HK.out|apply KeepBut.set_|apply keep_drewN|apply keep_drew|apply keep_alloc)|exact HK.out)⟩
   ·rw [if_neg c4] at H;have c4b0 : decide ((wrap64 (s0_1 + 1)) ≤ (s0_0.length : Int)) = false:=decide_eq_false c4;clear c4;simp only [Option.some.injEq,Prod.mk.injEq] at H
    obtain ⟨rfl,rfl,rfl⟩:=H;obtain ⟨ASz6_0,cSz6_0,HGz6,hgz6,HSz6_0⟩:=HI0.out;have hcz6_0:=cellS103_0 HGz6;have hcz6_1:=cellS103_1 HGz6;have hcz6_2:=cellS103_2 HGz6;have hfz6_1:=blk_frozen HGz6 1;have hfz6_2:=blk_frozen HGz6 2;clear HGz6 hgz6;have Ab : 0 ≤ (s0_1 : Int):=of_decide_eq_true (by first|(with_reducible assumption)|assumption);have Ac : s0_1 < (s0_0.length : Int):=of_decide_eq_true (by first|(with_reducible assumption)|assumption);obtain ⟨Ae,Ad,Aa⟩:=Kd.at_int HSz6_0 s0_1 Ab Ac;cases Ad
    replace Aa:=pw_cell_below HB.out Aa;replace Ab:=eq_true Ab;replace Ac:=eq_true Ac;go_enter Tryd.func212,Tryd.ntmps212
    go_wp2
    repeat (go_quiet (fail);try go_wp2)
    go_ret
    exact ⟨by first|rfl|(simp [errW_none,errW_some] <;> rfl)|(simp [*,errW_none,errW_some] <;> rfl),is_,by repeat (first|(with_reducible first|exact HB.out|apply below_alloc|apply pw_below_drewN|apply below_drew1|refine below_set ?_ (Aaa.ge HI0.out))|exact HB.out),by repeat (first|(with_reducible first|exact HK.out|apply KeepBut.set_|apply keep_drewN|apply keep_drew|apply keep_alloc)|exact HK.out)⟩
  ·rw [if_neg c3] at H;exact absurd H (by simp)
 ·rw [if_neg c2] at H;have c2b0 : decide (s0_1 < (s0_0.length : Int)) = false:=decide_eq_false c2;clear c2;by_cases c7 : (wrap64 (s0_1 + 1)) ≤ (s0_0.length : Int)
  ·rw [if_pos c7] at H;have c7b0 : decide ((wrap64 (s0_1 + 1)) ≤ (s0_0.length : Int)) = true:=decide_eq_true c7;clear c7;simp only [Option.some.injEq,Prod.mk.injEq] at H
   obtain ⟨rfl,rfl,rfl⟩:=H;obtain ⟨ASz8_0,cSz8_0,HGz8,hgz8,HSz8_0⟩:=HI0.out;have hcz8_0:=cellS103_0 HGz8;have hcz8_1:=cellS103_1 HGz8;have hcz8_2:=cellS103_2 HGz8;have hfz8_1:=blk_frozen HGz8 1;have hfz8_2:=blk_frozen HGz8 2;clear HGz8 hgz8;go_enter Tryd.func212,Tryd.ntmps212
   go_wp2
   repeat (go_quiet (fail);try go_wp2)
   go_ret
   exact ⟨by first|rfl|(simp [errW_none,errW_some] <;> rfl)|(simp [*,errW_none,errW_some] <;> rfl),is_,by repeat (first|(with_reducible first|exact HB.out|apply below_alloc|apply pw_below_drewN|apply below_drew1|refine below_set ?_ (Aaa.ge HI0.out))|exact HB.out),by repeat (first|(with_reducible first|exact HK.out|apply KeepBut.set_|apply keep_drewN|apply keep_drew|apply keep_alloc)|exact HK.out)⟩
  ·rw [if_neg c7] at H;have c7b0 : decide ((wrap64 (s0_1 + 1)) ≤ (s0_0.length : Int)) = false:=decide_eq_false c7;clear c7;simp only [Option.some.injEq,Prod.mk.injEq] at H
   obtain ⟨rfl,rfl,rfl⟩:=H;obtain ⟨ASz9_0,cSz9_0,HGz9,hgz9,HSz9_0⟩:=HI0.out;have hcz9_0:=cellS103_0 HGz9;have hcz9_1:=cellS103_1 HGz9;have hcz9_2:=cellS103_2 HGz9;have hfz9_1:=blk_frozen HGz9 1;have hfz9_2:=blk_frozen HGz9 2;clear HGz9 hgz9;go_enter Tryd.func212,Tryd.ntmps212
   go_wp2
   repeat (go_quiet (fail);try go_wp2)
   go_ret
   exact ⟨by first|rfl|(simp [errW_none,errW_some] <;> rfl)|(simp [*,errW_none,errW_some] <;> rfl),is_,by repeat (first|(with_reducible first|exact HB.out|apply below_alloc|apply pw_below_drewN|apply below_drew1|refine below_set ?_ (Aaa.ge HI0.out))|exact HB.out),by repeat (first|(with_reducible first|exact HK.out|apply KeepBut.set_|apply keep_drewN|apply keep_drew|apply keep_alloc)|exact HK.out)⟩
def Aah.f (s0_0 : List Int) (s0_1 : Int) (s0_2 : Int) (a1 : Int) : Option (Int × Int × Int) := if a1 ≤ 1 then (some (0, s0_1, s0_2)) else ((Abm.f s0_0 s0_1 s0_2).bind fun bt347 => (if a1 > 200 then ((Abm.f s0_0 bt347.2.1 bt347.2.2).bind fun bt350 => (if a1 = 0 then (none) else (some (Int.tmod (wrap64 ((wrap64 (bt347.1 * 256)) + bt350.1)) a1, bt350.2.1, bt350.2.2)))) else (if a1 = 0 then (none) else (some (Int.tmod bt347.1 a1, bt347.2.1, bt347.2.2)))))
set_option maxHeartbeats 8000000 in
set_option maxRecDepth 100000 in
theorem Aah.calls (g : Nat) (s0_0 : List Int) (s0_1 : Int) (s0_2 : Int) (a1 : Int) (r1 : Int) (r2 : Int) (r3 : Int) (w0 w : World) (hI : Aaa w0 w g s0_0 s0_1 s0_2) (hB : Below w0.heap.size w0 w) (h : Aah.f s0_0 s0_1 s0_2 a1 = some (r1,r2,r3)) :
 Calls Tryd.prog 150 #[.pointer (some ⟨g,0,none⟩),.int .i64 a1] w fun e w'=>e = .returned (.int .i64 r1) ∧ Aaa w0 w' g s0_0 r2 r3 ∧ Below w0.heap.size w0 w' ∧ KeepBut w w' g none:=by
 have HI0:=A_ hI;have HK:=A_ (KeepBut.refl w g none);have HL:=A_ hB.size;clear hI;have HW0:=A_ hB.size;have HB:=A_ hB;clear hB;have H : (if a1 ≤ 1 then (some (0,s0_1,s0_2)) else ((Abm.f s0_0 s0_1 s0_2).bind fun Ab=>(if a1 > 200 then ((Abm.f s0_0 Ab.2.1 Ab.2.2).bind fun Aa=>(if a1 = 0 then (none) else (some (Int.tmod (wrap64 ((wrap64 (Ab.1 * 256)) + Aa.1)) a1,Aa.2.1,Aa.2.2)))) else (if a1 = 0 then (none) else (some (Int.tmod Ab.1 a1,Ab.2.1,Ab.2.2)))))) = some (r1,r2,r3):=h;clear h;by_cases c3 : a1 ≤ 1
 ·rw [if_pos c3] at H;have c3b0 : decide (a1 ≤ 1) = true:=decide_eq_true c3;clear c3;simp only [Option.some.injEq,Prod.mk.injEq] at H
  obtain ⟨rfl,rfl,rfl⟩:=H;go_enter Tryd.func150,Tryd.ntmps150
  go_wp2
  go_ret
  exact ⟨by first|rfl|(simp [errW_none,errW_some] <;> rfl)|(simp [*,errW_none,errW_some] <;> rfl),is_,by repeat (first|(with_reducible first|exact HB.out|apply below_alloc|apply pw_below_drewN|apply below_drew1|refine below_set ?_ (Aaa.ge HI0.out))|exact HB.out),by repeat (first|(with_reducible first|exact HK.out|apply KeepBut.set_|apply keep_drewN|apply keep_drew|apply keep_alloc)|exact HK.out)⟩
 ·rw [if_neg c3] at H;have c3b0 : decide (a1 ≤ 1) = false:=decide_eq_false c3;clear c3;replace H:=Option.bind_eq_some_iff.mp H;obtain ⟨⟨Ac,Ad,Ae⟩,A40,H⟩:=H;replace H : (if a1 > 200 then ((Abm.f s0_0 Ad Ae).bind fun Aa=>(if a1 = 0 then (none) else (some (Int.tmod (wrap64 ((wrap64 (Ac * 256)) + Aa.1)) a1,Aa.2.1,Aa.2.2)))) else (if a1 = 0 then (none) else (some (Int.tmod Ac a1,Ad,Ae)))) = some (r1,r2,r3):=H;have A4:=A_ A40;clear A40;by_cases c5 : a1 > 200
  ·rw [if_pos c5] at H;have c5b0 : decide (200 < a1) = true:=decide_eq_true c5;clear c5;replace H:=Option.bind_eq_some_iff.mp H;obtain ⟨⟨Af,Ag,Ah⟩,A60,H⟩:=H;replace H : (if a1 = 0 then (none) else (some (Int.tmod (wrap64 ((wrap64 (Ac * 256)) + Af)) a1,Ag,Ah))) = some (r1,r2,r3):=H;have A6:=A_ A60;clear A60;by_cases c7 : a1 = 0
   ·rw [if_pos c7] at H;exact absurd H (by simp)
   ·rw [if_neg c7] at H;have c7b0 : (a1 == 0) = false:=beq_eq_false_iff_ne.mpr c7;have c7b1 : (a1 != 0) = true:=bne_iff_ne.mpr c7;simp only [Option.some.injEq,Prod.mk.injEq] at H
    obtain ⟨rfl,rfl,rfl⟩:=H;go_enter Tryd.func150,Tryd.ntmps150
    go_wp2_with (first|((with_reducible refine gate_callee (f:=212) rfl ?_);refine goesL_ (some 9) rfl rfl Tryd.func212 (by kernel_rfl) rfl #[.pointer (some ⟨g,0,none⟩)] rfl au_ ?_;(with_reducible refine (Abm.calls g s0_0 s0_1 s0_2 Ac Ad Ae w0 _ ?side1 ?side2 A4.out).mono ?_);(case side1=>exact is_);(case side2=>repeat (first|(with_reducible first|exact HB.out|apply below_alloc|apply pw_below_drewN|apply below_drew1|refine below_set ?_ (Aaa.ge HI0.out))|exact HB.out));rintro e w8 ⟨rfl,hi,hb,hk⟩;refine ⟨_,rfl,?_⟩;replace HK:=A_ (KeepBut.trans (by repeat (with_reducible first|exact HK.out|apply KeepBut.set_|apply keep_drewN|apply keep_drew|apply keep_alloc)) hk (.inl rfl));replace HB:=A_ (hb);replace HI0:=A_ (hi);(try clear hb);(try clear hb2);(try clear hk);(try clear hi))|((with_reducible refine gate_callee (f:=212) rfl ?_);refine goesL_ (some 15) rfl rfl Tryd.func212 (by kernel_rfl) rfl #[.pointer (some ⟨g,0,none⟩)] rfl au_ ?_;(with_reducible refine (Abm.calls g s0_0 Ad Ae Af Ag Ah w0 _ ?side1 ?side2 A6.out).mono ?_);(case side1=>exact is_);(case side2=>repeat (first|(with_reducible first|exact HB.out|apply below_alloc|apply pw_below_drewN|apply below_drew1|refine below_set ?_ (Aaa.ge HI0.out))|exact HB.out));rintro e w9 ⟨rfl,hi,hb,hk⟩;refine ⟨_,rfl,?_⟩;replace HK:=A_ (KeepBut.trans (by repeat (with_reducible first|exact HK.out|apply KeepBut.set_|apply keep_drewN|apply keep_drew|apply keep_alloc)) hk (.inl rfl));replace HB:=A_ (hb);replace HI0:=A_ (hi);(try clear hb);(try clear hb2);(try clear hk);(try clear hi)))
    go_ret
    exact ⟨by first|rfl|(simp [errW_none,errW_some] <;> rfl)|(simp [*,errW_none,errW_some] <;> rfl),is_,by repeat (first|(with_reducible first|exact HB.out|apply below_alloc|apply pw_below_drewN|apply below_drew1|refine below_set ?_ (Aaa.ge HI0.out))|exact HB.out),by repeat (first|(with_reducible first|exact HK.out|apply KeepBut.set_|apply keep_drewN|apply keep_drew|apply keep_alloc)|exact HK.out)⟩
  ·rw [if_neg c5] at H;have c5b0 : decide (200 < a1) = false:=decide_eq_false c5;clear c5;by_cases c10 : a1 = 0
   ·rw [if_pos c10] at H;exact absurd H (by simp)
   ·rw [if_neg c10] at H;have c10b0 : (a1 == 0) = false:=beq_eq_false_iff_ne.mpr c10;have c10b1 : (a1 != 0) = true:=bne_iff_ne.mpr c10;simp only [Option.some.injEq,Prod.mk.injEq] at H
    obtain ⟨rfl,rfl,rfl⟩:=H;go_enter Tryd.func150,Tryd.ntmps150
    go_wp2_with (first|((with_reducible refine gate_callee (f:=212) rfl ?_);refine goesL_ (some 9) rfl rfl Tryd.func212 (by kernel_rfl) rfl #[.pointer (some ⟨g,0,none⟩)] rfl au_ ?_;(with_reducible refine (Abm.calls g s0_0 s0_1 s0_2 Ac Ad Ae w0 _ ?side1 ?side2 A4.out).mono ?_);(case side1=>exact is_);(case side2=>repeat (first|(with_reducible first|exact HB.out|apply below_alloc|apply pw_below_drewN|apply below_drew1|refine below_set ?_ (Aaa.ge HI0.out))|exact HB.out));rintro e w11 ⟨rfl,hi,hb,hk⟩;refine ⟨_,rfl,?_⟩;replace HK:=A_ (KeepBut.trans (by repeat (with_reducible first|exact HK.out|apply KeepBut.set_|apply keep_drewN|apply keep_drew|apply keep_alloc)) hk (.inl rfl));replace HB:=A_ (hb);replace HI0:=A_ (hi);(try clear hb);(try clear hb2);(try clear hk);(try clear hi)))
    go_ret
    exact ⟨by first|rfl|(simp [errW_none,errW_some] <;> rfl)|(simp [*,errW_none,errW_some] <;> rfl),is_,by repeat (first|(with_reducible first|exact HB.out|apply below_alloc|apply pw_below_drewN|apply below_drew1|refine below_set ?_ (Aaa.ge HI0.out))|exact HB.out),by repeat (first|(with_reducible first|exact HK.out|apply KeepBut.set_|apply keep_drewN|apply keep_drew|apply keep_alloc)|exact HK.out)⟩
def Aaw.f (s0_0 : List Int) (s0_1 : Int) (s0_2 : Int) (l1 : List Int) : Option (Int × Int × Int) := (Aah.f s0_0 s0_1 s0_2 (l1.length : Int)).bind fun bt353 => (if 0 ≤ bt353.1 then (if bt353.1 < (l1.length : Int) then (some (rd l1 bt353.1, bt353.2.1, bt353.2.2)) else (none)) else (none))
set_option maxHeartbeats 8000000 in
set_option maxRecDepth 100000 in
theorem Aaw.calls (g : Nat) (s0_0 : List Int) (s0_1 : Int) (s0_2 : Int) (A1 : Option Addr) (c1 : Nat) (l1 : List Int) (r1 : Int) (r2 : Int) (r3 : Int) (w0 w : World) (hI : Aaa w0 w g s0_0 s0_1 s0_2) (hB : Below w0.heap.size w0 w) (hr1 : Kd.C (Kd.int .i64) w A1 l1.length l1) (hc1 : l1.length ≤ c1) (hf1 : ∀ ad,A1 = some ad → 0 < l1.length → ad.block ≠ g) (h : Aaw.f s0_0 s0_1 s0_2 l1 = some (r1,r2,r3)) :
 Calls Tryd.prog 125 #[.pointer (some ⟨g,0,none⟩),.slice A1 l1.length c1] w fun e w'=>e = .returned (.int .i64 r1) ∧ Aaa w0 w' g s0_0 r2 r3 ∧ Below w0.heap.size w0 w' ∧ KeepBut w w' g none:=by
 have HR1:=A_ hr1;have HC1:=A_ hc1;clear hr1 hc1;have HI0:=A_ hI;have HK:=A_ (KeepBut.refl w g none);have HL:=A_ hB.size;clear hI;have HW0:=A_ hB.size;have HB:=A_ hB;clear hB;have H : ((Aah.f s0_0 s0_1 s0_2 (l1.length : Int)).bind fun Ab=>(if 0 ≤ Ab.1 then (if Ab.1 < (l1.length : Int) then (some (rd l1 Ab.1,Ab.2.1,Ab.2.2)) else (none)) else (none))) = some (r1,r2,r3):=h;clear h;replace H:=Option.bind_eq_some_iff.mp H;obtain ⟨⟨Aa,Af,Ag⟩,A30,H⟩:=H;replace H : (if 0 ≤ Aa then (if Aa < (l1.length : Int) then (some (rd l1 Aa,Af,Ag)) else (none)) else (none)) = some (r1,r2,r3):=H;have A3:=A_ A30;clear A30;by_cases c4 : 0 ≤ Aa
 ·rw [if_pos c4] at H;have c4b0 : decide (0 ≤ Aa) = true:=decide_eq_true c4;clear c4;by_cases c5 : Aa < (l1.length : Int)
  ·rw [if_pos c5] at H;have c5b0 : decide (Aa < (l1.length : Int)) = true:=decide_eq_true c5;clear c5;simp only [Option.some.injEq,Prod.mk.injEq] at H
   obtain ⟨rfl,rfl,rfl⟩:=H;go_enter Tryd.func125,Tryd.ntmps125
   go_wp2_with (first|((with_reducible refine gate_callee (f:=150) rfl ?_);refine goesL_ (some 9) rfl rfl Tryd.func150 (by kernel_rfl) rfl #[.pointer (some ⟨g,0,none⟩),.int .i64 (l1.length : Int)] rfl au_ ?_;(with_reducible refine (Aah.calls g s0_0 s0_1 s0_2 (l1.length : Int) Aa Af Ag w0 _ ?side1 ?side2 A3.out).mono ?_);(case side1=>exact is_);(case side2=>repeat (first|(with_reducible first|exact HB.out|apply below_alloc|apply pw_below_drewN|apply below_drew1|refine below_set ?_ (Aaa.ge HI0.out))|exact HB.out));rintro e w6 ⟨rfl,hi,hb,hk⟩;refine ⟨_,rfl,?_⟩;replace HK:=A_ (KeepBut.trans (by repeat (with_reducible first|exact HK.out|apply KeepBut.set_|apply keep_drewN|apply keep_drew|apply keep_alloc)) hk (.inl rfl));replace HB:=A_ (hb);replace HI0:=A_ (hi);(try clear hb);(try clear hb2);(try clear hk);(try clear hi);have Ad : 0 ≤ (Aa : Int):=of_decide_eq_true (by first|(with_reducible assumption)|assumption);have Ae : Aa < (l1.length : Int):=of_decide_eq_true (by first|(with_reducible assumption)|assumption);obtain ⟨Ah,Ai,Ac⟩:=Kd.at_int HR1.out Aa Ad Ae;cases Ai;replace Ac:=keep_cell HK.out Ac (by first|(rw [add_block];exact hf1 _ rfl (by omega))|exact hf1 _ rfl (by omega)|exact hf1 Ah rfl (by omega));replace Ad:=eq_true Ad;replace Ae:=eq_true Ae))
   go_ret
   exact ⟨by first|rfl|(simp [errW_none,errW_some] <;> rfl)|(simp [*,errW_none,errW_some] <;> rfl),is_,by repeat (first|(with_reducible first|exact HB.out|apply below_alloc|apply pw_below_drewN|apply below_drew1|refine below_set ?_ (Aaa.ge HI0.out))|exact HB.out),by repeat (first|(with_reducible first|exact HK.out|apply KeepBut.set_|apply keep_drewN|apply keep_drew|apply keep_alloc)|exact HK.out)⟩
  ·rw [if_neg c5] at H;exact absurd H (by simp)
 ·rw [if_neg c4] at H;exact absurd H (by simp)
mutual
def Aam.l0 : Nat → List (S62) → Int → List Int → Int → Int → Option ((List (S62)) × Int × Int)
 | 0,_,_,_,_,_=>none
 | k + 1,x5,x6,x1000,x1001,x1002=>if x6 > 0 then ((Aah.f x1000 x1001 x1002 8).bind fun bt360=>((Aah.f x1000 bt360.2.1 bt360.2.2 4).bind fun bt363=>(if x5.length < 8796093022208 then (Aam.l0 k (x5 ++ [(⟨wrap64 (bt360.1 - 1),wrap64 ((wrap64 (bt360.1 - 1)) + bt363.1)⟩ : S62)]) (wrap64 (x6 - 1)) x1000 bt363.2.1 bt363.2.2) else (none)))) else ((Aah.f x1000 x1001 x1002 14).bind fun bt369=>(if bt369.1 = 0 then ((Aaw.f x1000 bt369.2.1 bt369.2.2 (([(-1001),(-1000),1,1000] : List Int))).bind fun bt375=>((Aaw.f x1000 bt375.2.1 bt375.2.2 (([0,1000,1001] : List Int))).bind fun bt381=>(if x5.length < 8796093022208 then (some ((x5 ++ [(⟨bt375.1,bt381.1⟩ : S62)]),bt381.2.1,bt381.2.2)) else (none)))) else (if bt369.1 = 1 then (Aam.l1 k ([] : List (S62)) x1000 bt369.2.1 bt369.2.2) else (some (x5,bt369.2.1,bt369.2.2)))))
def Aam.l1 : Nat → List (S62) → List Int → Int → Int → Option ((List (S62)) × Int × Int)
 | 0,_,_,_,_=>none
 | k + 1,x5,x1000,x1001,x1002=>(Aah.f x1000 x1001 x1002 2).bind fun bt387=>(if (x5.length : Int) < (wrap64 (10 + bt387.1)) then (if x5.length < 8796093022208 then (Aam.l1 k (x5 ++ [(⟨wrap64 ((x5.length : Int) / 2),3⟩ : S62)]) x1000 bt387.2.1 bt387.2.2) else (none)) else (some (x5,bt387.2.1,bt387.2.2)))
end
def Aam.f (k : Nat) (s0_0 : List Int) (s0_1 : Int) (s0_2 : Int) (a1 : Int) : Option ((List (S62)) × Int × Int) := (Aah.f s0_0 s0_1 s0_2 (wrap64 (a1 + 1))).bind fun bt357 => (Aam.l0 k ([] : List (S62)) bt357.1 s0_0 bt357.2.1 bt357.2.2)
set_option maxHeartbeats 8000000 in
set_option maxRecDepth 100000 in
theorem Aam.calls (k : Nat) (g : Nat) (s0_0 : List Int) (s0_1 : Int) (s0_2 : Int) (a1 : Int) (r1 : List (S62)) (r2 : Int) (r3 : Int) (w0 w : World) (hI : Aaa w0 w g s0_0 s0_1 s0_2) (hB : Below w0.heap.size w0 w) (h : Aam.f k s0_0 s0_1 s0_2 a1 = some (r1,r2,r3)) :
 Calls Tryd.prog 130 #[.pointer (some ⟨g,0,none⟩),.int .i64 a1] w fun e w'=>∃ v0_ : Value,e = .returned (v0_) ∧ Kd.R k62 62 w' w.heap.size (fun _=>True) v0_ r1 ∧ Aaa w0 w' g s0_0 r2 r3 ∧ Below w0.heap.size w0 w' ∧ KeepBut w w' g none:=by
 have hu62:=Tryd.underlying62;have HI0:=A_ hI;have HK:=A_ (KeepBut.refl w g none);have HL:=A_ hB.size;clear hI;have HW0:=A_ hB.size;have HB:=A_ hB;clear hB;have H : ((Aah.f s0_0 s0_1 s0_2 (wrap64 (a1 + 1))).bind fun Az=>(Aam.l0 k ([] : List (S62)) Az.1 s0_0 Az.2.1 Az.2.2)) = some (r1,r2,r3):=h;clear h;replace H:=Option.bind_eq_some_iff.mp H;obtain ⟨⟨Bf,Bg,Bh⟩,A30,H⟩:=H;replace H : (Aam.l0 k ([] : List (S62)) Bf s0_0 Bg Bh) = some (r1,r2,r3):=H;have A3:=A_ A30;clear A30;have H':=A_ H;clear H;go_enter Tryd.func130,Tryd.ntmps130
 go_wp2_with (first|((with_reducible refine gate_callee (f:=150) rfl ?_);refine goesL_ (some 11) rfl rfl Tryd.func150 (by kernel_rfl) rfl #[.pointer (some ⟨g,0,none⟩),.int .i64 (wrap64 (a1 + 1))] rfl au_ ?_;(with_reducible refine (Aah.calls g s0_0 s0_1 s0_2 (wrap64 (a1 + 1)) Bf Bg Bh w0 _ ?side1 ?side2 A3.out).mono ?_);(case side1=>exact is_);(case side2=>repeat (first|(with_reducible first|exact HB.out|apply below_alloc|apply pw_below_drewN|apply below_drew1|refine below_set ?_ (Aaa.ge HI0.out))|exact HB.out));rintro e w4 ⟨rfl,hi,hb,hk⟩;refine ⟨_,rfl,?_⟩;replace HK:=A_ (KeepBut.trans (by repeat (with_reducible first|exact HK.out|apply KeepBut.set_|apply keep_drewN|apply keep_drew|apply keep_alloc)) hk (.inl rfl));replace HB:=A_ (hb);replace HI0:=A_ (hi);(try clear hb);(try clear hb2);(try clear hk);(try clear hi)))
 go_loopg [5,6] k (fun kq v5 v6 w'=>∃ (x5_1 : List (S62)) (x6_1 : Int) (Aa : Int) (Ab : Int),v6 = .int .i64 x6_1 ∧ Aside0 (Aam.l0 kq x5_1 x6_1 s0_0 Aa Ab = some (r1,r2,r3)) ∧ Aside0 (kq ≤ k) ∧ Aside0 (Kd.R k62 62 w' w.heap.size (fun _=>True) v5 x5_1) ∧ Aside0 (Aaa w0 w' g s0_0 Aa Ab) ∧ Aside0 (KeepBut w w' g none) ∧ Aside0 (Below w0.heap.size w0 w'))
 case atStart=>exact ⟨(([] : List (S62))),(Bf),(Bg),(Bh),(by first|rfl|(simp;done)|(simp [*];done)),H',⟨Nat.le_refl _⟩,⟨by first|exact Kd.R_nil _ _ _ _ _|exact Kd.N_nil _ _ _ _ _|exact Kd.V_nil _ _ _ _ _|exact Kd.Q_nil _ _ _ _ _|exact Kd.S_nil _ _ _ _ _⟩,⟨is_⟩,⟨by repeat (first|(with_reducible first|exact HK.out|apply KeepBut.set_|apply keep_drewN|apply keep_drew|apply keep_alloc)|exact HK.out)⟩,⟨by repeat (first|(with_reducible first|exact HB.out|apply below_alloc|apply pw_below_drewN|apply below_drew1|refine below_set ?_ (Aaa.ge HI0.out))|exact HB.out)⟩⟩
 case round =>
  clear H';try clear c1
  try clear p2
  obtain ⟨x5_1,x6_1,Aa,Ab,rfl,HA,HK1,HO_5,HI0,HK,HB⟩:=hrel;cases gk with
  | zero => exact absurd HA.out (by simp [Aam.l0])
  | succ k1 =>
   have H:=HA.out;clear HA;simp only [Aam.l0] at H
   by_cases c5 : x6_1 > 0
   ·rw [if_pos c5] at H;have c5b0 : decide (0 < x6_1) = true:=decide_eq_true c5;clear c5;replace H:=Option.bind_eq_some_iff.mp H;obtain ⟨⟨Af,Ba,Bb⟩,A60,H⟩:=H;replace H : ((Aah.f s0_0 Ba Bb 4).bind fun Bc=>(if x5_1.length < 8796093022208 then (Aam.l0 k1 (x5_1 ++ [(⟨wrap64 (Af - 1),wrap64 ((wrap64 (Af - 1)) + Bc.1)⟩ : S62)]) (wrap64 (x6_1 - 1)) s0_0 Bc.2.1 Bc.2.2) else (none))) = some (r1,r2,r3):=H;have A6:=A_ A60;clear A60;replace H:=Option.bind_eq_some_iff.mp H;obtain ⟨⟨Au,Bd,Be⟩,A70,H⟩:=H;replace H : (if x5_1.length < 8796093022208 then (Aam.l0 k1 (x5_1 ++ [(⟨wrap64 (Af - 1),wrap64 ((wrap64 (Af - 1)) + Au)⟩ : S62)]) (wrap64 (x6_1 - 1)) s0_0 Bd Be) else (none)) = some (r1,r2,r3):=H;have A7:=A_ A70;clear A70;by_cases c8 : x5_1.length < 8796093022208
    ·rw [if_pos c8] at H;have LMc8:=A_ c8;clear c8;obtain ⟨Bo,Ap⟩ : ∃ y_ : List (S62),y_ = (x5_1 ++ [(⟨wrap64 (Af - 1),wrap64 ((wrap64 (Af - 1)) + Au)⟩ : S62)]):=⟨_,rfl⟩;replace H : (Aam.l0 k1 Bo (wrap64 (x6_1 - 1)) s0_0 Bd Be) = some (r1,r2,r3):=by first|(rw [Ap];with_reducible exact H)|(have H2_:=(Option.bind_some _ _).symm.trans H;rw [Ap];with_reducible exact H2_)|(have H2_:=(Option.bind_some _ _).symm.trans H;with_reducible exact H2_)|with_reducible exact H|(rw [Ap];exact H)|exact H
     have Bw:=A_ Ap;clear Ap;have H':=A_ H;clear H;go_wp2_with (first|((with_reducible refine gate_callee (f:=150) rfl ?_);refine goesL_ (some 17) rfl rfl Tryd.func150 (by kernel_rfl) rfl #[.pointer (some ⟨g,0,none⟩),.int .i64 8] rfl au_ ?_;(with_reducible refine (Aah.calls g s0_0 Aa Ab 8 Af Ba Bb w0 _ ?side1 ?side2 A6.out).mono ?_);(case side1=>exact is_);(case side2=>repeat (first|(with_reducible first|exact HB.out|apply below_alloc|apply pw_below_drewN|apply below_drew1|refine below_set ?_ (Aaa.ge HI0.out))|exact HB.out));rintro e w9 ⟨rfl,hi,hb,hk⟩;refine ⟨_,rfl,?_⟩;replace HO_5:=A_ (Kd.R_mono (Kd.R_keep (Aaa.apart (show Aaa w0 _ g s0_0 Aa Ab from is_) (rl_ HO_5) (by decide)) hk (fun _ h=>h.2)) (fun _ h=>h.1));replace HK:=A_ (KeepBut.trans (by repeat (with_reducible first|exact HK.out|apply KeepBut.set_|apply keep_drewN|apply keep_drew|apply keep_alloc)) hk (.inl rfl));replace HB:=A_ (hb);replace HI0:=A_ (hi);(try clear hb);(try clear hb2);(try clear hk);(try clear hi))|((with_reducible refine gate_callee (f:=150) rfl ?_);refine goesL_ (some 23) rfl rfl Tryd.func150 (by kernel_rfl) rfl #[.pointer (some ⟨g,0,none⟩),.int .i64 4] rfl au_ ?_;(with_reducible refine (Aah.calls g s0_0 Ba Bb 4 Au Bd Be w0 _ ?side1 ?side2 A7.out).mono ?_);(case side1=>exact is_);(case side2=>repeat (first|(with_reducible first|exact HB.out|apply below_alloc|apply pw_below_drewN|apply below_drew1|refine below_set ?_ (Aaa.ge HI0.out))|exact HB.out));rintro e w10 ⟨rfl,hi,hb,hk⟩;refine ⟨_,rfl,?_⟩;replace HO_5:=A_ (Kd.R_mono (Kd.R_keep (Aaa.apart (show Aaa w0 _ g s0_0 Ba Bb from is_) (rl_ HO_5) (by decide)) hk (fun _ h=>h.2)) (fun _ h=>h.1));replace HK:=A_ (KeepBut.trans (by repeat (with_reducible first|exact HK.out|apply KeepBut.set_|apply keep_drewN|apply keep_drew|apply keep_alloc)) hk (.inl rfl));replace HB:=A_ (hb);replace HI0:=A_ (hi);(try clear hb);(try clear hb2);(try clear hk);(try clear hi))|((with_reducible refine gate_builtin (b:=.append) (xs:=#[.tmp 19,.tmp 26]) rfl ?_);at_builtin;refine Kd.R_append k62 w.heap.size rfl (.tmp 19) (.tmp 26) 52 62 (.agg #[(.int .i64 0),(.int .i64 0)]) 16 rfl Tryd.underlying52 info62 rfl (by decide) (by omega) u5 x5_1 (⟨wrap64 (Af - 1),wrap64 ((wrap64 (Af - 1)) + Au)⟩ : S62) [.int .i64 (wrap64 (Af - 1)),.int .i64 (wrap64 ((wrap64 (Af - 1)) + Au))] (fun _=>True) (fun _=>False) rfl rfl ?aP (fun _ hk=>hk.elim) ?aF ?aO (Below.refl _ _) ?aS ?aL ?_;(case aP=>exact k62_mkM _ _ _ (⟨wrap64 (Af - 1),wrap64 ((wrap64 (Af - 1)) + Au)⟩ : S62));(case aF=>exact (fun _ _=>trivial));(case aO=>exact (rl_ HO_5));(case aS=>exact (keep_size (w:=w) (g:=g) (row:=none) (by repeat (with_reducible first|exact HK.out|apply KeepBut.set_|apply keep_drewN|apply keep_drew|apply keep_alloc))));(case aL=>have:=LMc8.out;omega);intro B6 w11 ho hb hg hat;rw [← Bw.out] at ho;replace HB:=A_ (below_weaken (by repeat (with_reducible first|exact HB.out|apply below_alloc|apply pw_below_drewN|apply below_drew1|refine below_set ?_ (Aaa.ge HI0.out))) HL.out hb);replace HI0:=A_ (Aaa.grown (is_) hg (Aaa.own_ne HI0.out HO_5.out (by decide)));replace HK:=A_ (KeepBut.trans (by repeat (with_reducible first|exact HK.out|apply KeepBut.set_|apply keep_drewN|apply keep_drew|apply keep_alloc)) (KeepBut.of_grown hg g) (Kd.R_base2 HO_5.out));have Bx:=A_ (ho);clear HO_5;clear ho hb hg hat))
     go_roundg k1
     case measure=>have:=HK1.out;omega
     case rel=>exact ⟨(Bo),(wrap64 (x6_1 - 1)),(Bd),(Be),(by first|rfl|(simp;done)|(simp [*];done)),H',⟨by have:=HK1.out;omega⟩,⟨rl_ Bx⟩,⟨is_⟩,⟨by repeat (first|(with_reducible first|exact HK.out|apply KeepBut.set_|apply keep_drewN|apply keep_drew|apply keep_alloc)|exact HK.out)⟩,⟨by repeat (first|(with_reducible first|exact HB.out|apply below_alloc|apply pw_below_drewN|apply below_drew1|refine below_set ?_ (Aaa.ge HI0.out))|exact HB.out)⟩⟩
    ·rw [if_neg c8] at H;exact absurd H (by simp)
   ·rw [if_neg c5] at H;have c5b0 : decide (0 < x6_1) = false:=decide_eq_false c5;clear c5;replace H:=Option.bind_eq_some_iff.mp H;obtain ⟨⟨Ae,Ai,Aj⟩,Bp,H⟩:=H;replace H : (if Ae = 0 then ((Aaw.f s0_0 Ai Aj (([(-1001),(-1000),1,1000] : List Int))).bind fun Al=>((Aaw.f s0_0 Al.2.1 Al.2.2 (([0,1000,1001] : List Int))).bind fun Ac=>(if x5_1.length < 8796093022208 then (some ((x5_1 ++ [(⟨Al.1,Ac.1⟩ : S62)]),Ac.2.1,Ac.2.2)) else (none)))) else (if Ae = 1 then (Aam.l1 k1 ([] : List (S62)) s0_0 Ai Aj) else (some (x5_1,Ai,Aj)))) = some (r1,r2,r3):=H;have A12:=A_ Bp;clear Bp;by_cases c13 : Ae = 0
    ·rw [if_pos c13] at H;have c13b0 : (Ae == 0) = true:=beq_iff_eq.mpr c13;have c13b1 : (Ae != 0) = false:=bne_eq_false_iff_eq.mpr c13;clear c13;obtain ⟨Bi,Aq⟩ : ∃ y_ : List Int,y_ = (([(-1001),(-1000),1,1000] : List Int)):=⟨_,rfl⟩;replace H : ((Aaw.f s0_0 Ai Aj Bi).bind fun Al=>((Aaw.f s0_0 Al.2.1 Al.2.2 (([0,1000,1001] : List Int))).bind fun Ac=>(if x5_1.length < 8796093022208 then (some ((x5_1 ++ [(⟨Al.1,Ac.1⟩ : S62)]),Ac.2.1,Ac.2.2)) else (none)))) = some (r1,r2,r3):=by first|(rw [Aq];with_reducible exact H)|(have H2_:=(Option.bind_some _ _).symm.trans H;rw [Aq];with_reducible exact H2_)|(have H2_:=(Option.bind_some _ _).symm.trans H;with_reducible exact H2_)|with_reducible exact H|(rw [Aq];exact H)|exact H
     have Bm:=A_ Aq;clear Aq;replace H:=Option.bind_eq_some_iff.mp H;obtain ⟨⟨Am,An,Ao⟩,Bq,H⟩:=H;replace H : ((Aaw.f s0_0 An Ao (([0,1000,1001] : List Int))).bind fun Ac=>(if x5_1.length < 8796093022208 then (some ((x5_1 ++ [(⟨Am,Ac.1⟩ : S62)]),Ac.2.1,Ac.2.2)) else (none))) = some (r1,r2,r3):=H;have A14:=A_ Bq;clear Bq;obtain ⟨Bj,Ar⟩ : ∃ y_ : List Int,y_ = (([0,1000,1001] : List Int)):=⟨_,rfl⟩;replace H : ((Aaw.f s0_0 An Ao Bj).bind fun Ac=>(if x5_1.length < 8796093022208 then (some ((x5_1 ++ [(⟨Am,Ac.1⟩ : S62)]),Ac.2.1,Ac.2.2)) else (none))) = some (r1,r2,r3):=by first|(rw [Ar];with_reducible exact H)|(have H2_:=(Option.bind_some _ _).symm.trans H;rw [Ar];with_reducible exact H2_)|(have H2_:=(Option.bind_some _ _).symm.trans H;with_reducible exact H2_)|with_reducible exact H|(rw [Ar];exact H)|exact H
     have Bn:=A_ Ar;clear Ar;replace H:=Option.bind_eq_some_iff.mp H;obtain ⟨⟨Av,Bk,Bl⟩,Br,H⟩:=H;replace H : (if x5_1.length < 8796093022208 then (some ((x5_1 ++ [(⟨Am,Av⟩ : S62)]),Bk,Bl)) else (none)) = some (r1,r2,r3):=H;have A15:=A_ Br;clear Br;by_cases c16 : x5_1.length < 8796093022208
     ·rw [if_pos c16] at H;have LMc16:=A_ c16;clear c16;obtain ⟨B4,As⟩ : ∃ y_ : List (S62),y_ = (x5_1 ++ [(⟨Am,Av⟩ : S62)]):=⟨_,rfl⟩;replace H : (some (B4,Bk,Bl)) = some (r1,r2,r3):=by first|(rw [As];with_reducible exact H)|(have H2_:=(Option.bind_some _ _).symm.trans H;rw [As];with_reducible exact H2_)|(have H2_:=(Option.bind_some _ _).symm.trans H;with_reducible exact H2_)|with_reducible exact H|(rw [As];exact H)|exact H
      have Bz:=A_ As;clear As;simp only [Option.some.injEq,Prod.mk.injEq] at H
      obtain ⟨rfl,rfl,rfl⟩:=H;go_wp2_with (first|((with_reducible refine gate_callee (f:=150) rfl ?_);refine goesL_ (some 29) rfl rfl Tryd.func150 (by kernel_rfl) rfl #[.pointer (some ⟨g,0,none⟩),.int .i64 14] rfl au_ ?_;(with_reducible refine (Aah.calls g s0_0 Aa Ab 14 Ae Ai Aj w0 _ ?side1 ?side2 A12.out).mono ?_);(case side1=>exact is_);(case side2=>repeat (first|(with_reducible first|exact HB.out|apply below_alloc|apply pw_below_drewN|apply below_drew1|refine below_set ?_ (Aaa.ge HI0.out))|exact HB.out));rintro e w17 ⟨rfl,hi,hb,hk⟩;refine ⟨_,rfl,?_⟩;replace HO_5:=A_ (Kd.R_mono (Kd.R_keep (Aaa.apart (show Aaa w0 _ g s0_0 Aa Ab from is_) (rl_ HO_5) (by decide)) hk (fun _ h=>h.2)) (fun _ h=>h.1));replace HK:=A_ (KeepBut.trans (by repeat (with_reducible first|exact HK.out|apply KeepBut.set_|apply keep_drewN|apply keep_drew|apply keep_alloc)) hk (.inl rfl));replace HB:=A_ (hb);replace HI0:=A_ (hi);(try clear hb);(try clear hb2);(try clear hk);(try clear hi))|((with_reducible refine gate_dst (N:=34) rfl ?_);refine Kd.R_lit (Kd.int .i64) _ 3 ?hg (N:=34) ?hd (xs:=([(-1001),(-1000),1,1000] : List Int)) (inner:=[.int .i64 (-1001),.int .i64 (-1000),.int .i64 1,.int .i64 1000]) (ok:=fun _=>True) (okp:=fun _=>True) ?hr ?hp (fun _ hk=>hk) trivial (Below.refl _ _) (Nat.le_refl _) (by simp) ?_;(case hd=>rfl);(case hg=>rfl);(case hr=>go_simp;try rfl);(case hp=>exact (Reps.one (show Kd.M (Kd.int .i64) _ _ _ (-1001) [.int .i64 (-1001)] from rfl) (Reps.one (show Kd.M (Kd.int .i64) _ _ _ (-1000) [.int .i64 (-1000)] from rfl) (Reps.one (show Kd.M (Kd.int .i64) _ _ _ 1 [.int .i64 1] from rfl) (Reps.one (show Kd.M (Kd.int .i64) _ _ _ 1000 [.int .i64 1000] from rfl) (Reps.none _ _))))));intro B7 w18 ho19 hb hg_ hnew_;clear hg_ hnew_;(first|rw [← Bm.out] at ho19|(simp only [Int.reduceToNat] at ho19;rw [← Bm.out] at ho19));replace HO_5:=rb_ HO_5 hb;have Ad:=A_ (Kd.R_lower ho19 (keep_size (w:=w) (g:=g) (row:=none) (by repeat (with_reducible first|exact HK.out|apply KeepBut.set_|apply keep_drewN|apply keep_drew|apply keep_alloc))));replace HK:=A_ (KeepBut.trans (by repeat (with_reducible first|exact HK.out|apply KeepBut.set_|apply keep_drewN|apply keep_drew|apply keep_alloc)) (KeepBut.of_below hb g none) (.inl rfl));replace HB:=A_ (below_step (by repeat (with_reducible first|exact HB.out|apply below_alloc|apply pw_below_drewN|apply below_drew1|refine below_set ?_ (Aaa.ge HI0.out))) hb);replace HI0:=A_ (Aaa.below (is_) hb);clear hb ho19;obtain ⟨Ao20,co20,eo20⟩:=Kd.R_slice Ad.out;subst eo20)|((with_reducible refine gate_callee (f:=125) rfl ?_);refine goesL_ (some 35) rfl rfl Tryd.func125 (by kernel_rfl) rfl #[.pointer (some ⟨g,0,none⟩),.slice Ao20 Bi.length co20] rfl au_ ?_;(with_reducible refine (Aaw.calls g s0_0 Ai Aj _ _ Bi Am An Ao w0 _ ?side1 ?side2 ?side3 ?side4 ?side5 A14.out).mono ?_);(case side1=>exact is_);(case side2=>repeat (first|(with_reducible first|exact HB.out|apply below_alloc|apply pw_below_drewN|apply below_drew1|refine below_set ?_ (Aaa.ge HI0.out))|exact HB.out));(case side3=>exact cl_ (Kd.R_reads' Ad.out).2.2);(case side4=>exact (Kd.R_reads' Ad.out).2.1);(case side5=>exact far_slice (Aaa.own_ne HI0.out Ad.out (by decide)));rintro e w21 ⟨rfl,hi,hb,hk⟩;refine ⟨_,rfl,?_⟩;replace HO_5:=A_ (Kd.R_mono (Kd.R_keep (Aaa.apart (show Aaa w0 _ g s0_0 Ai Aj from is_) (rl_ HO_5) (by decide)) hk (fun _ h=>h.2)) (fun _ h=>h.1));replace Ad:=A_ (Kd.R_mono (Kd.R_keep (Aaa.apart (show Aaa w0 _ g s0_0 Ai Aj from is_) (rl_ Ad) (by decide)) hk (fun _ h=>h.2)) (fun _ h=>h.1));replace HK:=A_ (KeepBut.trans (by repeat (with_reducible first|exact HK.out|apply KeepBut.set_|apply keep_drewN|apply keep_drew|apply keep_alloc)) hk (.inl rfl));replace HB:=A_ (hb);replace HI0:=A_ (hi);(try clear hb);(try clear hb2);(try clear hk);(try clear hi))|((with_reducible refine gate_dst (N:=37) rfl ?_);refine Kd.R_lit (Kd.int .i64) _ 3 ?hg (N:=37) ?hd (xs:=([0,1000,1001] : List Int)) (inner:=[.int .i64 0,.int .i64 1000,.int .i64 1001]) (ok:=fun _=>True) (okp:=fun _=>True) ?hr ?hp (fun _ hk=>hk) trivial (Below.refl _ _) (Nat.le_refl _) (by simp) ?_;(case hd=>rfl);(case hg=>rfl);(case hr=>go_simp;try rfl);(case hp=>exact (Reps.one (show Kd.M (Kd.int .i64) _ _ _ 0 [.int .i64 0] from rfl) (Reps.one (show Kd.M (Kd.int .i64) _ _ _ 1000 [.int .i64 1000] from rfl) (Reps.one (show Kd.M (Kd.int .i64) _ _ _ 1001 [.int .i64 1001] from rfl) (Reps.none _ _)))));intro B8 w22 ho23 hb hg_ hnew_;clear hg_ hnew_;(first|rw [← Bn.out] at ho23|(simp only [Int.reduceToNat] at ho23;rw [← Bn.out] at ho23));replace HO_5:=rb_ HO_5 hb;have Ak:=A_ (Kd.R_lower (Kd.R_new' ho23 (Kd.R_lt (rl_ Ad))) (keep_size (w:=w) (g:=g) (row:=none) (by repeat (with_reducible first|exact HK.out|apply KeepBut.set_|apply keep_drewN|apply keep_drew|apply keep_alloc))));replace Ad:=A_ (Kd.R_elder' (rl_ Ad) (Kd.R_base ho23) hb);replace HK:=A_ (KeepBut.trans (by repeat (with_reducible first|exact HK.out|apply KeepBut.set_|apply keep_drewN|apply keep_drew|apply keep_alloc)) (KeepBut.of_below hb g none) (.inl rfl));replace HB:=A_ (below_step (by repeat (with_reducible first|exact HB.out|apply below_alloc|apply pw_below_drewN|apply below_drew1|refine below_set ?_ (Aaa.ge HI0.out))) hb);replace HI0:=A_ (Aaa.below (is_) hb);clear hb ho23;obtain ⟨Ao24,co24,eo24⟩:=Kd.R_slice Ak.out;subst eo24)|((with_reducible refine gate_callee (f:=125) rfl ?_);refine goesL_ (some 38) rfl rfl Tryd.func125 (by kernel_rfl) rfl #[.pointer (some ⟨g,0,none⟩),.slice Ao24 Bj.length co24] rfl au_ ?_;(with_reducible refine (Aaw.calls g s0_0 An Ao _ _ Bj Av Bk Bl w0 _ ?side1 ?side2 ?side3 ?side4 ?side5 A15.out).mono ?_);(case side1=>exact is_);(case side2=>repeat (first|(with_reducible first|exact HB.out|apply below_alloc|apply pw_below_drewN|apply below_drew1|refine below_set ?_ (Aaa.ge HI0.out))|exact HB.out));(case side3=>exact cl_ (Kd.R_reads' Ak.out).2.2);(case side4=>exact (Kd.R_reads' Ak.out).2.1);(case side5=>exact far_slice (Aaa.own_ne HI0.out Ak.out (by decide)));rintro e w25 ⟨rfl,hi,hb,hk⟩;refine ⟨_,rfl,?_⟩;replace HO_5:=A_ (Kd.R_mono (Kd.R_keep (Aaa.apart (show Aaa w0 _ g s0_0 An Ao from is_) (rl_ HO_5) (by decide)) hk (fun _ h=>h.2)) (fun _ h=>h.1));replace Ad:=A_ (Kd.R_mono (Kd.R_keep (Aaa.apart (show Aaa w0 _ g s0_0 An Ao from is_) (rl_ Ad) (by decide)) hk (fun _ h=>h.2)) (fun _ h=>h.1));replace Ak:=A_ (Kd.R_mono (Kd.R_keep (Aaa.apart (show Aaa w0 _ g s0_0 An Ao from is_) (rl_ Ak) (by decide)) hk (fun _ h=>h.2)) (fun _ h=>h.1));replace HK:=A_ (KeepBut.trans (by repeat (with_reducible first|exact HK.out|apply KeepBut.set_|apply keep_drewN|apply keep_drew|apply keep_alloc)) hk (.inl rfl));replace HB:=A_ (hb);replace HI0:=A_ (hi);(try clear hb);(try clear hb2);(try clear hk);(try clear hi))|((with_reducible refine gate_builtin (b:=.append) (xs:=#[.tmp 32,.tmp 40]) rfl ?_);at_builtin;refine Kd.R_append k62 w.heap.size rfl (.tmp 32) (.tmp 40) 52 62 (.agg #[(.int .i64 0),(.int .i64 0)]) 16 rfl Tryd.underlying52 info62 rfl (by decide) (by omega) u5 x5_1 (⟨Am,Av⟩ : S62) [.int .i64 Am,.int .i64 Av] (fun _=>True) (fun _=>False) rfl rfl ?aP (fun _ hk=>hk.elim) ?aF ?aO (Below.refl _ _) ?aS ?aL ?_;(case aP=>exact k62_mkM _ _ _ (⟨Am,Av⟩ : S62));(case aF=>exact (fun _ _=>trivial));(case aO=>exact (rl_ HO_5));(case aS=>exact (keep_size (w:=w) (g:=g) (row:=none) (by repeat (with_reducible first|exact HK.out|apply KeepBut.set_|apply keep_drewN|apply keep_drew|apply keep_alloc))));(case aL=>have:=LMc16.out;omega);intro Ca w26 ho hb hg hat;rw [← Bz.out] at ho;replace Ad:=A_ (Kd.R_over' (rl_ Ad) (Kd.R_typed (rl_ HO_5)) (by decide) hg);replace Ak:=A_ (Kd.R_over' (rl_ Ak) (Kd.R_typed (rl_ HO_5)) (by decide) hg);replace HB:=A_ (below_weaken (by repeat (with_reducible first|exact HB.out|apply below_alloc|apply pw_below_drewN|apply below_drew1|refine below_set ?_ (Aaa.ge HI0.out))) HL.out hb);replace HI0:=A_ (Aaa.grown (is_) hg (Aaa.own_ne HI0.out HO_5.out (by decide)));replace HK:=A_ (KeepBut.trans (by repeat (with_reducible first|exact HK.out|apply KeepBut.set_|apply keep_drewN|apply keep_drew|apply keep_alloc)) (KeepBut.of_grown hg g) (Kd.R_base2 HO_5.out));have B0:=A_ (ho);clear HO_5;clear ho hb hg hat))
      go_ret
      exact ⟨_,by first|rfl|(simp [errW_none,errW_some] <;> rfl)|(simp [*,errW_none,errW_some] <;> rfl),rl_ B0,is_,by repeat (first|(with_reducible first|exact HB.out|apply below_alloc|apply pw_below_drewN|apply below_drew1|refine below_set ?_ (Aaa.ge HI0.out))|exact HB.out),by repeat (first|(with_reducible first|exact HK.out|apply KeepBut.set_|apply keep_drewN|apply keep_drew|apply keep_alloc)|exact HK.out)⟩
     ·rw [if_neg c16] at H;exact absurd H (by simp)
    ·rw [if_neg c13] at H;have c13b0 : (Ae == 0) = false:=beq_eq_false_iff_ne.mpr c13;have c13b1 : (Ae != 0) = true:=bne_iff_ne.mpr c13;by_cases c27 : Ae = 1
     ·rw [if_pos c27] at H;have c27b0 : (Ae == 1) = true:=beq_iff_eq.mpr c27;have c27b1 : (Ae != 1) = false:=bne_eq_false_iff_eq.mpr c27;clear c27;have H':=A_ H;clear H;go_wp2_with (first|((with_reducible refine gate_callee (f:=150) rfl ?_);refine goesL_ (some 29) rfl rfl Tryd.func150 (by kernel_rfl) rfl #[.pointer (some ⟨g,0,none⟩),.int .i64 14] rfl au_ ?_;(with_reducible refine (Aah.calls g s0_0 Aa Ab 14 Ae Ai Aj w0 _ ?side1 ?side2 A12.out).mono ?_);(case side1=>exact is_);(case side2=>repeat (first|(with_reducible first|exact HB.out|apply below_alloc|apply pw_below_drewN|apply below_drew1|refine below_set ?_ (Aaa.ge HI0.out))|exact HB.out));rintro e w28 ⟨rfl,hi,hb,hk⟩;refine ⟨_,rfl,?_⟩;replace HO_5:=A_ (Kd.R_mono (Kd.R_keep (Aaa.apart (show Aaa w0 _ g s0_0 Aa Ab from is_) (rl_ HO_5) (by decide)) hk (fun _ h=>h.2)) (fun _ h=>h.1));replace HK:=A_ (KeepBut.trans (by repeat (with_reducible first|exact HK.out|apply KeepBut.set_|apply keep_drewN|apply keep_drew|apply keep_alloc)) hk (.inl rfl));replace HB:=A_ (hb);replace HI0:=A_ (hi);(try clear hb);(try clear hb2);(try clear hk);(try clear hi)))
      go_loopg [5] k1 (fun kq v5 w'=>∃ (x5_2 : List (S62)) (Ag : Int) (Ah : Int),Aside0 (Aam.l1 kq x5_2 s0_0 Ag Ah = some (r1,r2,r3)) ∧ Aside0 (kq ≤ k1) ∧ Aside0 (Kd.R k62 62 w' w.heap.size (fun _=>True) v5 x5_2) ∧ Aside0 (Aaa w0 w' g s0_0 Ag Ah) ∧ Aside0 (KeepBut w w' g none) ∧ Aside0 (Below w0.heap.size w0 w'))
      case atStart=>exact ⟨(([] : List (S62))),(Ai),(Aj),H',⟨Nat.le_refl _⟩,⟨by first|exact Kd.R_nil _ _ _ _ _|exact Kd.N_nil _ _ _ _ _|exact Kd.V_nil _ _ _ _ _|exact Kd.Q_nil _ _ _ _ _|exact Kd.S_nil _ _ _ _ _⟩,⟨is_⟩,⟨by repeat (first|(with_reducible first|exact HK.out|apply KeepBut.set_|apply keep_drewN|apply keep_drew|apply keep_alloc)|exact HK.out)⟩,⟨by repeat (first|(with_reducible first|exact HB.out|apply below_alloc|apply pw_below_drewN|apply below_drew1|refine below_set ?_ (Aaa.ge HI0.out))|exact HB.out)⟩⟩
      case round =>
       clear H';try clear c1
       try clear c2
       try clear p2
       try clear c5
       try clear c5b0
       try clear p6
       try clear c8
       try clear c12
       try clear c13
       try clear c13b0
       try clear c13b1
       try clear c15
       try clear c16
       try clear c27
       try clear c27b0
       try clear c27b1
       try clear p2
       obtain ⟨x5_2,Ag,Ah,HA,HK2,HO_5,HI0,HK,HB⟩:=hrel;cases gk with
       | zero=>exact absurd HA.out (by simp [Aam.l1])
       | succ k2 =>
        have H:=HA.out;clear HA;simp only [Aam.l1] at H
        replace H:=Option.bind_eq_some_iff.mp H;obtain ⟨⟨Aw,Ax,Ay⟩,Bt,H⟩:=H;replace H : (if (x5_2.length : Int) < (wrap64 (10 + Aw)) then (if x5_2.length < 8796093022208 then (Aam.l1 k2 (x5_2 ++ [(⟨wrap64 ((x5_2.length : Int) / 2),3⟩ : S62)]) s0_0 Ax Ay) else (none)) else (some (x5_2,Ax,Ay))) = some (r1,r2,r3):=H;have A29:=A_ Bt;clear Bt;by_cases c30 : (x5_2.length : Int) < (wrap64 (10 + Aw))
        ·rw [if_pos c30] at H;have c30b0 : decide ((x5_2.length : Int) < (wrap64 (10 + Aw))) = true:=decide_eq_true c30;clear c30;by_cases c31 : x5_2.length < 8796093022208
         ·rw [if_pos c31] at H;have LMc31:=A_ c31;clear c31;obtain ⟨Bu,At⟩ : ∃ y_ : List (S62),y_ = (x5_2 ++ [(⟨wrap64 ((x5_2.length : Int) / 2),3⟩ : S62)]):=⟨_,rfl⟩;replace H : (Aam.l1 k2 Bu s0_0 Ax Ay) = some (r1,r2,r3):=by first|(rw [At];with_reducible exact H)|(have H2_:=(Option.bind_some _ _).symm.trans H;rw [At];with_reducible exact H2_)|(have H2_:=(Option.bind_some _ _).symm.trans H;with_reducible exact H2_)|with_reducible exact H|(rw [At];exact H)|exact H
          have B1:=A_ At;clear At;have H':=A_ H;clear H;obtain ⟨Ao32,co32,eo32⟩:=Kd.R_slice HO_5.out;subst eo32;go_wp2_with (first|((with_reducible refine gate_callee (f:=150) rfl ?_);refine goesL_ (some 47) rfl rfl Tryd.func150 (by kernel_rfl) rfl #[.pointer (some ⟨g,0,none⟩),.int .i64 2] rfl au_ ?_;(with_reducible refine (Aah.calls g s0_0 Ag Ah 2 Aw Ax Ay w0 _ ?side1 ?side2 A29.out).mono ?_);(case side1=>exact is_);(case side2=>repeat (first|(with_reducible first|exact HB.out|apply below_alloc|apply pw_below_drewN|apply below_drew1|refine below_set ?_ (Aaa.ge HI0.out))|exact HB.out));rintro e w33 ⟨rfl,hi,hb,hk⟩;refine ⟨_,rfl,?_⟩;replace HO_5:=A_ (Kd.R_mono (Kd.R_keep (Aaa.apart (show Aaa w0 _ g s0_0 Ag Ah from is_) (rl_ HO_5) (by decide)) hk (fun _ h=>h.2)) (fun _ h=>h.1));replace HK:=A_ (KeepBut.trans (by repeat (with_reducible first|exact HK.out|apply KeepBut.set_|apply keep_drewN|apply keep_drew|apply keep_alloc)) hk (.inl rfl));replace HB:=A_ (hb);replace HI0:=A_ (hi);(try clear hb);(try clear hb2);(try clear hk);(try clear hi))|((with_reducible refine gate_builtin (b:=.append) (xs:=#[.tmp 50,.tmp 55]) rfl ?_);at_builtin;refine Kd.R_append k62 w.heap.size rfl (.tmp 50) (.tmp 55) 52 62 (.agg #[(.int .i64 0),(.int .i64 0)]) 16 rfl Tryd.underlying52 info62 rfl (by decide) (by omega) (.slice Ao32 x5_2.length co32) x5_2 (⟨wrap64 ((x5_2.length : Int) / 2),3⟩ : S62) [.int .i64 (wrap64 ((x5_2.length : Int) / 2)),.int .i64 3] (fun _=>True) (fun _=>False) rfl rfl ?aP (fun _ hk=>hk.elim) ?aF ?aO (Below.refl _ _) ?aS ?aL ?_;(case aP=>exact k62_mkM _ _ _ (⟨wrap64 ((x5_2.length : Int) / 2),3⟩ : S62));(case aF=>exact (fun _ _=>trivial));(case aO=>exact (rl_ HO_5));(case aS=>exact (keep_size (w:=w) (g:=g) (row:=none) (by repeat (with_reducible first|exact HK.out|apply KeepBut.set_|apply keep_drewN|apply keep_drew|apply keep_alloc))));(case aL=>have:=LMc31.out;omega);intro Cb w34 ho hb hg hat;rw [← B1.out] at ho;replace HB:=A_ (below_weaken (by repeat (with_reducible first|exact HB.out|apply below_alloc|apply pw_below_drewN|apply below_drew1|refine below_set ?_ (Aaa.ge HI0.out))) HL.out hb);replace HI0:=A_ (Aaa.grown (is_) hg (Aaa.own_ne HI0.out HO_5.out (by decide)));replace HK:=A_ (KeepBut.trans (by repeat (with_reducible first|exact HK.out|apply KeepBut.set_|apply keep_drewN|apply keep_drew|apply keep_alloc)) (KeepBut.of_grown hg g) (Kd.R_base2 HO_5.out));have B2:=A_ (ho);clear HO_5;clear ho hb hg hat))
          go_roundg k2
          case measure=>have:=HK1.out;have:=HK2.out;omega
          case rel=>exact ⟨(Bu),(Ax),(Ay),H',⟨by have:=HK1.out;have:=HK2.out;omega⟩,⟨rl_ B2⟩,⟨is_⟩,⟨by repeat (first|(with_reducible first|exact HK.out|apply KeepBut.set_|apply keep_drewN|apply keep_drew|apply keep_alloc)|exact HK.out)⟩,⟨by repeat (first|(with_reducible first|exact HB.out|apply below_alloc|apply pw_below_drewN|apply below_drew1|refine below_set ?_ (Aaa.ge HI0.out))|exact HB.out)⟩⟩
         ·rw [if_neg c31] at H;exact absurd H (by simp)
        ·rw [if_neg c30] at H;have c30b0 : decide ((x5_2.length : Int) < (wrap64 (10 + Aw))) = false:=decide_eq_false c30;clear c30;simp only [Option.some.injEq,Prod.mk.injEq] at H
         obtain ⟨rfl,rfl,rfl⟩:=H;obtain ⟨Ao35,co35,eo35⟩:=Kd.R_slice HO_5.out;subst eo35;go_wp2_with (first|((with_reducible refine gate_callee (f:=150) rfl ?_);refine goesL_ (some 47) rfl rfl Tryd.func150 (by kernel_rfl) rfl #[.pointer (some ⟨g,0,none⟩),.int .i64 2] rfl au_ ?_;(with_reducible refine (Aah.calls g s0_0 Ag Ah 2 Aw Ax Ay w0 _ ?side1 ?side2 A29.out).mono ?_);(case side1=>exact is_);(case side2=>repeat (first|(with_reducible first|exact HB.out|apply below_alloc|apply pw_below_drewN|apply below_drew1|refine below_set ?_ (Aaa.ge HI0.out))|exact HB.out));rintro e w36 ⟨rfl,hi,hb,hk⟩;refine ⟨_,rfl,?_⟩;replace HO_5:=A_ (Kd.R_mono (Kd.R_keep (Aaa.apart (show Aaa w0 _ g s0_0 Ag Ah from is_) (rl_ HO_5) (by decide)) hk (fun _ h=>h.2)) (fun _ h=>h.1));replace HK:=A_ (KeepBut.trans (by repeat (with_reducible first|exact HK.out|apply KeepBut.set_|apply keep_drewN|apply keep_drew|apply keep_alloc)) hk (.inl rfl));replace HB:=A_ (hb);replace HI0:=A_ (hi);(try clear hb);(try clear hb2);(try clear hk);(try clear hi)))
         go_ret
         exact ⟨_,by first|rfl|(simp [errW_none,errW_some] <;> rfl)|(simp [*,errW_none,errW_some] <;> rfl),rl_ HO_5,is_,by repeat (first|(with_reducible first|exact HB.out|apply below_alloc|apply pw_below_drewN|apply below_drew1|refine below_set ?_ (Aaa.ge HI0.out))|exact HB.out),by repeat (first|(with_reducible first|exact HK.out|apply KeepBut.set_|apply keep_drewN|apply keep_drew|apply keep_alloc)|exact HK.out)⟩
     ·rw [if_neg c27] at H;have c27b0 : (Ae == 1) = false:=beq_eq_false_iff_ne.mpr c27;have c27b1 : (Ae != 1) = true:=bne_iff_ne.mpr c27;simp only [Option.some.injEq,Prod.mk.injEq] at H
      obtain ⟨rfl,rfl,rfl⟩:=H;go_wp2_with (first|((with_reducible refine gate_callee (f:=150) rfl ?_);refine goesL_ (some 29) rfl rfl Tryd.func150 (by kernel_rfl) rfl #[.pointer (some ⟨g,0,none⟩),.int .i64 14] rfl au_ ?_;(with_reducible refine (Aah.calls g s0_0 Aa Ab 14 Ae Ai Aj w0 _ ?side1 ?side2 A12.out).mono ?_);(case side1=>exact is_);(case side2=>repeat (first|(with_reducible first|exact HB.out|apply below_alloc|apply pw_below_drewN|apply below_drew1|refine below_set ?_ (Aaa.ge HI0.out))|exact HB.out));rintro e w37 ⟨rfl,hi,hb,hk⟩;refine ⟨_,rfl,?_⟩;replace HO_5:=A_ (Kd.R_mono (Kd.R_keep (Aaa.apart (show Aaa w0 _ g s0_0 Aa Ab from is_) (rl_ HO_5) (by decide)) hk (fun _ h=>h.2)) (fun _ h=>h.1));replace HK:=A_ (KeepBut.trans (by repeat (with_reducible first|exact HK.out|apply KeepBut.set_|apply keep_drewN|apply keep_drew|apply keep_alloc)) hk (.inl rfl));replace HB:=A_ (hb);replace HI0:=A_ (hi);(try clear hb);(try clear hb2);(try clear hk);(try clear hi)))
      go_ret
      exact ⟨_,by first|rfl|(simp [errW_none,errW_some] <;> rfl)|(simp [*,errW_none,errW_some] <;> rfl),rl_ HO_5,is_,by repeat (first|(with_reducible first|exact HB.out|apply below_alloc|apply pw_below_drewN|apply below_drew1|refine below_set ?_ (Aaa.ge HI0.out))|exact HB.out),by repeat (first|(with_reducible first|exact HK.out|apply KeepBut.set_|apply keep_drewN|apply keep_drew|apply keep_alloc)|exact HK.out)⟩
def Abf.f (a0 : Int) (a1 : Int) (a2 : Int) : Option (Bool) := if a0 ≥ a1 then (some (decide (a0 ≤ a2))) else (some false)
set_option maxHeartbeats 8000000 in
set_option maxRecDepth 100000 in
theorem Abf.calls (a0 : Int) (a1 : Int) (a2 : Int) (r : Bool) (w : World) (h : Abf.f a0 a1 a2 = some r) :
 Calls Tryd.prog 127 #[.int .i64 a0,.int .i64 a1,.int .i64 a2] w fun e w'=>e = .returned (.bool r) ∧ Drawn0 w w':=by
 have H : (if a0 ≥ a1 then (some (decide (a0 ≤ a2))) else (some false)) = some r:=h;clear h;by_cases c4 : a0 ≥ a1
 ·rw [if_pos c4] at H;have c4b0 : decide (a1 ≤ a0) = true:=decide_eq_true c4;clear c4;obtain rfl:=Option.some.inj H;go_enter Tryd.func127,Tryd.ntmps127
  go_wp2
  go_ret
  exact ⟨by first|rfl|(simp;done)|(simp [*];done),by repeat (first|exact Drawn0.refl _|apply Drawn0.step)⟩
 ·rw [if_neg c4] at H;have c4b0 : decide (a1 ≤ a0) = false:=decide_eq_false c4;clear c4;obtain rfl:=Option.some.inj H;go_enter Tryd.func127,Tryd.ntmps127
  go_wp2
  go_ret
  exact ⟨by first|rfl|(simp;done)|(simp [*];done),by repeat (first|exact Drawn0.refl _|apply Drawn0.step)⟩
def Abb.l0 : Nat → List (S62) → List (S62) → Int → Int → Option (Bool)
 | 0,_,_,_,_=>none
 | k + 1,x0,x5,x6,x7=>if x7 < x6 then (if 0 ≤ x7 then (if x7 < (x5.length : Int) then ((Abf.f ((rd_T62 x5 x7).f0) (-1000) ((rd_T62 x5 x7).f1)).bind fun t444=>(if t444 = true then (if ((rd_T62 x5 x7).f1) > 1000 then (some false) else (Abb.l0 k x0 x5 x6 (wrap64 (x7 + 1)))) else (some false))) else (none)) else (none)) else (some (decide ((x0.length : Int) ≤ 10)))
def Abb.f (k : Nat) (l0 : List (S62)) : Option (Bool) := Abb.l0 k l0 l0 (l0.length : Int) 0
set_option maxHeartbeats 8000000 in
set_option maxRecDepth 100000 in
theorem Abb.calls (k : Nat) (A0 : Option Addr) (c0 : Nat) (l0 : List (S62)) (r : Bool) (w : World) (hr0 : Kd.C k62 w A0 l0.length l0) (hc0 : l0.length ≤ c0) (h : Abb.f k l0 = some r) :
 Calls Tryd.prog 132 #[.slice A0 l0.length c0] w fun e w'=>e = .returned (.bool r) ∧ Below w.heap.size w w':=by
 have hu62:=Tryd.underlying62;have HR0:=A_ hr0;have HC0:=A_ hc0;clear hr0 hc0;have HB:=A_ (Below.refl w.heap.size w);have H : (Abb.l0 k l0 l0 (l0.length : Int) 0) = some r:=h;clear h;have H':=A_ H;clear H;go_enter Tryd.func132,Tryd.ntmps132
 go_wp2
 go_loopg [7] k (fun kq v7 w'=>∃ (x7_1 : Int),v7 = .int .i64 x7_1 ∧ Aside0 (Abb.l0 kq l0 l0 (l0.length : Int) x7_1 = some r) ∧ Aside0 (kq ≤ k) ∧ Aside0 (Below w.heap.size w w'))
 case atStart=>exact ⟨(0),(by first|rfl|(simp;done)|(simp [*];done)),H',⟨Nat.le_refl _⟩,⟨bb_⟩⟩
 case round =>
  clear H';try clear c1
  obtain ⟨x7_1,rfl,HA,HK1,HB⟩:=hrel;cases gk with
  | zero => exact absurd HA.out (by simp [Abb.l0])
  | succ k1 =>
   have H:=HA.out;clear HA;simp only [Abb.l0] at H
   by_cases c2 : x7_1 < (l0.length : Int)
   ·rw [if_pos c2] at H;have c2b0 : decide (x7_1 < (l0.length : Int)) = true:=decide_eq_true c2;clear c2;by_cases c3 : 0 ≤ x7_1
    ·rw [if_pos c3] at H;have c3b0 : decide (0 ≤ x7_1) = true:=decide_eq_true c3;clear c3;by_cases c4 : x7_1 < (l0.length : Int)
     ·rw [if_pos c4] at H;have c4b0 : decide (x7_1 < (l0.length : Int)) = true:=decide_eq_true c4;clear c4;replace H:=Option.bind_eq_some_iff.mp H;obtain ⟨Ak,A50,H⟩:=H;replace H : (if Ak = true then (if ((rd_T62 l0 x7_1).f1) > 1000 then (some false) else (Abb.l0 k1 l0 l0 (l0.length : Int) (wrap64 (x7_1 + 1)))) else (some false)) = some r:=H;have A5:=A_ A50;clear A50;by_cases c6 : Ak = true
      ·subst c6;have H1 : (if ((rd_T62 l0 x7_1).f1) > 1000 then (some false) else (Abb.l0 k1 l0 l0 (l0.length : Int) (wrap64 (x7_1 + 1)))) = some r:=by rw [if_pos rfl] at H;exact H
       clear H;have H:=H1;clear H1;by_cases c7 : ((rd_T62 l0 x7_1).f1) > 1000
       ·rw [if_pos c7] at H;have c7b0 : decide (1000 < ((rd_T62 l0 x7_1).f1)) = true:=decide_eq_true c7;clear c7;obtain rfl:=Option.some.inj H;have Ad : 0 ≤ (x7_1 : Int):=of_decide_eq_true (by first|(with_reducible assumption)|assumption);have Ae : x7_1 < (l0.length : Int):=of_decide_eq_true (by first|(with_reducible assumption)|assumption);obtain ⟨Ah,Ag,Aa,Ab⟩:=at_T62 HR0.out x7_1 Ad Ae;cases Ag
        (try replace Aa:=(HB.out.cell (World.block_lt_of_cell? w _ Aa)).trans Aa);(try replace Ab:=(HB.out.cell (World.block_lt_of_cell? w _ Ab)).trans Ab);replace Ad:=eq_true Ad;replace Ae:=eq_true Ae;go_wp2_with (first|((with_reducible refine gate_dst (N:=4) rfl ?_);refine box_event ?hg (N:=4) ?hd (cs:=#[.int .i64 0,.int .i64 0]) (t:=62) ?hr ?_;(case hd=>rfl);(case hg=>rfl);(case hr=>go_simp;try rfl);intro Af hg w8 hbox hb;have Ac:=A_ (hbox);have Ai:=A_ (gw_ (w:=w) hg bb_);have Aj:=A_ (gw_ (w:=w) hg bb_);replace HB:=A_ (below_step bb_ hb);clear hb hbox hg;have hcz9_0 : w8.cell? ⟨Af,0,none⟩ = some (.int .i64 0):=blk_cell Ac.out 0;have hcz9_1 : w8.cell? ⟨Af,1,none⟩ = some (.int .i64 0):=blk_cell Ac.out 1;have hfz9_0:=blk_frozen Ac.out 0;have hfz9_1:=blk_frozen Ac.out 1)|((with_reducible refine gate_callee (f:=127) rfl ?_);refine goesL_ (some 15) rfl rfl Tryd.func127 (by kernel_rfl) rfl #[.int .i64 ((rd_T62 l0 x7_1).f0),.int .i64 (-1000),.int .i64 ((rd_T62 l0 x7_1).f1)] rfl au_ ?_;(with_reducible refine (Abf.calls ((rd_T62 l0 x7_1).f0) (-1000) ((rd_T62 l0 x7_1).f1) true _ A5.out).mono ?_);rintro e w' ⟨rfl,⟨nd,rfl⟩⟩;refine ⟨_,rfl,?_⟩))
        go_ret
        exact ⟨by first|rfl|(simp [errW_none,errW_some] <;> rfl)|(simp [*,errW_none,errW_some] <;> rfl),bb_⟩
       ·rw [if_neg c7] at H;have c7b0 : decide (1000 < ((rd_T62 l0 x7_1).f1)) = false:=decide_eq_false c7;clear c7;have H':=A_ H;clear H;have Ad : 0 ≤ (x7_1 : Int):=of_decide_eq_true (by first|(with_reducible assumption)|assumption);have Ae : x7_1 < (l0.length : Int):=of_decide_eq_true (by first|(with_reducible assumption)|assumption);obtain ⟨Ah,Ag,Aa,Ab⟩:=at_T62 HR0.out x7_1 Ad Ae;cases Ag
        (try replace Aa:=(HB.out.cell (World.block_lt_of_cell? w _ Aa)).trans Aa);(try replace Ab:=(HB.out.cell (World.block_lt_of_cell? w _ Ab)).trans Ab);replace Ad:=eq_true Ad;replace Ae:=eq_true Ae;go_wp2_with (first|((with_reducible refine gate_dst (N:=4) rfl ?_);refine box_event ?hg (N:=4) ?hd (cs:=#[.int .i64 0,.int .i64 0]) (t:=62) ?hr ?_;(case hd=>rfl);(case hg=>rfl);(case hr=>go_simp;try rfl);intro Af hg w10 hbox hb;have Ac:=A_ (hbox);have Ai:=A_ (gw_ (w:=w) hg bb_);have Aj:=A_ (gw_ (w:=w) hg bb_);replace HB:=A_ (below_step bb_ hb);clear hb hbox hg;have hcz11_0 : w10.cell? ⟨Af,0,none⟩ = some (.int .i64 0):=blk_cell Ac.out 0;have hcz11_1 : w10.cell? ⟨Af,1,none⟩ = some (.int .i64 0):=blk_cell Ac.out 1;have hfz11_0:=blk_frozen Ac.out 0;have hfz11_1:=blk_frozen Ac.out 1)|((with_reducible refine gate_callee (f:=127) rfl ?_);refine goesL_ (some 15) rfl rfl Tryd.func127 (by kernel_rfl) rfl #[.int .i64 ((rd_T62 l0 x7_1).f0),.int .i64 (-1000),.int .i64 ((rd_T62 l0 x7_1).f1)] rfl au_ ?_;(with_reducible refine (Abf.calls ((rd_T62 l0 x7_1).f0) (-1000) ((rd_T62 l0 x7_1).f1) true _ A5.out).mono ?_);rintro e w' ⟨rfl,⟨nd,rfl⟩⟩;refine ⟨_,rfl,?_⟩))
        go_roundg k1
        case measure=>have:=HK1.out;omega
        case rel=>exact ⟨(wrap64 (x7_1 + 1)),(by first|rfl|(simp;done)|(simp [*];done)),H',⟨by have:=HK1.out;omega⟩,⟨bb_⟩⟩
      ·replace c6:=Bool.eq_false_iff.mpr c6;subst c6;have H1 : (some false) = some r:=by rw [if_neg (show ¬ (false = true) by decide)] at H;exact H
       clear H;have H:=H1;clear H1;obtain rfl:=Option.some.inj H;have Ad : 0 ≤ (x7_1 : Int):=of_decide_eq_true (by first|(with_reducible assumption)|assumption);have Ae : x7_1 < (l0.length : Int):=of_decide_eq_true (by first|(with_reducible assumption)|assumption);obtain ⟨Ah,Ag,Aa,Ab⟩:=at_T62 HR0.out x7_1 Ad Ae;cases Ag
       (try replace Aa:=(HB.out.cell (World.block_lt_of_cell? w _ Aa)).trans Aa);(try replace Ab:=(HB.out.cell (World.block_lt_of_cell? w _ Ab)).trans Ab);replace Ad:=eq_true Ad;replace Ae:=eq_true Ae;go_wp2_with (first|((with_reducible refine gate_dst (N:=4) rfl ?_);refine box_event ?hg (N:=4) ?hd (cs:=#[.int .i64 0,.int .i64 0]) (t:=62) ?hr ?_;(case hd=>rfl);(case hg=>rfl);(case hr=>go_simp;try rfl);intro Af hg w12 hbox hb;have Ac:=A_ (hbox);have Ai:=A_ (gw_ (w:=w) hg bb_);have Aj:=A_ (gw_ (w:=w) hg bb_);replace HB:=A_ (below_step bb_ hb);clear hb hbox hg;have hcz13_0 : w12.cell? ⟨Af,0,none⟩ = some (.int .i64 0):=blk_cell Ac.out 0;have hcz13_1 : w12.cell? ⟨Af,1,none⟩ = some (.int .i64 0):=blk_cell Ac.out 1;have hfz13_0:=blk_frozen Ac.out 0;have hfz13_1:=blk_frozen Ac.out 1)|((with_reducible refine gate_callee (f:=127) rfl ?_);refine goesL_ (some 15) rfl rfl Tryd.func127 (by kernel_rfl) rfl #[.int .i64 ((rd_T62 l0 x7_1).f0),.int .i64 (-1000),.int .i64 ((rd_T62 l0 x7_1).f1)] rfl au_ ?_;(with_reducible refine (Abf.calls ((rd_T62 l0 x7_1).f0) (-1000) ((rd_T62 l0 x7_1).f1) false _ A5.out).mono ?_);rintro e w' ⟨rfl,⟨nd,rfl⟩⟩;refine ⟨_,rfl,?_⟩))
       go_ret
       exact ⟨by first|rfl|(simp [errW_none,errW_some] <;> rfl)|(simp [*,errW_none,errW_some] <;> rfl),bb_⟩
     ·rw [if_neg c4] at H;exact absurd H (by simp)
    ·rw [if_neg c3] at H;exact absurd H (by simp)
   ·rw [if_neg c2] at H;have c2b0 : decide (x7_1 < (l0.length : Int)) = false:=decide_eq_false c2;clear c2;obtain rfl:=Option.some.inj H;go_wp2
    go_ret
    exact ⟨by first|rfl|(simp [errW_none,errW_some] <;> rfl)|(simp [*,errW_none,errW_some] <;> rfl),bb_⟩
def Aa7.f (s0_0 : List Int) (s0_1 : Int) (s0_2 : Int) (a1 : Int) : Option (Bool × Int × Int) := (Aah.f s0_0 s0_1 s0_2 a1).bind fun bt456 => (some ((bt456.1 == 0), bt456.2.1, bt456.2.2))
set_option maxHeartbeats 8000000 in
set_option maxRecDepth 100000 in
theorem Aa7.calls (g : Nat) (s0_0 : List Int) (s0_1 : Int) (s0_2 : Int) (a1 : Int) (r1 : Bool) (r2 : Int) (r3 : Int) (w0 w : World) (hI : Aaa w0 w g s0_0 s0_1 s0_2) (hB : Below w0.heap.size w0 w) (h : Aa7.f s0_0 s0_1 s0_2 a1 = some (r1,r2,r3)) :
 Calls Tryd.prog 173 #[.pointer (some ⟨g,0,none⟩),.int .i64 a1] w fun e w'=>e = .returned (.bool r1) ∧ Aaa w0 w' g s0_0 r2 r3 ∧ Below w0.heap.size w0 w' ∧ KeepBut w w' g none:=by
 have HI0:=A_ hI;have HK:=A_ (KeepBut.refl w g none);have HL:=A_ hB.size;clear hI;have HW0:=A_ hB.size;have HB:=A_ hB;clear hB;have H : ((Aah.f s0_0 s0_1 s0_2 a1).bind fun Aa=>(some ((Aa.1 == 0),Aa.2.1,Aa.2.2))) = some (r1,r2,r3):=h;clear h;replace H:=Option.bind_eq_some_iff.mp H;obtain ⟨⟨Ab,Ac,Ad⟩,A30,H⟩:=H;replace H : (some ((Ab == 0),Ac,Ad)) = some (r1,r2,r3):=H;have A3:=A_ A30;clear A30;simp only [Option.some.injEq,Prod.mk.injEq] at H
 obtain ⟨rfl,rfl,rfl⟩:=H;go_enter Tryd.func173,Tryd.ntmps173
 go_wp2_with (first|((with_reducible refine gate_callee (f:=150) rfl ?_);refine goesL_ (some 7) rfl rfl Tryd.func150 (by kernel_rfl) rfl #[.pointer (some ⟨g,0,none⟩),.int .i64 a1] rfl au_ ?_;(with_reducible refine (Aah.calls g s0_0 s0_1 s0_2 a1 Ab Ac Ad w0 _ ?side1 ?side2 A3.out).mono ?_);(case side1=>exact is_);(case side2=>repeat (first|(with_reducible first|exact HB.out|apply below_alloc|apply pw_below_drewN|apply below_drew1|refine below_set ?_ (Aaa.ge HI0.out))|exact HB.out));rintro e w4 ⟨rfl,hi,hb,hk⟩;refine ⟨_,rfl,?_⟩;replace HK:=A_ (KeepBut.trans (by repeat (with_reducible first|exact HK.out|apply KeepBut.set_|apply keep_drewN|apply keep_drew|apply keep_alloc)) hk (.inl rfl));replace HB:=A_ (hb);replace HI0:=A_ (hi);(try clear hb);(try clear hb2);(try clear hk);(try clear hi)))
 go_ret
 exact ⟨by first|rfl|(simp [errW_none,errW_some] <;> rfl)|(simp [*,errW_none,errW_some] <;> rfl),is_,by repeat (first|(with_reducible first|exact HB.out|apply below_alloc|apply pw_below_drewN|apply below_drew1|refine below_set ?_ (Aaa.ge HI0.out))|exact HB.out),by repeat (first|(with_reducible first|exact HK.out|apply KeepBut.set_|apply keep_drewN|apply keep_drew|apply keep_alloc)|exact HK.out)⟩
mutual
def Aa2.l0 : Nat → List (S62) → List (S62) → Int → Int → Int → List Int → Option (Int × List Int)
 | 0,_,_,_,_,_,_=>none
 | k + 1,x0,x12,x13,x14,x461000,x461001=>if x14 < x13 then (if 0 ≤ x14 then (if x14 < (x12.length : Int) then (Aa2.l1 k x0 0 x12 x13 x14 x0 (x0.length : Int) 0 x461000 x461001 ((rd_T62 x12 x14).f0) ((rd_T62 x12 x14).f1)) else (none)) else (none)) else (some (x461000,x461001))
def Aa2.l1 : Nat → List (S62) → Int → List (S62) → Int → Int → List (S62) → Int → Int → Int → List Int → Int → Int → Option (Int × List Int)
 | 0,_,_,_,_,_,_,_,_,_,_,_,_=>none
 | k + 1,x0,x6,x12,x13,x14,x18,x19,x20,x461000,x461001,x463000,x463001=>if x20 < x19 then (if 0 ≤ x20 then (if x20 < (x18.length : Int) then (if x463001 < ((rd_T62 x18 x20).f0) then (Aa2.l1 k x0 (Go.bits .or .i64 x6 (shl .i64 1 x20)) x12 x13 x14 x18 x19 (wrap64 (x20 + 1)) x461000 x461001 x463000 x463001) else (Aa2.l1 k x0 x6 x12 x13 x14 x18 x19 (wrap64 (x20 + 1)) x461000 x461001 x463000 x463001)) else (none)) else (none)) else (if x461001.length < 17592186044416 then (Aa2.l0 k x0 x12 x13 (wrap64 (x14 + 1)) x461000 (x461001 ++ [x6])) else (none))
end
def Aa2.f (k : Nat) (l0 : List (S62)) : Option (Int × List Int) := Aa2.l0 k l0 l0 (l0.length : Int) 0 (l0.length : Int) ([] : List Int)
set_option maxHeartbeats 8000000 in
set_option maxRecDepth 100000 in
theorem Aa2.calls (k : Nat) (A0 : Option Addr) (c0 : Nat) (l0 : List (S62)) (r1 : Int) (r2 : List Int) (w : World) (hr0 : Kd.C k62 w A0 l0.length l0) (hc0 : l0.length ≤ c0) (h : Aa2.f k l0 = some (r1,r2)) :
 Calls Tryd.prog 133 #[.slice A0 l0.length c0] w fun e w'=>∃ v1_ : Value,e = .returned (.agg #[.int .i64 r1,v1_]) ∧ Kd.R (Kd.int .i64) 3 w' w.heap.size (fun _=>True) v1_ r2 ∧ Below w.heap.size w w':=by
 have hu28:=Tryd.underlying28;have hu62:=Tryd.underlying62;have HR0:=A_ hr0;have HC0:=A_ hc0;clear hr0 hc0;have HB:=A_ (Below.refl w.heap.size w);have H : (Aa2.l0 k l0 l0 (l0.length : Int) 0 (l0.length : Int) ([] : List Int)) = some (r1,r2):=h;clear h;have H':=A_ H;clear H;go_enter Tryd.func133,Tryd.ntmps133
 go_wp2_with (first|((with_reducible refine gate_dst (N:=2) rfl ?_);refine box_event ?hg (N:=2) ?hd (cs:=#[.int .i64 0,.slice none 0 0]) (t:=28) ?hr ?_;(case hd=>rfl);(case hg=>rfl);(case hr=>go_simp;try rfl);intro As hg w2 hbox hb;have Ab:=A_ (hbox);have Bp:=A_ (gw_ (w:=w) hg bb_);have Bq:=A_ (gw_ (w:=w) hg bb_);replace HB:=A_ (below_step bb_ hb);clear hb hbox hg)|((with_reducible refine gate_dst (N:=3) rfl ?_);refine box_event ?hg (N:=3) ?hd (cs:=#[.int .i64 0,.slice none 0 0]) (t:=28) ?hr ?_;(case hd=>rfl);(case hg=>rfl);(case hr=>go_simp;try rfl);intro Aj hg w3 hbox hb;have Aa:=A_ (hbox);have Br:=A_ (gw_ (w:=w) hg bb_);have Bt:=A_ (gw_ (w:=w) hg bb_);replace HB:=A_ (below_step bb_ hb);have Ak:=A_ (nl_ hg Ab);have Au:=A_ (ng_ hg Ab);replace Ab:=bz Ab hb;clear hb hbox hg;have hnb4:=Au.out;have hnc4:=Ak.out;have hcz5_0 : w3.cell? ⟨Aj,0,none⟩ = some (.int .i64 0):=blk_cell Aa.out 0;have hcz5_1 : w3.cell? ⟨Aj,1,none⟩ = some (.slice none 0 0):=blk_cell Aa.out 1;have hfz5_0:=blk_frozen Aa.out 0;have hfz5_1:=blk_frozen Aa.out 1))
 go_loopg [14] k (fun kq v14 w'=>∃ (x14_1 : Int) (Ae : List Int) (Af : Value),v14 = .int .i64 x14_1 ∧ Aside0 (Aa2.l0 kq l0 l0 (l0.length : Int) x14_1 (l0.length : Int) Ae = some (r1,r2)) ∧ Aside0 (kq ≤ k) ∧ Aside0 (Kd.R (Kd.int .i64) 3 w' w.heap.size (fun _=>True) Af Ae) ∧ Aside0 (w'.heap[As]? = some (.cells #[.int .i64 0,(.slice none 0 0)] 28 (0,0))) ∧ Aside0 (w'.heap[Aj]? = some (.cells #[.int .i64 (l0.length : Int),Af] 28 (0,0))) ∧ Aside0 (Below w.heap.size w w'))
 case atStart=>exact ⟨(0),(([] : List Int)),(.slice none 0 0),(by first|rfl|(simp;done)|(simp [*];done)),H',⟨Nat.le_refl _⟩,⟨by first|exact Kd.R_nil _ _ _ _ _|exact Kd.N_nil _ _ _ _ _|exact Kd.V_nil _ _ _ _ _|exact Kd.Q_nil _ _ _ _ _|exact Kd.S_nil _ _ _ _ _⟩,⟨by (with_reducible repeat (first|refine blk_drewN ?_ _|refine blk_drew ?_|refine blk_alloc ?_ _));refine blk_far ?_ Ak.out _;(with_reducible repeat (first|refine blk_drewN ?_ _|refine blk_drew ?_|refine blk_alloc ?_ _));refine blk_far ?_ Ak.out _;(with_reducible repeat (first|refine blk_drewN ?_ _|refine blk_drew ?_|refine blk_alloc ?_ _));exact Ab.out⟩,⟨by (with_reducible repeat (first|refine blk_drewN ?_ _|refine blk_drew ?_|refine blk_alloc ?_ _));refine blk_put (cs:=#[.int .i64 (l0.length : Int),.slice none 0 0]) ?_ 1 _ rfl;(with_reducible repeat (first|refine blk_drewN ?_ _|refine blk_drew ?_|refine blk_alloc ?_ _));refine blk_put (cs:=#[.int .i64 0,.slice none 0 0]) ?_ 0 _ rfl;(with_reducible repeat (first|refine blk_drewN ?_ _|refine blk_drew ?_|refine blk_alloc ?_ _));exact Aa.out⟩,⟨bb_⟩⟩
 case round =>
  clear H';try clear c1
  try clear p2
  try clear c4
  try clear hcz5_0
  try clear hcz5_1
  try clear hfz5_0
  try clear hfz5_1
  obtain ⟨x14_1,Ae,Af,rfl,HA,HK1,Ac,Ab,Aa,HB⟩:=hrel;cases gk with
  | zero => exact absurd HA.out (by simp [Aa2.l0])
  | succ k1 =>
   have H:=HA.out;clear HA;simp only [Aa2.l0] at H
   by_cases c6 : x14_1 < (l0.length : Int)
   ·rw [if_pos c6] at H;have c6b0 : decide (x14_1 < (l0.length : Int)) = true:=decide_eq_true c6;clear c6;by_cases c7 : 0 ≤ x14_1
    ·rw [if_pos c7] at H;have c7b0 : decide (0 ≤ x14_1) = true:=decide_eq_true c7;clear c7;by_cases c8 : x14_1 < (l0.length : Int)
     ·rw [if_pos c8] at H;have c8b0 : decide (x14_1 < (l0.length : Int)) = true:=decide_eq_true c8;clear c8;have H':=A_ H;clear H;have Be : 0 ≤ (x14_1 : Int):=of_decide_eq_true (by first|(with_reducible assumption)|assumption);have Bf : x14_1 < (l0.length : Int):=of_decide_eq_true (by first|(with_reducible assumption)|assumption);obtain ⟨Bj,Bo,Az,Ba⟩:=at_T62 HR0.out x14_1 Be Bf;cases Bo
      (try replace Az:=(HB.out.cell (World.block_lt_of_cell? w _ Az)).trans Az);(try replace Ba:=(HB.out.cell (World.block_lt_of_cell? w _ Ba)).trans Ba);replace Be:=eq_true Be;replace Bf:=eq_true Bf;go_wp2_with (first|((with_reducible refine gate_dst (N:=5) rfl ?_);refine box_event ?hg (N:=5) ?hd (cs:=#[.int .i64 0,.int .i64 0]) (t:=62) ?hr ?_;(case hd=>rfl);(case hg=>rfl);(case hr=>go_simp;try rfl);intro Ap hg w9 hbox hb;replace Ac:=rb_ Ac hb;have Ad:=A_ (hbox);have Bu:=A_ (gw_ (w:=w) hg bb_);have Bw:=A_ (gw_ (w:=w) hg bb_);replace HB:=A_ (below_step bb_ hb);have Aq:=A_ (nl_ hg Ab);have Av:=A_ (ng_ hg Ab);replace Ab:=bz Ab hb;have Al:=A_ (nl_ hg Aa);have At:=A_ (ng_ hg Aa);replace Aa:=bz Aa hb;clear hb hbox hg;have hnb10:=Av.out;have hnc10:=Aq.out;have hnb11:=At.out;have hnc11:=Al.out;have hcz12_0 : w9.cell? ⟨Ap,0,none⟩ = some (.int .i64 0):=blk_cell Ad.out 0;have hcz12_1 : w9.cell? ⟨Ap,1,none⟩ = some (.int .i64 0):=blk_cell Ad.out 1;have hfz12_0:=blk_frozen Ad.out 0;have hfz12_1:=blk_frozen Ad.out 1))
      go_loopg [6,20] k1 (fun kq v6 v20 w'=>∃ (x6_2 : Int) (x20_2 : Int),v6 = .int .i64 x6_2 ∧ v20 = .int .i64 x20_2 ∧ Aside0 (Aa2.l1 kq l0 x6_2 l0 (l0.length : Int) x14_1 l0 (l0.length : Int) x20_2 (l0.length : Int) Ae ((rd_T62 l0 x14_1).f0) ((rd_T62 l0 x14_1).f1) = some (r1,r2)) ∧ Aside0 (kq ≤ k1) ∧ Aside0 (Kd.R (Kd.int .i64) 3 w' w.heap.size (fun _=>True) Af Ae) ∧ Aside0 (w'.heap[As]? = some (.cells #[.int .i64 0,(.slice none 0 0)] 28 (0,0))) ∧ Aside0 (w'.heap[Aj]? = some (.cells #[.int .i64 (l0.length : Int),Af] 28 (0,0))) ∧ Aside0 (w'.heap[Ap]? = some (.cells #[.int .i64 ((rd_T62 l0 x14_1).f0),.int .i64 ((rd_T62 l0 x14_1).f1)] 62 (0,0))) ∧ Aside0 (Below w.heap.size w w'))
      case atStart=>exact ⟨(0),(0),(by first|rfl|(simp;done)|(simp [*];done)),(by first|rfl|(simp;done)|(simp [*];done)),H',⟨Nat.le_refl _⟩,⟨rq_ (Kd.R_mono (Kd.R_far (p:=⟨Ap,1,none⟩) (Kd.R_far (p:=⟨Ap,0,none⟩) (Kd.R_types Ac.out Ad.out (by decide)) (fun _ hk=>hk.2) (.int .i64 ((rd_T62 l0 x14_1).f0))) (fun _ hk=>hk.2) (.int .i64 ((rd_T62 l0 x14_1).f1))) (fun _ hk=>trivial))⟩,⟨by (with_reducible repeat (first|refine blk_drewN ?_ _|refine blk_drew ?_|refine blk_alloc ?_ _));refine blk_far ?_ Aq.out _;(with_reducible repeat (first|refine blk_drewN ?_ _|refine blk_drew ?_|refine blk_alloc ?_ _));refine blk_far ?_ Aq.out _;(with_reducible repeat (first|refine blk_drewN ?_ _|refine blk_drew ?_|refine blk_alloc ?_ _));exact Ab.out⟩,⟨by (with_reducible repeat (first|refine blk_drewN ?_ _|refine blk_drew ?_|refine blk_alloc ?_ _));refine blk_far ?_ Al.out _;(with_reducible repeat (first|refine blk_drewN ?_ _|refine blk_drew ?_|refine blk_alloc ?_ _));refine blk_far ?_ Al.out _;(with_reducible repeat (first|refine blk_drewN ?_ _|refine blk_drew ?_|refine blk_alloc ?_ _));exact Aa.out⟩,⟨by (with_reducible repeat (first|refine blk_drewN ?_ _|refine blk_drew ?_|refine blk_alloc ?_ _));refine blk_put (cs:=#[.int .i64 ((rd_T62 l0 x14_1).f0),.int .i64 0]) ?_ 1 _ rfl;(with_reducible repeat (first|refine blk_drewN ?_ _|refine blk_drew ?_|refine blk_alloc ?_ _));refine blk_put (cs:=#[.int .i64 0,.int .i64 0]) ?_ 0 _ rfl;(with_reducible repeat (first|refine blk_drewN ?_ _|refine blk_drew ?_|refine blk_alloc ?_ _));exact Ad.out⟩,⟨bb_⟩⟩
      case round =>
       clear H';try clear c1
       try clear p2
       try clear c4
       try clear p4
       try clear q4
       try clear hx4
       try clear c6
       try clear c6b0
       try clear c7
       try clear c7b0
       try clear c8
       try clear c8b0
       try clear c10
       try clear c11
       try clear hcz12_0
       try clear hcz12_1
       try clear hcz5_0
       try clear hcz5_1
       try clear hfz12_0
       try clear hfz12_1
       try clear hfz5_0
       try clear hfz5_1
       try clear Az
       try clear Ba
       try clear p2
       try clear Be
       try clear Bf
       obtain ⟨x6_2,x20_2,rfl,rfl,HA,HK2,Ac,Ab,Aa,Ad,HB⟩:=hrel;cases gk with
       | zero=>exact absurd HA.out (by simp [Aa2.l1])
       | succ k2 =>
        have H:=HA.out;clear HA;simp only [Aa2.l1] at H
        by_cases c13 : x20_2 < (l0.length : Int)
        ·rw [if_pos c13] at H;have c13b0 : decide (x20_2 < (l0.length : Int)) = true:=decide_eq_true c13;clear c13;by_cases c14 : 0 ≤ x20_2
         ·rw [if_pos c14] at H;have c14b0 : decide (0 ≤ x20_2) = true:=decide_eq_true c14;clear c14;by_cases c15 : x20_2 < (l0.length : Int)
          ·rw [if_pos c15] at H;have c15b0 : decide (x20_2 < (l0.length : Int)) = true:=decide_eq_true c15;clear c15;by_cases c16 : ((rd_T62 l0 x14_1).f1) < ((rd_T62 l0 x20_2).f0)
           ·rw [if_pos c16] at H;have c16b0 : decide (((rd_T62 l0 x14_1).f1) < ((rd_T62 l0 x20_2).f0)) = true:=decide_eq_true c16;clear c16;have c17b0:=eq_true (of_decide_eq_true (by first|(with_reducible assumption)|assumption) : 0 ≤ x20_2);obtain ⟨ji18,hji18⟩ : ∃ j_ : Int,(shl .i64 1 x20_2) = j_:=⟨_,rfl⟩;replace H : (Aa2.l1 k2 l0 (Go.bits .or .i64 x6_2 (ji18)) l0 (l0.length : Int) x14_1 l0 (l0.length : Int) (wrap64 (x20_2 + 1)) (l0.length : Int) Ae ((rd_T62 l0 x14_1).f0) ((rd_T62 l0 x14_1).f1)) = some (r1,r2):=by first|(rw [hji18] at H;exact H)|(simp only [hji18] at H ⊢;exact H)
            have hji18_ : (IntKind.i64.wrap (1 * 2 ^ min x20_2.toNat 64)) = ji18:=hji18;have hji18z : x20_2 ≤ 64 → (IntKind.i64.wrap (1 * 2 ^ x20_2.toNat)) = ji18:=shl_small hji18;have hji18u : (IntKind.i64.wrap (2 ^ min x20_2.toNat 64)) = ji18:=by have h_:=hji18_;rw [Int.one_mul] at h_;exact h_
            have hji18v : x20_2 ≤ 64 → (IntKind.i64.wrap (2 ^ x20_2.toNat)) = ji18:=fun hle_=>by have h_:=hji18z hle_;rw [Int.one_mul] at h_;exact h_
            have hji18y : (wrap64 (1 * 2 ^ min x20_2.toNat 64)) = ji18:=(i64_w _).symm.trans hji18_;have hji18x : x20_2 ≤ 64 → (wrap64 (1 * 2 ^ x20_2.toNat)) = ji18:=fun h_=>(i64_w _).symm.trans (hji18z h_)
            have H':=A_ H;clear H;have Bb : 0 ≤ (x20_2 : Int):=of_decide_eq_true (by first|(with_reducible assumption)|assumption);have Bc : x20_2 < (l0.length : Int):=of_decide_eq_true (by first|(with_reducible assumption)|assumption);obtain ⟨Bg,Bi,An,Ao⟩:=at_T62 HR0.out x20_2 Bb Bc;obtain rfl : Bj = Bg:=(by injection Bi);(try replace An:=(HB.out.cell (World.block_lt_of_cell? w _ An)).trans An);(try replace Ao:=(HB.out.cell (World.block_lt_of_cell? w _ Ao)).trans Ao);replace Bb:=eq_true Bb;replace Bc:=eq_true Bc;go_wp2_with (first|((with_reducible refine gate_dst (N:=8) rfl ?_);refine box_event ?hg (N:=8) ?hd (cs:=#[.int .i64 0,.int .i64 0]) (t:=62) ?hr ?_;(case hd=>rfl);(case hg=>rfl);(case hr=>go_simp;try rfl);intro Ar hg w19 hbox hb;replace Ac:=rb_ Ac hb;have Am:=A_ (hbox);have Bl:=A_ (gw_ (w:=w) hg bb_);have Bm:=A_ (gw_ (w:=w) hg bb_);replace HB:=A_ (below_step bb_ hb);have Ag:=A_ (nl_ hg Ab);have Aw:=A_ (ng_ hg Ab);replace Ab:=bz Ab hb;have Ah:=A_ (nl_ hg Aa);have Ax:=A_ (ng_ hg Aa);replace Aa:=bz Aa hb;have Ai:=A_ (nl_ hg Ad);have Ay:=A_ (ng_ hg Ad);replace Ad:=bz Ad hb;clear hb hbox hg;have hnb20:=Aw.out;have hnc20:=Ag.out;have hnb21:=Ax.out;have hnc21:=Ah.out;have hnb22:=Ay.out;have hnc22:=Ai.out;have hcz23_0 : w19.cell? ⟨Ar,0,none⟩ = some (.int .i64 0):=blk_cell Am.out 0;have hcz23_1 : w19.cell? ⟨Ar,1,none⟩ = some (.int .i64 0):=blk_cell Am.out 1;have hfz23_0:=blk_frozen Am.out 0;have hfz23_1:=blk_frozen Am.out 1;have hnb24:=Av.out;have hnc24:=Aq.out;have hnb25:=At.out;have hnc25:=Al.out;have hcz26_0 : w19.cell? ⟨Ap,0,none⟩ = some (.int .i64 ((rd_T62 l0 x14_1).f0)):=blk_cell Ad.out 0;have hcz26_1 : w19.cell? ⟨Ap,1,none⟩ = some (.int .i64 ((rd_T62 l0 x14_1).f1)):=blk_cell Ad.out 1;have hfz26_0:=blk_frozen Ad.out 0;have hfz26_1:=blk_frozen Ad.out 1))
            go_roundg k2
            case measure=>have:=HK1.out;have:=HK2.out;omega
            case rel=>exact ⟨(Go.bits .or .i64 x6_2 (ji18)),(wrap64 (x20_2 + 1)),(by first|rfl|(simp;done)|(simp only [← hji18] <;> (first|rfl|simp))|(simp [*];done)),(by first|rfl|(simp;done)|(simp [*];done)),H',⟨by have:=HK1.out;have:=HK2.out;omega⟩,⟨rq_ (Kd.R_mono (Kd.R_far (p:=⟨Ar,1,none⟩) (Kd.R_far (p:=⟨Ar,0,none⟩) (Kd.R_types Ac.out Am.out (by decide)) (fun _ hk=>hk.2) (.int .i64 ((rd_T62 l0 x20_2).f0))) (fun _ hk=>hk.2) (.int .i64 ((rd_T62 l0 x20_2).f1))) (fun _ hk=>trivial))⟩,⟨by (with_reducible repeat (first|refine blk_drewN ?_ _|refine blk_drew ?_|refine blk_alloc ?_ _));refine blk_far ?_ Ag.out _;(with_reducible repeat (first|refine blk_drewN ?_ _|refine blk_drew ?_|refine blk_alloc ?_ _));refine blk_far ?_ Ag.out _;(with_reducible repeat (first|refine blk_drewN ?_ _|refine blk_drew ?_|refine blk_alloc ?_ _));exact Ab.out⟩,⟨by (with_reducible repeat (first|refine blk_drewN ?_ _|refine blk_drew ?_|refine blk_alloc ?_ _));refine blk_far ?_ Ah.out _;(with_reducible repeat (first|refine blk_drewN ?_ _|refine blk_drew ?_|refine blk_alloc ?_ _));refine blk_far ?_ Ah.out _;(with_reducible repeat (first|refine blk_drewN ?_ _|refine blk_drew ?_|refine blk_alloc ?_ _));exact Aa.out⟩,⟨by (with_reducible repeat (first|refine blk_drewN ?_ _|refine blk_drew ?_|refine blk_alloc ?_ _));refine blk_far ?_ Ai.out _;(with_reducible repeat (first|refine blk_drewN ?_ _|refine blk_drew ?_|refine blk_alloc ?_ _));refine blk_far ?_ Ai.out _;(with_reducible repeat (first|refine blk_drewN ?_ _|refine blk_drew ?_|refine blk_alloc ?_ _));exact Ad.out⟩,⟨bb_⟩⟩
           ·rw [if_neg c16] at H;have c16b0 : decide (((rd_T62 l0 x14_1).f1) < ((rd_T62 l0 x20_2).f0)) = false:=decide_eq_false c16;clear c16;have H':=A_ H;clear H;have Bb : 0 ≤ (x20_2 : Int):=of_decide_eq_true (by first|(with_reducible assumption)|assumption);have Bc : x20_2 < (l0.length : Int):=of_decide_eq_true (by first|(with_reducible assumption)|assumption);obtain ⟨Bg,Bi,An,Ao⟩:=at_T62 HR0.out x20_2 Bb Bc;obtain rfl : Bj = Bg:=(by injection Bi);(try replace An:=(HB.out.cell (World.block_lt_of_cell? w _ An)).trans An);(try replace Ao:=(HB.out.cell (World.block_lt_of_cell? w _ Ao)).trans Ao);replace Bb:=eq_true Bb;replace Bc:=eq_true Bc;go_wp2_with (first|((with_reducible refine gate_dst (N:=8) rfl ?_);refine box_event ?hg (N:=8) ?hd (cs:=#[.int .i64 0,.int .i64 0]) (t:=62) ?hr ?_;(case hd=>rfl);(case hg=>rfl);(case hr=>go_simp;try rfl);intro Ar hg w27 hbox hb;replace Ac:=rb_ Ac hb;have Am:=A_ (hbox);have Bl:=A_ (gw_ (w:=w) hg bb_);have Bm:=A_ (gw_ (w:=w) hg bb_);replace HB:=A_ (below_step bb_ hb);have Ag:=A_ (nl_ hg Ab);have Aw:=A_ (ng_ hg Ab);replace Ab:=bz Ab hb;have Ah:=A_ (nl_ hg Aa);have Ax:=A_ (ng_ hg Aa);replace Aa:=bz Aa hb;have Ai:=A_ (nl_ hg Ad);have Ay:=A_ (ng_ hg Ad);replace Ad:=bz Ad hb;clear hb hbox hg;have hnb28:=Aw.out;have hnc28:=Ag.out;have hnb29:=Ax.out;have hnc29:=Ah.out;have hnb30:=Ay.out;have hnc30:=Ai.out;have hcz31_0 : w27.cell? ⟨Ar,0,none⟩ = some (.int .i64 0):=blk_cell Am.out 0;have hcz31_1 : w27.cell? ⟨Ar,1,none⟩ = some (.int .i64 0):=blk_cell Am.out 1;have hfz31_0:=blk_frozen Am.out 0;have hfz31_1:=blk_frozen Am.out 1;have hnb32:=Av.out;have hnc32:=Aq.out;have hnb33:=At.out;have hnc33:=Al.out;have hcz34_0 : w27.cell? ⟨Ap,0,none⟩ = some (.int .i64 ((rd_T62 l0 x14_1).f0)):=blk_cell Ad.out 0;have hcz34_1 : w27.cell? ⟨Ap,1,none⟩ = some (.int .i64 ((rd_T62 l0 x14_1).f1)):=blk_cell Ad.out 1;have hfz34_0:=blk_frozen Ad.out 0;have hfz34_1:=blk_frozen Ad.out 1))
            go_roundg k2
            case measure=>have:=HK1.out;have:=HK2.out;omega
            case rel=>exact ⟨(x6_2),(wrap64 (x20_2 + 1)),(by first|rfl|(simp;done)|(simp [*];done)),(by first|rfl|(simp;done)|(simp [*];done)),H',⟨by have:=HK1.out;have:=HK2.out;omega⟩,⟨rq_ (Kd.R_mono (Kd.R_far (p:=⟨Ar,1,none⟩) (Kd.R_far (p:=⟨Ar,0,none⟩) (Kd.R_types Ac.out Am.out (by decide)) (fun _ hk=>hk.2) (.int .i64 ((rd_T62 l0 x20_2).f0))) (fun _ hk=>hk.2) (.int .i64 ((rd_T62 l0 x20_2).f1))) (fun _ hk=>trivial))⟩,⟨by (with_reducible repeat (first|refine blk_drewN ?_ _|refine blk_drew ?_|refine blk_alloc ?_ _));refine blk_far ?_ Ag.out _;(with_reducible repeat (first|refine blk_drewN ?_ _|refine blk_drew ?_|refine blk_alloc ?_ _));refine blk_far ?_ Ag.out _;(with_reducible repeat (first|refine blk_drewN ?_ _|refine blk_drew ?_|refine blk_alloc ?_ _));exact Ab.out⟩,⟨by (with_reducible repeat (first|refine blk_drewN ?_ _|refine blk_drew ?_|refine blk_alloc ?_ _));refine blk_far ?_ Ah.out _;(with_reducible repeat (first|refine blk_drewN ?_ _|refine blk_drew ?_|refine blk_alloc ?_ _));refine blk_far ?_ Ah.out _;(with_reducible repeat (first|refine blk_drewN ?_ _|refine blk_drew ?_|refine blk_alloc ?_ _));exact Aa.out⟩,⟨by (with_reducible repeat (first|refine blk_drewN ?_ _|refine blk_drew ?_|refine blk_alloc ?_ _));refine blk_far ?_ Ai.out _;(with_reducible repeat (first|refine blk_drewN ?_ _|refine blk_drew ?_|refine blk_alloc ?_ _));refine blk_far ?_ Ai.out _;(with_reducible repeat (first|refine blk_drewN ?_ _|refine blk_drew ?_|refine blk_alloc ?_ _));exact Ad.out⟩,⟨bb_⟩⟩
          ·rw [if_neg c15] at H;exact absurd H (by simp)
         ·rw [if_neg c14] at H;exact absurd H (by simp)
        ·rw [if_neg c13] at H;have c13b0 : decide (x20_2 < (l0.length : Int)) = false:=decide_eq_false c13;clear c13;by_cases c35 : Ae.length < 17592186044416
         ·rw [if_pos c35] at H;have LMc35:=A_ c35;clear c35;obtain ⟨Bh,Bd⟩ : ∃ y_ : List Int,y_ = (Ae ++ [x6_2]):=⟨_,rfl⟩;replace H : (Aa2.l0 k2 l0 l0 (l0.length : Int) (wrap64 (x14_1 + 1)) (l0.length : Int) Bh) = some (r1,r2):=by first|(rw [Bd];with_reducible exact H)|(have H2_:=(Option.bind_some _ _).symm.trans H;rw [Bd];with_reducible exact H2_)|(have H2_:=(Option.bind_some _ _).symm.trans H;with_reducible exact H2_)|with_reducible exact H|(rw [Bd];exact H)|exact H
          have Bn:=A_ Bd;clear Bd;have H':=A_ H;clear H;have hnb36:=Au.out;have hnc36:=Ak.out;have hnb37:=Al.out;have hnc37:=At.out;have hcz38_0 : wr.cell? ⟨Aj,0,none⟩ = some (.int .i64 (l0.length : Int)):=blk_cell Aa.out 0;have hcz38_1 : wr.cell? ⟨Aj,1,none⟩ = some (Af):=blk_cell Aa.out 1;have hfz38_0:=blk_frozen Aa.out 0;have hfz38_1:=blk_frozen Aa.out 1;go_wp2_with (first|((with_reducible refine gate_builtin (b:=.append) (xs:=#[.tmp 36,.tmp 38]) rfl ?_);at_builtin;refine Kd.R_append (Kd.int .i64) (w0:=w) w.heap.size rfl (.tmp 36) (.tmp 38) 22 3 (.int .i64 0) 8 rfl Tryd.underlying22 info3 rfl (by decide) (by omega) Af Ae x6_2 [.int .i64 x6_2] (fun _=>True) (fun _=>False) rfl rfl ?aP (fun _ hk=>hk.elim) ?aF ?aO ?aB ?aS ?aL ?_;(case aP=>exact rfl);(case aB=>exact bb_);(case aF=>exact (fun _ _=>trivial));(case aO=>exact (rl_ Ac));(case aS=>exact (below_size bb_));(case aL=>have:=LMc35.out;omega);intro Bx w39 ho hb hg hat;rw [← Bn.out] at ho;replace Ab:=A_ (blk_grown (g:=As) (o:=.cells #[.int .i64 0,.slice none 0 0] 28 (0,0)) (bl_ Ab) hg (Kd.R_ne Ac.out Ab.out (by decide)));replace Aa:=A_ (blk_grown (g:=Aj) (o:=.cells #[.int .i64 (l0.length : Int),Af] 28 (0,0)) (bl_ Aa) hg (Kd.R_ne Ac.out Aa.out (by decide)));replace Ad:=A_ (blk_grown (g:=Ap) (o:=.cells #[.int .i64 ((rd_T62 l0 x14_1).f0),.int .i64 ((rd_T62 l0 x14_1).f1)] 62 (0,0)) (bl_ Ad) hg (Kd.R_ne Ac.out Ad.out (by decide)));replace HB:=A_ (hb);have Bk:=A_ (ho);clear Ac;clear ho hb hg hat;obtain ⟨Ao40,co40,eo40⟩:=Kd.R_slice Bk.out;subst eo40;have hcz41_0 : w39.cell? ⟨Aj,0,none⟩ = some (.int .i64 (l0.length : Int)):=blk_cell Aa.out 0;have hcz41_1 : w39.cell? ⟨Aj,1,none⟩ = some (Af):=blk_cell Aa.out 1;have hfz41_0:=blk_frozen Aa.out 0;have hfz41_1:=blk_frozen Aa.out 1))
          go_roundg k2
          case measure=>have:=HK1.out;have:=HK2.out;omega
          case rel=>exact ⟨(wrap64 (x14_1 + 1)),(Bh),(.slice Ao40 Bh.length co40),(by first|rfl|(simp;done)|(simp [*];done)),H',⟨by have:=HK1.out;have:=HK2.out;omega⟩,⟨rq_ (Kd.R_mono (Kd.R_far (p:=⟨Aj,1,none⟩) (Kd.R_types Bk.out Aa.out (by decide)) (fun _ hk=>hk.2) (.slice Ao40 Bh.length co40)) (fun _ hk=>trivial))⟩,⟨by (with_reducible repeat (first|refine blk_drewN ?_ _|refine blk_drew ?_|refine blk_alloc ?_ _));refine blk_far ?_ Ak.out _;(with_reducible repeat (first|refine blk_drewN ?_ _|refine blk_drew ?_|refine blk_alloc ?_ _));exact Ab.out⟩,⟨by (with_reducible repeat (first|refine blk_drewN ?_ _|refine blk_drew ?_|refine blk_alloc ?_ _));refine blk_put (cs:=#[.int .i64 (l0.length : Int),Af]) ?_ 1 _ rfl;(with_reducible repeat (first|refine blk_drewN ?_ _|refine blk_drew ?_|refine blk_alloc ?_ _));exact Aa.out⟩,⟨bb_⟩⟩
         ·rw [if_neg c35] at H;exact absurd H (by simp)
     ·rw [if_neg c8] at H;exact absurd H (by simp)
    ·rw [if_neg c7] at H;exact absurd H (by simp)
   ·rw [if_neg c6] at H;have c6b0 : decide (x14_1 < (l0.length : Int)) = false:=decide_eq_false c6;clear c6;simp only [Option.some.injEq,Prod.mk.injEq] at H
    obtain ⟨rfl,rfl⟩:=H;have hnb42:=Au.out;have hnc42:=Ak.out;have hcz43_0 : wr.cell? ⟨Aj,0,none⟩ = some (.int .i64 (l0.length : Int)):=blk_cell Aa.out 0;have hcz43_1 : wr.cell? ⟨Aj,1,none⟩ = some (Af):=blk_cell Aa.out 1;have hfz43_0:=blk_frozen Aa.out 0;have hfz43_1:=blk_frozen Aa.out 1;have hcz44_0 : wr.cell? ⟨As,0,none⟩ = some (.int .i64 0):=blk_cell Ab.out 0;have hcz44_1 : wr.cell? ⟨As,1,none⟩ = some (.slice none 0 0):=blk_cell Ab.out 1;have hfz44_0:=blk_frozen Ab.out 0;have hfz44_1:=blk_frozen Ab.out 1;obtain ⟨Ao45,co45,eo45⟩:=Kd.R_slice Ac.out;subst eo45;go_wp2
    refine bodyPost_ret (results_cell_row rfl _ _ As 28 #[.int .i64 (l0.length : Int),.slice Ao45 Ae.length co45] (0,0) _ rfl (by (with_reducible repeat (first|refine blk_drewN ?_ _|refine blk_drew ?_|refine blk_alloc ?_ _));refine blk_put (cs:=#[.int .i64 (l0.length : Int),.slice none 0 0]) ?_ 1 _ rfl;(with_reducible repeat (first|refine blk_drewN ?_ _|refine blk_drew ?_|refine blk_alloc ?_ _));refine blk_put (cs:=#[.int .i64 0,.slice none 0 0]) ?_ 0 _ rfl;(with_reducible repeat (first|refine blk_drewN ?_ _|refine blk_drew ?_|refine blk_alloc ?_ _));exact Ab.out) Tryd.underlying28 rfl (by kernel_rfl)) rfl ?_
    exact ⟨_,by first|rfl|(simp [errW_none,errW_some] <;> rfl)|(simp [*,errW_none,errW_some] <;> rfl),rq_ (Kd.R_mono (Kd.R_far (p:=⟨As,1,none⟩) (Kd.R_far (p:=⟨As,0,none⟩) (Kd.R_types Ac.out Ab.out (by decide)) (fun _ hk=>hk.2) (.int .i64 (l0.length : Int))) (fun _ hk=>hk.2) (.slice Ao45 Ae.length co45)) (fun _ hk=>trivial)),bb_⟩
def Aas.f (a0 : Int) (a1 : Int) : Option (Bool) := if 0 ≤ a1 then (some ((Int.tmod (shr .i64 a0 a1) 2) == 1)) else (none)
set_option maxHeartbeats 8000000 in
set_option maxRecDepth 100000 in
theorem Aas.calls (a0 : Int) (a1 : Int) (r : Bool) (w : World) (h : Aas.f a0 a1 = some r) :
 Calls Tryd.prog 192 #[.int .i64 a0,.int .i64 a1] w fun e w'=>e = .returned (.bool r) ∧ Drawn0 w w':=by
 have H : (if 0 ≤ a1 then (some ((Int.tmod (shr .i64 a0 a1) 2) == 1)) else (none)) = some r:=h;clear h;by_cases c3 : 0 ≤ a1
 ·rw [if_pos c3] at H;have c3b0:=eq_true c3;have c3b1 : decide (0 ≤ a1) = true:=decide_eq_true c3;clear c3;obtain ⟨ji4,hji4⟩ : ∃ j_ : Int,(shr .i64 a0 a1) = j_:=⟨_,rfl⟩;replace H : (some ((Int.tmod (ji4) 2) == 1)) = some r:=by first|(rw [hji4] at H;exact H)|(simp only [hji4] at H ⊢;exact H)
  have hji4_ : (a0 / 2 ^ min a1.toNat 64) = ji4:=hji4;have hji4z : a1 ≤ 64 → (a0 / 2 ^ a1.toNat) = ji4:=shr_small hji4;obtain rfl:=Option.some.inj H;go_enter Tryd.func192,Tryd.ntmps192
  go_wp2
  go_ret
  exact ⟨by first|rfl|(simp;done)|(simp only [← hji4] <;> (first|rfl|simp))|(simp [*];done),by repeat (first|exact Drawn0.refl _|apply Drawn0.step)⟩
 ·rw [if_neg c3] at H;exact absurd H (by simp)
def Ab6.f (l0 : List Int) : Option (List Int) := (some (([] : List Int) : List Int)).bind fun y468 => (if y468.length + l0.length < 17592186044416 then (some (y468 ++ l0)) else (none))
set_option maxHeartbeats 8000000 in
set_option maxRecDepth 100000 in
theorem Ab6.calls (A0 : Option Addr) (c0 : Nat) (l0 : List Int) (r : List Int) (w : World) (hr0 : Kd.C (Kd.int .i64) w A0 l0.length l0) (hc0 : l0.length ≤ c0) (h : Ab6.f l0 = some r) :
 Calls Tryd.prog 202 #[.slice A0 l0.length c0] w fun e w'=>∃ v0_ : Value,e = .returned (v0_) ∧ Kd.R (Kd.int .i64) 3 w' w.heap.size (fun _=>True) v0_ r ∧ Below w.heap.size w w':=by
 have HR0:=A_ hr0;have HC0:=A_ hc0;clear hr0 hc0;have HB:=A_ (Below.refl w.heap.size w);have H : ((some (([] : List Int) : List Int)).bind fun Aa=>(if Aa.length + l0.length < 17592186044416 then (some (Aa ++ l0)) else (none))) = some r:=h;clear h;obtain ⟨Aa,Ab⟩ : ∃ y_ : List Int,y_ = (([] : List Int)):=⟨_,rfl⟩;replace H : (if Aa.length + l0.length < 17592186044416 then (some (Aa ++ l0)) else (none)) = some r:=by first|(rw [Ab];with_reducible exact H)|(have H2_:=(Option.bind_some _ _).symm.trans H;rw [Ab];with_reducible exact H2_)|(have H2_:=(Option.bind_some _ _).symm.trans H;with_reducible exact H2_)|with_reducible exact H|(rw [Ab];exact H)|exact H
 have Ad:=A_ Ab;clear Ab;by_cases c2 : Aa.length + l0.length < 17592186044416
 ·rw [if_pos c2] at H;have LMc2:=A_ c2;clear c2;obtain ⟨Ah,Ac⟩ : ∃ y_ : List Int,y_ = (Aa ++ l0):=⟨_,rfl⟩;replace H : (some Ah) = some r:=by first|(rw [Ac];with_reducible exact H)|(have H2_:=(Option.bind_some _ _).symm.trans H;rw [Ac];with_reducible exact H2_)|(have H2_:=(Option.bind_some _ _).symm.trans H;with_reducible exact H2_)|with_reducible exact H|(rw [Ac];exact H)|exact H
  have Af:=A_ Ac;clear Ac;obtain rfl:=Option.some.inj H;go_enter Tryd.func202,Tryd.ntmps202
  go_wp2_with (first|((with_reducible refine gate_dst (N:=3) rfl ?_);refine Kd.R_lit (Kd.int .i64) _ 3 ?hg (N:=3) ?hd (xs:=([] : List Int)) (inner:=[]) (ok:=fun _=>True) (okp:=fun _=>True) ?hr ?hp (fun _ hk=>hk) trivial (Below.refl _ _) (Nat.le_refl _) (by simp) ?_;(case hd=>rfl);(case hg=>rfl);(case hr=>go_simp;try rfl);(case hp=>exact (Reps.none _ _));intro Ai w3 ho4 hb hg_ hnew_;clear hg_ hnew_;(first|rw [← Ad.out] at ho4|(simp only [Int.reduceToNat] at ho4;rw [← Ad.out] at ho4));have Ae:=A_ (Kd.R_lower ho4 (below_size bb_));replace HB:=A_ (below_step bb_ hb);clear hb ho4)|((with_reducible refine gate_builtin (b:=.append) (xs:=#[.tmp 3,.tmp 4]) rfl ?_);at_builtin;refine Kd.R_append_rows (Kd.int .i64) (w0:=w) w.heap.size rfl (.tmp 3) (.tmp 4) 22 3 (.int .i64 0) 8 rfl Tryd.underlying22 info3 rfl (by decide) (by omega) Ai Aa l0 _ _ _ (fun _=>True) (fun _=>False) rfl rfl ?aO ?aR (fun _ _ h=>h) (fun _ h=>h.elim) ?aF ?aB ?aS ?aL ?_;(case aR=>exact cl_ (Kd.C_below HR0.out HB.out));(case aB=>exact bb_);(case aF=>exact (fun _ _=>trivial));(case aO=>exact (rl_ Ae));(case aS=>exact (below_size bb_));(case aL=>have:=LMc2.out;omega);intro Aj w5 ho hb hg hat;rw [← Af.out] at ho;replace HB:=A_ (hb);have Ag:=A_ (ho);clear Ae;clear ho hb hg hat))
  go_ret
  exact ⟨_,by first|rfl|(simp [errW_none,errW_some] <;> rfl)|(simp [*,errW_none,errW_some] <;> rfl),rl_ Ag,bb_⟩
 ·rw [if_neg c2] at H;exact absurd H (by simp)
def Abd.l0 : Nat → Int → Int → List Int → Int → Int → Option (Bool)
 | 0,_,_,_,_,_=>none
 | k + 1,x1,x2,x9,x10,x11=>if x11 < x10 then (if 0 ≤ x11 then (if x11 < (x9.length : Int) then ((Abf.f (rd x9 x11) x1 x2).bind fun t475=>(if t475 = true then (Abd.l0 k x1 x2 x9 x10 (wrap64 (x11 + 1))) else (some false))) else (none)) else (none)) else (some true)
def Abd.f (k : Nat) (l0 : List Int) (a1 : Int) (a2 : Int) : Option (Bool) := Abd.l0 k a1 a2 l0 (l0.length : Int) 0
set_option maxHeartbeats 8000000 in
set_option maxRecDepth 100000 in
theorem Abd.calls (k : Nat) (A0 : Option Addr) (c0 : Nat) (l0 : List Int) (a1 : Int) (a2 : Int) (r : Bool) (w : World) (hr0 : Kd.C (Kd.int .i64) w A0 l0.length l0) (hc0 : l0.length ≤ c0) (h : Abd.f k l0 a1 a2 = some r) :
 Calls Tryd.prog 214 #[.slice A0 l0.length c0,.int .i64 a1,.int .i64 a2] w fun e w'=>e = .returned (.bool r) ∧ Drawn0 w w':=by
 have HR0:=A_ hr0;have HC0:=A_ hc0;clear hr0 hc0;have H : (Abd.l0 k a1 a2 l0 (l0.length : Int) 0) = some r:=h;clear h;have H':=A_ H;clear H;go_enter Tryd.func214,Tryd.ntmps214
 go_wp2
 go_loopg [11] k (fun kq v11 w'=>∃ (x11_1 : Int),v11 = .int .i64 x11_1 ∧ Aside0 (Abd.l0 kq a1 a2 l0 (l0.length : Int) x11_1 = some r) ∧ Aside0 (kq ≤ k) ∧ Drawn0 w w')
 case atStart=>exact ⟨(0),(by first|rfl|(simp;done)|(simp [*];done)),H',⟨Nat.le_refl _⟩,by repeat (first|exact Drawn0.refl _|apply Drawn0.step)⟩
 case round =>
  clear H';try clear c2
  try clear p2
  obtain ⟨x11_1,rfl,HA,HK1,⟨m1,rfl⟩⟩:=hrel;cases gk with
  | zero => exact absurd HA.out (by simp [Abd.l0])
  | succ k1 =>
   have H:=HA.out;clear HA;simp only [Abd.l0] at H
   by_cases c4 : x11_1 < (l0.length : Int)
   ·rw [if_pos c4] at H;have c4b0 : decide (x11_1 < (l0.length : Int)) = true:=decide_eq_true c4;clear c4;by_cases c5 : 0 ≤ x11_1
    ·rw [if_pos c5] at H;have c5b0 : decide (0 ≤ x11_1) = true:=decide_eq_true c5;clear c5;by_cases c6 : x11_1 < (l0.length : Int)
     ·rw [if_pos c6] at H;have c6b0 : decide (x11_1 < (l0.length : Int)) = true:=decide_eq_true c6;clear c6;replace H:=Option.bind_eq_some_iff.mp H;obtain ⟨Ae,A70,H⟩:=H;replace H : (if Ae = true then (Abd.l0 k1 a1 a2 l0 (l0.length : Int) (wrap64 (x11_1 + 1))) else (some false)) = some r:=H;have A7:=A_ A70;clear A70;by_cases c8 : Ae = true
      ·subst c8;have H1 : (Abd.l0 k1 a1 a2 l0 (l0.length : Int) (wrap64 (x11_1 + 1))) = some r:=by rw [if_pos rfl] at H;exact H
       clear H;have H:=H1;clear H1;have H':=A_ H;clear H;have Aa : 0 ≤ (x11_1 : Int):=of_decide_eq_true (by first|(with_reducible assumption)|assumption);have Ab : x11_1 < (l0.length : Int):=of_decide_eq_true (by first|(with_reducible assumption)|assumption);obtain ⟨Af,Ac,Ad⟩:=Kd.at_int HR0.out x11_1 Aa Ab;cases Ac
       replace Aa:=eq_true Aa;replace Ab:=eq_true Ab;go_wp2_with (first|((with_reducible refine gate_callee (f:=127) rfl ?_);refine goesL_ (some 18) rfl rfl Tryd.func127 (by kernel_rfl) rfl #[.int .i64 (rd l0 x11_1),.int .i64 a1,.int .i64 a2] rfl au_ ?_;(with_reducible refine (Abf.calls (rd l0 x11_1) a1 a2 true _ A7.out).mono ?_);rintro e w' ⟨rfl,⟨nd,rfl⟩⟩;refine ⟨_,rfl,?_⟩))
       go_roundg k1
       case measure=>have:=HK1.out;omega
       case rel=>exact ⟨(wrap64 (x11_1 + 1)),(by first|rfl|(simp;done)|(simp [*];done)),H',⟨by have:=HK1.out;omega⟩,by repeat (first|exact Drawn0.refl _|apply Drawn0.step)⟩
      ·replace c8:=Bool.eq_false_iff.mpr c8;subst c8;have H1 : (some false) = some r:=by rw [if_neg (show ¬ (false = true) by decide)] at H;exact H
       clear H;have H:=H1;clear H1;obtain rfl:=Option.some.inj H;have Aa : 0 ≤ (x11_1 : Int):=of_decide_eq_true (by first|(with_reducible assumption)|assumption);have Ab : x11_1 < (l0.length : Int):=of_decide_eq_true (by first|(with_reducible assumption)|assumption);obtain ⟨Af,Ac,Ad⟩:=Kd.at_int HR0.out x11_1 Aa Ab;cases Ac
       replace Aa:=eq_true Aa;replace Ab:=eq_true Ab;go_wp2_with (first|((with_reducible refine gate_callee (f:=127) rfl ?_);refine goesL_ (some 18) rfl rfl Tryd.func127 (by kernel_rfl) rfl #[.int .i64 (rd l0 x11_1),.int .i64 a1,.int .i64 a2] rfl au_ ?_;(with_reducible refine (Abf.calls (rd l0 x11_1) a1 a2 false _ A7.out).mono ?_);rintro e w' ⟨rfl,⟨nd,rfl⟩⟩;refine ⟨_,rfl,?_⟩))
       go_ret
       exact ⟨by first|rfl|(simp;done)|(simp [*];done),by repeat (first|exact Drawn0.refl _|apply Drawn0.step)⟩
     ·rw [if_neg c6] at H;exact absurd H (by simp)
    ·rw [if_neg c5] at H;exact absurd H (by simp)
   ·rw [if_neg c4] at H;have c4b0 : decide (x11_1 < (l0.length : Int)) = false:=decide_eq_false c4;clear c4;obtain rfl:=Option.some.inj H;go_wp2
    go_ret
    exact ⟨by first|rfl|(simp;done)|(simp [*];done),by repeat (first|exact Drawn0.refl _|apply Drawn0.step)⟩
def Abn.f (k : Nat) (a0_0 : Int) (l0_1 : List Int) : Option (Bool) := (Abf.f a0_0 0 10).bind fun t477 => (if t477 = true then (if (l0_1.length : Int) = a0_0 then (if 0 ≤ a0_0 then ((Abd.f k l0_1 0 (wrap64 ((shl .i64 1 a0_0) - 1))).bind fun t478 => (some t478)) else (none)) else (some false)) else (some false))
set_option maxHeartbeats 8000000 in
set_option maxRecDepth 100000 in
theorem Abn.calls (k : Nat) (a0_0 : Int) (A0_1 : Option Addr) (c0_1 : Nat) (l0_1 : List Int) (r : Bool) (w : World) (hr0_1 : Kd.C (Kd.int .i64) w A0_1 l0_1.length l0_1) (hc0_1 : l0_1.length ≤ c0_1) (h : Abn.f k a0_0 l0_1 = some r) :
 Calls Tryd.prog 207 #[.agg #[.int .i64 a0_0,.slice A0_1 l0_1.length c0_1]] w fun e w'=>e = .returned (.bool r) ∧ Below w.heap.size w w':=by
 have hu28:=Tryd.underlying28;have HR0_1:=A_ hr0_1;have HC0_1:=A_ hc0_1;clear hr0_1 hc0_1;have HB:=A_ (Below.refl w.heap.size w);have H : ((Abf.f a0_0 0 10).bind fun Af=>(if Af = true then (if (l0_1.length : Int) = a0_0 then (if 0 ≤ a0_0 then ((Abd.f k l0_1 0 (wrap64 ((shl .i64 1 a0_0) - 1))).bind fun Ac=>(some Ac)) else (none)) else (some false)) else (some false))) = some r:=h;clear h;replace H:=Option.bind_eq_some_iff.mp H;obtain ⟨Af,A20,H⟩:=H;replace H : (if Af = true then (if (l0_1.length : Int) = a0_0 then (if 0 ≤ a0_0 then ((Abd.f k l0_1 0 (wrap64 ((shl .i64 1 a0_0) - 1))).bind fun Ac=>(some Ac)) else (none)) else (some false)) else (some false)) = some r:=H;have A2:=A_ A20;clear A20;by_cases c3 : Af = true
 ·subst c3;have H1 : (if (l0_1.length : Int) = a0_0 then (if 0 ≤ a0_0 then ((Abd.f k l0_1 0 (wrap64 ((shl .i64 1 a0_0) - 1))).bind fun Ac=>(some Ac)) else (none)) else (some false)) = some r:=by rw [if_pos rfl] at H;exact H
  clear H;have H:=H1;clear H1;by_cases c4 : (l0_1.length : Int) = a0_0
  ·rw [if_pos c4] at H;have c4b0 : ((l0_1.length : Int) == a0_0) = true:=beq_iff_eq.mpr c4;have c4b1 : ((l0_1.length : Int) != a0_0) = false:=bne_eq_false_iff_eq.mpr c4;clear c4;by_cases c5 : 0 ≤ a0_0
   ·rw [if_pos c5] at H;have c5b0:=eq_true c5;have c5b1 : decide (0 ≤ a0_0) = true:=decide_eq_true c5;clear c5;obtain ⟨ji6,hji6⟩ : ∃ j_ : Int,(shl .i64 1 a0_0) = j_:=⟨_,rfl⟩;replace H : ((Abd.f k l0_1 0 (wrap64 ((ji6) - 1))).bind fun Ac=>(some Ac)) = some r:=by first|(rw [hji6] at H;exact H)|(simp only [hji6] at H ⊢;exact H)
    (try rw [hji6] at A2);have hji6_ : (IntKind.i64.wrap (1 * 2 ^ min a0_0.toNat 64)) = ji6:=hji6;have hji6z : a0_0 ≤ 64 → (IntKind.i64.wrap (1 * 2 ^ a0_0.toNat)) = ji6:=shl_small hji6;have hji6u : (IntKind.i64.wrap (2 ^ min a0_0.toNat 64)) = ji6:=by have h_:=hji6_;rw [Int.one_mul] at h_;exact h_
    have hji6v : a0_0 ≤ 64 → (IntKind.i64.wrap (2 ^ a0_0.toNat)) = ji6:=fun hle_=>by have h_:=hji6z hle_;rw [Int.one_mul] at h_;exact h_
    have hji6y : (wrap64 (1 * 2 ^ min a0_0.toNat 64)) = ji6:=(i64_w _).symm.trans hji6_;have hji6x : a0_0 ≤ 64 → (wrap64 (1 * 2 ^ a0_0.toNat)) = ji6:=fun h_=>(i64_w _).symm.trans (hji6z h_)
    replace H:=Option.bind_eq_some_iff.mp H;obtain ⟨Ac,A70,H⟩:=H;replace H : (some Ac) = some r:=H;have A7:=A_ A70;clear A70;obtain rfl:=Option.some.inj H;go_enter Tryd.func207,Tryd.ntmps207
    go_wp2_with (first|((with_reducible refine gate_dst (N:=1) rfl ?_);(try (refine gate_guard (by rfl) ?_;dsimp only));refine box_event ?hg (N:=1) ?hd (cs:=#[.int .i64 a0_0,.slice A0_1 l0_1.length c0_1]) (t:=28) ?hr ?_;(case hd=>rfl);(case hg=>rfl);(case hr=>go_simp;try rfl);intro Ab hg w8 hbox hb;have Aa:=A_ (hbox);have Ad:=A_ (gw_ (w:=w) hg bb_);have Ae:=A_ (gw_ (w:=w) hg bb_);replace HB:=A_ (below_step bb_ hb);clear hb hbox hg;have hcz9_0 : w8.cell? ⟨Ab,0,none⟩ = some (.int .i64 a0_0):=blk_cell Aa.out 0;have hcz9_1 : w8.cell? ⟨Ab,1,none⟩ = some (.slice A0_1 l0_1.length c0_1):=blk_cell Aa.out 1;have hfz9_0:=blk_frozen Aa.out 0;have hfz9_1:=blk_frozen Aa.out 1)|(go_at_call 127;(with_reducible refine (Abf.calls a0_0 0 10 true _ A2.out).mono ?_);rintro e w' ⟨rfl,⟨nd,rfl⟩⟩;(try first|exact ⟨rfl,_,World.drewN_drewN _ _ _⟩|exact ⟨rfl,_,Eq.trans (World.drewN_drewN _ _ _) (congrArg (World.drewN _) (Nat.add_assoc _ _ _))⟩))|(go_at_call 214;(with_reducible refine (Abd.calls k _ _ l0_1 0 (wrap64 ((ji6) - 1)) Ac _ ?side1 ?side2 A7.out).mono ?_);(case side1=>exact cl_ (Kd.C_below HR0_1.out bb_));(case side2=>exact HC0_1.out);rintro e w' ⟨rfl,⟨nd,rfl⟩⟩;(try first|exact ⟨rfl,_,World.drewN_drewN _ _ _⟩|exact ⟨rfl,_,Eq.trans (World.drewN_drewN _ _ _) (congrArg (World.drewN _) (Nat.add_assoc _ _ _))⟩)))
    repeat (go_quiet (first|((with_reducible refine gate_dst (N:=1) rfl ?_);(try (refine gate_guard (by rfl) ?_;dsimp only));refine box_event ?hg (N:=1) ?hd (cs:=#[.int .i64 a0_0,.slice A0_1 l0_1.length c0_1]) (t:=28) ?hr ?_;(case hd=>rfl);(case hg=>rfl);(case hr=>go_simp;try rfl);intro Ab hg w8 hbox hb;have Aa:=A_ (hbox);have Ad:=A_ (gw_ (w:=w) hg bb_);have Ae:=A_ (gw_ (w:=w) hg bb_);replace HB:=A_ (below_step bb_ hb);clear hb hbox hg;have hcz9_0 : w8.cell? ⟨Ab,0,none⟩ = some (.int .i64 a0_0):=blk_cell Aa.out 0;have hcz9_1 : w8.cell? ⟨Ab,1,none⟩ = some (.slice A0_1 l0_1.length c0_1):=blk_cell Aa.out 1;have hfz9_0:=blk_frozen Aa.out 0;have hfz9_1:=blk_frozen Aa.out 1)|(go_at_call 127;(with_reducible refine (Abf.calls a0_0 0 10 true _ A2.out).mono ?_);rintro e w' ⟨rfl,⟨nd,rfl⟩⟩;(try first|exact ⟨rfl,_,World.drewN_drewN _ _ _⟩|exact ⟨rfl,_,Eq.trans (World.drewN_drewN _ _ _) (congrArg (World.drewN _) (Nat.add_assoc _ _ _))⟩))|(go_at_call 214;(with_reducible refine (Abd.calls k _ _ l0_1 0 (wrap64 ((ji6) - 1)) Ac _ ?side1 ?side2 A7.out).mono ?_);(case side1=>exact cl_ (Kd.C_below HR0_1.out bb_));(case side2=>exact HC0_1.out);rintro e w' ⟨rfl,⟨nd,rfl⟩⟩;(try first|exact ⟨rfl,_,World.drewN_drewN _ _ _⟩|exact ⟨rfl,_,Eq.trans (World.drewN_drewN _ _ _) (congrArg (World.drewN _) (Nat.add_assoc _ _ _))⟩)));try go_wp2_with (first|((with_reducible refine gate_dst (N:=1) rfl ?_);(try (refine gate_guard (by rfl) ?_;dsimp only));refine box_event ?hg (N:=1) ?hd (cs:=#[.int .i64 a0_0,.slice A0_1 l0_1.length c0_1]) (t:=28) ?hr ?_;(case hd=>rfl);(case hg=>rfl);(case hr=>go_simp;try rfl);intro Ab hg w8 hbox hb;have Aa:=A_ (hbox);have Ad:=A_ (gw_ (w:=w) hg bb_);have Ae:=A_ (gw_ (w:=w) hg bb_);replace HB:=A_ (below_step bb_ hb);clear hb hbox hg;have hcz9_0 : w8.cell? ⟨Ab,0,none⟩ = some (.int .i64 a0_0):=blk_cell Aa.out 0;have hcz9_1 : w8.cell? ⟨Ab,1,none⟩ = some (.slice A0_1 l0_1.length c0_1):=blk_cell Aa.out 1;have hfz9_0:=blk_frozen Aa.out 0;have hfz9_1:=blk_frozen Aa.out 1)|(go_at_call 127;(with_reducible refine (Abf.calls a0_0 0 10 true _ A2.out).mono ?_);rintro e w' ⟨rfl,⟨nd,rfl⟩⟩;(try first|exact ⟨rfl,_,World.drewN_drewN _ _ _⟩|exact ⟨rfl,_,Eq.trans (World.drewN_drewN _ _ _) (congrArg (World.drewN _) (Nat.add_assoc _ _ _))⟩))|(go_at_call 214;(with_reducible refine (Abd.calls k _ _ l0_1 0 (wrap64 ((ji6) - 1)) Ac _ ?side1 ?side2 A7.out).mono ?_);(case side1=>exact cl_ (Kd.C_below HR0_1.out bb_));(case side2=>exact HC0_1.out);rintro e w' ⟨rfl,⟨nd,rfl⟩⟩;(try first|exact ⟨rfl,_,World.drewN_drewN _ _ _⟩|exact ⟨rfl,_,Eq.trans (World.drewN_drewN _ _ _) (congrArg (World.drewN _) (Nat.add_assoc _ _ _))⟩))))
    go_ret
    exact ⟨by first|rfl|(simp [errW_none,errW_some] <;> rfl)|(simp only [← hji6];first|rfl|(simp [errW_none,errW_some] <;> rfl))|(simp [*,errW_none,errW_some] <;> rfl),bb_⟩
   ·rw [if_neg c5] at H;exact absurd H (by simp)
  ·rw [if_neg c4] at H;have c4b0 : ((l0_1.length : Int) == a0_0) = false:=beq_eq_false_iff_ne.mpr c4;have c4b1 : ((l0_1.length : Int) != a0_0) = true:=bne_iff_ne.mpr c4;obtain rfl:=Option.some.inj H;go_enter Tryd.func207,Tryd.ntmps207
   go_wp2_with (first|((with_reducible refine gate_dst (N:=1) rfl ?_);(try (refine gate_guard (by rfl) ?_;dsimp only));refine box_event ?hg (N:=1) ?hd (cs:=#[.int .i64 a0_0,.slice A0_1 l0_1.length c0_1]) (t:=28) ?hr ?_;(case hd=>rfl);(case hg=>rfl);(case hr=>go_simp;try rfl);intro Ab hg w10 hbox hb;have Aa:=A_ (hbox);have Ad:=A_ (gw_ (w:=w) hg bb_);have Ae:=A_ (gw_ (w:=w) hg bb_);replace HB:=A_ (below_step bb_ hb);clear hb hbox hg;have hcz11_0 : w10.cell? ⟨Ab,0,none⟩ = some (.int .i64 a0_0):=blk_cell Aa.out 0;have hcz11_1 : w10.cell? ⟨Ab,1,none⟩ = some (.slice A0_1 l0_1.length c0_1):=blk_cell Aa.out 1;have hfz11_0:=blk_frozen Aa.out 0;have hfz11_1:=blk_frozen Aa.out 1)|(go_at_call 127;(with_reducible refine (Abf.calls a0_0 0 10 true _ A2.out).mono ?_);rintro e w' ⟨rfl,⟨nd,rfl⟩⟩;(try first|exact ⟨rfl,_,World.drewN_drewN _ _ _⟩|exact ⟨rfl,_,Eq.trans (World.drewN_drewN _ _ _) (congrArg (World.drewN _) (Nat.add_assoc _ _ _))⟩)))
   repeat (go_quiet (first|((with_reducible refine gate_dst (N:=1) rfl ?_);(try (refine gate_guard (by rfl) ?_;dsimp only));refine box_event ?hg (N:=1) ?hd (cs:=#[.int .i64 a0_0,.slice A0_1 l0_1.length c0_1]) (t:=28) ?hr ?_;(case hd=>rfl);(case hg=>rfl);(case hr=>go_simp;try rfl);intro Ab hg w10 hbox hb;have Aa:=A_ (hbox);have Ad:=A_ (gw_ (w:=w) hg bb_);have Ae:=A_ (gw_ (w:=w) hg bb_);replace HB:=A_ (below_step bb_ hb);clear hb hbox hg;have hcz11_0 : w10.cell? ⟨Ab,0,none⟩ = some (.int .i64 a0_0):=blk_cell Aa.out 0;have hcz11_1 : w10.cell? ⟨Ab,1,none⟩ = some (.slice A0_1 l0_1.length c0_1):=blk_cell Aa.out 1;have hfz11_0:=blk_frozen Aa.out 0;have hfz11_1:=blk_frozen Aa.out 1)|(go_at_call 127;(with_reducible refine (Abf.calls a0_0 0 10 true _ A2.out).mono ?_);rintro e w' ⟨rfl,⟨nd,rfl⟩⟩;(try first|exact ⟨rfl,_,World.drewN_drewN _ _ _⟩|exact ⟨rfl,_,Eq.trans (World.drewN_drewN _ _ _) (congrArg (World.drewN _) (Nat.add_assoc _ _ _))⟩)));try go_wp2_with (first|((with_reducible refine gate_dst (N:=1) rfl ?_);(try (refine gate_guard (by rfl) ?_;dsimp only));refine box_event ?hg (N:=1) ?hd (cs:=#[.int .i64 a0_0,.slice A0_1 l0_1.length c0_1]) (t:=28) ?hr ?_;(case hd=>rfl);(case hg=>rfl);(case hr=>go_simp;try rfl);intro Ab hg w10 hbox hb;have Aa:=A_ (hbox);have Ad:=A_ (gw_ (w:=w) hg bb_);have Ae:=A_ (gw_ (w:=w) hg bb_);replace HB:=A_ (below_step bb_ hb);clear hb hbox hg;have hcz11_0 : w10.cell? ⟨Ab,0,none⟩ = some (.int .i64 a0_0):=blk_cell Aa.out 0;have hcz11_1 : w10.cell? ⟨Ab,1,none⟩ = some (.slice A0_1 l0_1.length c0_1):=blk_cell Aa.out 1;have hfz11_0:=blk_frozen Aa.out 0;have hfz11_1:=blk_frozen Aa.out 1)|(go_at_call 127;(with_reducible refine (Abf.calls a0_0 0 10 true _ A2.out).mono ?_);rintro e w' ⟨rfl,⟨nd,rfl⟩⟩;(try first|exact ⟨rfl,_,World.drewN_drewN _ _ _⟩|exact ⟨rfl,_,Eq.trans (World.drewN_drewN _ _ _) (congrArg (World.drewN _) (Nat.add_assoc _ _ _))⟩))))
   go_ret
   exact ⟨by first|rfl|(simp [errW_none,errW_some] <;> rfl)|(simp [*,errW_none,errW_some] <;> rfl),bb_⟩
 ·replace c3:=Bool.eq_false_iff.mpr c3;subst c3;have H1 : (some false) = some r:=by rw [if_neg (show ¬ (false = true) by decide)] at H;exact H
  clear H;have H:=H1;clear H1;obtain rfl:=Option.some.inj H;go_enter Tryd.func207,Tryd.ntmps207
  go_wp2_with (first|((with_reducible refine gate_dst (N:=1) rfl ?_);(try (refine gate_guard (by rfl) ?_;dsimp only));refine box_event ?hg (N:=1) ?hd (cs:=#[.int .i64 a0_0,.slice A0_1 l0_1.length c0_1]) (t:=28) ?hr ?_;(case hd=>rfl);(case hg=>rfl);(case hr=>go_simp;try rfl);intro Ab hg w12 hbox hb;have Aa:=A_ (hbox);have Ad:=A_ (gw_ (w:=w) hg bb_);have Ae:=A_ (gw_ (w:=w) hg bb_);replace HB:=A_ (below_step bb_ hb);clear hb hbox hg;have hcz13_0 : w12.cell? ⟨Ab,0,none⟩ = some (.int .i64 a0_0):=blk_cell Aa.out 0;have hcz13_1 : w12.cell? ⟨Ab,1,none⟩ = some (.slice A0_1 l0_1.length c0_1):=blk_cell Aa.out 1;have hfz13_0:=blk_frozen Aa.out 0;have hfz13_1:=blk_frozen Aa.out 1)|(go_at_call 127;(with_reducible refine (Abf.calls a0_0 0 10 false _ A2.out).mono ?_);rintro e w' ⟨rfl,⟨nd,rfl⟩⟩;(try first|exact ⟨rfl,_,World.drewN_drewN _ _ _⟩|exact ⟨rfl,_,Eq.trans (World.drewN_drewN _ _ _) (congrArg (World.drewN _) (Nat.add_assoc _ _ _))⟩)))
  repeat (go_quiet (first|((with_reducible refine gate_dst (N:=1) rfl ?_);(try (refine gate_guard (by rfl) ?_;dsimp only));refine box_event ?hg (N:=1) ?hd (cs:=#[.int .i64 a0_0,.slice A0_1 l0_1.length c0_1]) (t:=28) ?hr ?_;(case hd=>rfl);(case hg=>rfl);(case hr=>go_simp;try rfl);intro Ab hg w12 hbox hb;have Aa:=A_ (hbox);have Ad:=A_ (gw_ (w:=w) hg bb_);have Ae:=A_ (gw_ (w:=w) hg bb_);replace HB:=A_ (below_step bb_ hb);clear hb hbox hg;have hcz13_0 : w12.cell? ⟨Ab,0,none⟩ = some (.int .i64 a0_0):=blk_cell Aa.out 0;have hcz13_1 : w12.cell? ⟨Ab,1,none⟩ = some (.slice A0_1 l0_1.length c0_1):=blk_cell Aa.out 1;have hfz13_0:=blk_frozen Aa.out 0;have hfz13_1:=blk_frozen Aa.out 1)|(go_at_call 127;(with_reducible refine (Abf.calls a0_0 0 10 false _ A2.out).mono ?_);rintro e w' ⟨rfl,⟨nd,rfl⟩⟩;(try first|exact ⟨rfl,_,World.drewN_drewN _ _ _⟩|exact ⟨rfl,_,Eq.trans (World.drewN_drewN _ _ _) (congrArg (World.drewN _) (Nat.add_assoc _ _ _))⟩)));try go_wp2_with (first|((with_reducible refine gate_dst (N:=1) rfl ?_);(try (refine gate_guard (by rfl) ?_;dsimp only));refine box_event ?hg (N:=1) ?hd (cs:=#[.int .i64 a0_0,.slice A0_1 l0_1.length c0_1]) (t:=28) ?hr ?_;(case hd=>rfl);(case hg=>rfl);(case hr=>go_simp;try rfl);intro Ab hg w12 hbox hb;have Aa:=A_ (hbox);have Ad:=A_ (gw_ (w:=w) hg bb_);have Ae:=A_ (gw_ (w:=w) hg bb_);replace HB:=A_ (below_step bb_ hb);clear hb hbox hg;have hcz13_0 : w12.cell? ⟨Ab,0,none⟩ = some (.int .i64 a0_0):=blk_cell Aa.out 0;have hcz13_1 : w12.cell? ⟨Ab,1,none⟩ = some (.slice A0_1 l0_1.length c0_1):=blk_cell Aa.out 1;have hfz13_0:=blk_frozen Aa.out 0;have hfz13_1:=blk_frozen Aa.out 1)|(go_at_call 127;(with_reducible refine (Abf.calls a0_0 0 10 false _ A2.out).mono ?_);rintro e w' ⟨rfl,⟨nd,rfl⟩⟩;(try first|exact ⟨rfl,_,World.drewN_drewN _ _ _⟩|exact ⟨rfl,_,Eq.trans (World.drewN_drewN _ _ _) (congrArg (World.drewN _) (Nat.add_assoc _ _ _))⟩))))
  go_ret
  exact ⟨by first|rfl|(simp [errW_none,errW_some] <;> rfl)|(simp [*,errW_none,errW_some] <;> rfl),bb_⟩
end Go.Proofs.YtimjblnglhmakaaDoor.P

