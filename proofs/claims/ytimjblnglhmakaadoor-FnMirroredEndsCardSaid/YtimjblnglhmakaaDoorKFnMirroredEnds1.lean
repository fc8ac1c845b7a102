/- A part of the proof that the law FnMirroredEnds holds at every input. Written by wip/pack.py: the kit's printed words that are used, the functions' walks as wip/gen.py prints them, and hand proofs. -/
import Derived.Test.YtimjblnglhmakaaDoorKFnMirroredEnds0
import Derived.RangeFuncBox
import Derived.RangeFuncLeaves
import Derived.Shelf.Abstract
import Derived.Shelf.AbstractIn
import Derived.WalkKit
import Derived.OwnWalkIn
import Derived.TacticsInMore
import Derived.LoopNIn
import Derived.LoopIn
import Derived.Maps.AppendAt
import Derived.Lib.SlKeysI
import Derived.Shelf.SortM.Plain
import Derived.Shelf.SortM.SortNone
import Derived.Shelf.SlicesG.CompactI
import Derived.Shelf.SlicesG.SearchI
import Derived.Test.YtimjblnglhmakaaDoorProg
namespace Go.Proofs.YtimjblnglhmakaaDoor.HD
open Go.RowKit Go.Shelf Go.Maps Go.Sort Go.Proofs.YtimjblnglhmakaaDoorW.PrintMore Go.Proofs.YtimjblnglhmakaaDoorW.PrintLast Go.Proofs.YtimjblnglhmakaaDoorW.PrintWords
attribute [local go_sem] Oper.semAt_some
def sortL_ren : Go.Shelf.Ren := ⟨fun | 5 => 190 | 8 => 232 | 7 => 231 | 19 => 264 | 20 => 265 | 10 => 256 | 11 => 257 | 12 => 258 | 13 => 259 | 14 => 260 | 15 => 261 | 16 => 251 | 17 => 262 | 18 => 263 | 30 => 280 | 31 => 281 | 32 => 282 | 33 => 283 | 34 => 284 | 35 => 279 | 40 => 299 | n => n, fun | 23 => 22 | 25 => 3 | 3 => 3 | 32 => 126 | 22 => 22 | 0 => 0 | 44 => 145 | 46 => 101 | 4 => 4 | 36 => 157 | 35 => 156 | 41 => 50 | 5 => 5 | 9 => 9 | 53 => 173 | 57 => 177 | 63 => 196 | 64 => 68 | n => n, fun | n => n⟩
theorem sortL : Go.Proofs.SlLaysM.n5 Tryd.prog sortL_ren := {
  mixed := by kernel_rfl,
  f5 := ⟨Tryd.f190.name, by decide, Tryd.func190.trans (congrArg some (by kernel_rfl))⟩,
  f7 := ⟨Tryd.f231.name, by decide, Tryd.func231.trans (congrArg some (by kernel_rfl))⟩,
  f8 := Tryd.func232.trans (congrArg some (by kernel_rfl)),
  f10 := ⟨Tryd.f256.name, by decide, Tryd.func256.trans (congrArg some (by kernel_rfl))⟩,
  f11 := ⟨Tryd.f257.name, by decide, Tryd.func257.trans (congrArg some (by kernel_rfl))⟩,
  f12 := ⟨Tryd.f258.name, by decide, Tryd.func258.trans (congrArg some (by kernel_rfl))⟩,
  f13 := ⟨Tryd.f259.name, by decide, Tryd.func259.trans (congrArg some (by kernel_rfl))⟩,
  f14 := ⟨Tryd.f260.name, by decide, Tryd.func260.trans (congrArg some (by kernel_rfl))⟩,
  f15 := ⟨Tryd.f261.name, by decide, Tryd.func261.trans (congrArg some (by kernel_rfl))⟩,
  f16 := ⟨Tryd.f251.name, by decide, Tryd.func251.trans (congrArg some (by kernel_rfl))⟩,
  f17 := ⟨Tryd.f262.name, by decide, Tryd.func262.trans (congrArg some (by kernel_rfl))⟩,
  f18 := ⟨Tryd.f263.name, by decide, Tryd.func263.trans (congrArg some (by kernel_rfl))⟩,
  f19 := Tryd.func264.trans (congrArg some (by kernel_rfl)),
  f20 := Tryd.func265.trans (congrArg some (by kernel_rfl)),
  f30 := ⟨Tryd.f280.name, by decide, Tryd.func280.trans (congrArg some (by kernel_rfl))⟩,
  f31 := Tryd.func281.trans (congrArg some (by kernel_rfl)),
  f32 := Tryd.func282.trans (congrArg some (by kernel_rfl)),
  f33 := ⟨Tryd.f283.name, by decide, Tryd.func283.trans (congrArg some (by kernel_rfl))⟩,
  f34 := ⟨Tryd.f284.name, by decide, Tryd.func284.trans (congrArg some (by kernel_rfl))⟩,
  f35 := ⟨Tryd.f279.name, by decide, Tryd.func279.trans (congrArg some (by kernel_rfl))⟩,
  f40 := ⟨Tryd.f299.name, by decide, Tryd.func299.trans (congrArg some (by kernel_rfl))⟩,
  t0 := Tryd.underlying0,
  a0 := Tryd.isAgg0,
  z0 := Tryd.sizeOf0,
  v0 := Tryd.zeroValue0,
  t3 := Tryd.underlying3,
  a3 := Tryd.isAgg3,
  z3 := Tryd.sizeOf3,
  v3 := Tryd.zeroValue3,
  t4 := Tryd.underlying4,
  a4 := Tryd.isAgg4,
  z4 := Tryd.sizeOf4,
  v4 := Tryd.zeroValue4,
  t5 := Tryd.underlying5,
  a5 := Tryd.isAgg5,
  z5 := Tryd.sizeOf5,
  v5 := Tryd.zeroValue5,
  t9 := Tryd.underlying9,
  a9 := Tryd.isAgg9,
  z9 := Tryd.sizeOf9,
  v9 := Tryd.zeroValue9,
  t22 := Tryd.underlying22,
  a22 := Tryd.isAgg22,
  z22 := Tryd.sizeOf22,
  v22 := Tryd.zeroValue22,
  t23 := Tryd.underlying22,
  a23 := Tryd.isAgg22,
  z23 := Tryd.sizeOf22,
  v23 := Tryd.zeroValue22,
  t25 := Tryd.underlying3,
  a25 := Tryd.isAgg3,
  z25 := Tryd.sizeOf3,
  v25 := Tryd.zeroValue3,
  t32 := Tryd.underlying126,
  a32 := Tryd.isAgg126,
  z32 := Tryd.sizeOf126,
  v32 := Tryd.zeroValue126,
  t35 := Tryd.underlying156,
  a35 := Tryd.isAgg156,
  z35 := Tryd.sizeOf156,
  v35 := Tryd.zeroValue156,
  t36 := Tryd.underlying157,
  a36 := Tryd.isAgg157,
  z36 := Tryd.sizeOf157,
  v36 := Tryd.zeroValue157,
  t41 := Tryd.underlying50,
  a41 := Tryd.isAgg50,
  z41 := Tryd.sizeOf50,
  v41 := Tryd.zeroValue50,
  t44 := Tryd.underlying145,
  a44 := Tryd.isAgg145,
  z44 := Tryd.sizeOf145,
  v44 := Tryd.zeroValue145,
  t46 := Tryd.underlying101,
  a46 := Tryd.isAgg101,
  z46 := Tryd.sizeOf101,
  v46 := Tryd.zeroValue101,
  t53 := Tryd.underlying173,
  a53 := Tryd.isAgg173,
  z53 := Tryd.sizeOf173,
  v53 := Tryd.zeroValue173,
  t57 := Tryd.underlying177,
  a57 := Tryd.isAgg177,
  z57 := Tryd.sizeOf177,
  v57 := Tryd.zeroValue177,
  t63 := Tryd.underlying196,
  a63 := Tryd.isAgg196,
  z63 := Tryd.sizeOf196,
  v63 := Tryd.zeroValue196,
  t64 := Tryd.underlying68,
  a64 := Tryd.isAgg68,
  z64 := Tryd.sizeOf68,
  v64 := Tryd.zeroValue68 }
def compactL_ren : Go.Shelf.Ren := ⟨fun | 43 => 233 | n => n, fun | 22 => 22 | 23 => 3 | 3 => 3 | 4 => 4 | 0 => 0 | n => n, fun | n => n⟩
theorem compactL : Go.Proofs.SlLaysN.n43 Tryd.prog compactL_ren := {
  mixed := by kernel_rfl,
  f43 := ⟨Tryd.f233.name, by decide, Tryd.func233.trans (congrArg some (by kernel_rfl))⟩,
  t0 := Tryd.underlying0,
  a0 := Tryd.isAgg0,
  z0 := Tryd.sizeOf0,
  v0 := Tryd.zeroValue0,
  t3 := Tryd.underlying3,
  a3 := Tryd.isAgg3,
  z3 := Tryd.sizeOf3,
  v3 := Tryd.zeroValue3,
  t4 := Tryd.underlying4,
  a4 := Tryd.isAgg4,
  z4 := Tryd.sizeOf4,
  v4 := Tryd.zeroValue4,
  t22 := Tryd.underlying22,
  a22 := Tryd.isAgg22,
  z22 := Tryd.sizeOf22,
  v22 := Tryd.zeroValue22,
  t23 := Tryd.underlying3,
  a23 := Tryd.isAgg3,
  z23 := Tryd.sizeOf3,
  v23 := Tryd.zeroValue3,
  i23 := by kernel_rfl }
def searchL_ren : Go.Shelf.Ren := ⟨fun | 49 => 224 | 59 => 251 | 60 => 252 | 68 => 279 | n => n, fun | 22 => 22 | 23 => 3 | 3 => 3 | 4 => 4 | 51 => 126 | 0 => 0 | n => n, fun | n => n⟩
def upto {α : Type} (f : Nat → α) (k : Nat) : List α := (List.range k).map f
theorem upto_succ {α : Type} (f : Nat → α) (k : Nat) : upto f (k + 1) = upto f k ++ [f k] := by simp [upto, List.range_succ]
theorem upto_length {α : Type} (f : Nat → α) (k : Nat) : (upto f k).length = k := by simp [upto]
theorem upto_all (zs : List Int) : upto (fun j => zs[j]?.getD 0) zs.length = zs := by
  apply List.ext_getElem
  · simp [upto]
  · intro i h1 h2
    simp [upto, h2]
theorem upto_take (zs : List Int) {k : Nat} (hk : k ≤ zs.length) : upto (fun j => zs[j]?.getD 0) k = zs.take k := by
  apply List.ext_getElem
  · simp [upto, hk]
  · intro i h1 h2
    have : i < zs.length := by simp [upto] at h1; omega
    simp [upto, this]
set_option maxRecDepth 100000 in
set_option maxHeartbeats 2000000 in
theorem values1_in (F : Fence) (n : Nat) (h7 : F.fn 267) (hro : F.round = none) (hn : 1 ≤ n) (l Bs n₀ b off len cap : Nat) (zs : List Int) (hreach : len * 8 ≤ 140737488351232) (hb : b < n₀) (J Jx : List Int → World → Prop)
    (hY : ∀ pre x W, J pre W → pre.length < len → YieldAt F (n - 1) Tryd.prog l #[.int .i64 x] W fun e W' =>
      (e = .returned (.bool true) ∧ J (pre ++ [x]) W' ∧ Below n₀ W W') ∨ (e = .returned (.bool false) ∧ Jx (pre ++ [x]) W'))
    (W : World) (hBs : W.cell? ⟨Bs, 0, none⟩ = some (.slice (some ⟨b, off, none⟩) len cap)) (hc : ∀ j, j < len → W.cell? ⟨b, off + j, none⟩ = some (.int .i64 (zs[j]?.getD 0))) (h0 : J [] W) :
    CallsIn F n Tryd.prog 267 #[.func (.yield l) #[] #[], .pointer (some ⟨Bs, 0, none⟩)] W fun e W' => (∃ v, e = .returned v) ∧
      ((∃ ys, ys = upto (fun j => zs[j]?.getD 0) len ∧ J ys W') ∨ (∃ pre, (∃ k, k ≤ len ∧ pre = upto (fun j => zs[j]?.getD 0) k) ∧ Jx pre W')) := by
  refine callsIn_of_wp Tryd.func267 rfl h7 ?_ hro
  simp only [Tryd.ntmps267, List.size_toArray, List.length_cons, List.length_nil, Nat.reduceAdd, Nat.reduceSub, Array.replicate_succ, Array.replicate_zero, List.push_toArray, List.append_toArray, List.nil_append, List.cons_append]
  gi_wp2
  gi_loopw [7] (fun i wr => ∃ k : Nat, k ≤ len ∧ i = .int .i64 k ∧ J (upto (fun j => zs[j]?.getD 0) k) wr ∧ Below n₀ W wr)
    (fun i _ => len - (intOf i).toNat)
  case atStart => exact ⟨0, Nat.zero_le _, rfl, h0, Below.refl _ _⟩
  case round =>
    obtain ⟨k, hk, rfl, hJs, hnx⟩ := hrel
    have hcx : k < len → wr.cell? ⟨b, off + k, none⟩ = some (.int .i64 (zs[k]?.getD 0)) := fun h => (hnx.cell (p := ⟨b, off + k, none⟩) hb).trans (hc k h)
    by_cases hlt : k < len
    · obtain ⟨fn, tmps, assign, body, hy, hR⟩ := hY _ (zs[k]?.getD 0) wr hJs (by rw [upto_length]; exact hlt)
      have hcx' := hcx hlt
      gi_wp2
      refine hR.mono ?_
      rintro e W3 (⟨rfl, hJ3, hk3⟩ | ⟨rfl, hJx3⟩)
      · gi_wp2
        go_roundw
        case rel => exact ⟨k + 1, by omega, by simp, by rw [upto_succ]; exact hJ3, hnx.trans hk3⟩
        case measure => simp [intOf]; omega
      · gi_wp2
        refine bodyPost_ret (results_none rfl _ _ _) rfl ?_
        exact ⟨⟨_, rfl⟩, .inr ⟨_, ⟨k + 1, by omega, (upto_succ _ _).symm⟩, hJx3⟩⟩
    · obtain rfl : k = len := by omega
      gi_wp2
      go_end0
      exact ⟨⟨_, rfl⟩, .inl ⟨_, rfl, hJs⟩⟩
set_option maxRecDepth 100000 in
set_option maxHeartbeats 1000000 in
theorem values1_none_in (F : Fence) (n : Nat) (h7 : F.fn 267) (hro : F.round = none) (l Bs cap : Nat) (A : Option Addr) (J : List Int → World → Prop) (W : World) (hBs : W.cell? ⟨Bs, 0, none⟩ = some (.slice A 0 cap)) (h0 : J [] W) :
    CallsIn F n Tryd.prog 267 #[.func (.yield l) #[] #[], .pointer (some ⟨Bs, 0, none⟩)] W fun e W' => (∃ v, e = .returned v) ∧ J [] W' := by
  refine callsIn_of_wp Tryd.func267 rfl h7 ?_ hro
  simp only [Tryd.ntmps267, List.size_toArray, List.length_cons, List.length_nil, Nat.reduceAdd, Nat.reduceSub, Array.replicate_succ, Array.replicate_zero, List.push_toArray, List.append_toArray, List.nil_append, List.cons_append]
  gi_wp2
  gi_loopw [7] (fun i wr => i = .int .i64 0 ∧ J [] wr) (fun _ _ => 0)
  case atStart => exact ⟨rfl, h0⟩
  case round =>
    obtain ⟨rfl, hJs⟩ := hrel
    gi_wp2
    go_end0
    exact ⟨⟨_, rfl⟩, hJs⟩
def Ints (n₀ : Nat) (W : World) (sv : Value) (zs : List Int) : Prop :=
  (∃ A c, sv = .slice A 0 c ∧ zs = []) ∨ ∃ b off cap, sv = .slice (some ⟨b, off, none⟩) zs.length cap ∧ b < n₀ ∧ ∀ j, j < zs.length → W.cell? ⟨b, off + j, none⟩ = some (.int .i64 (zs[j]?.getD 0))
theorem Ints.below {n₀ : Nat} {A B : World} (h : Below n₀ A B) {sv : Value} {zs : List Int} : Ints n₀ A sv zs → Ints n₀ B sv zs
  | .inl e => .inl e
  | .inr ⟨b, off, cap, e, hb, hc⟩ => .inr ⟨b, off, cap, e, hb, fun j hj => (h.cell (p := ⟨b, off + j, none⟩) hb).trans (hc j hj)⟩
theorem values_stops (F : Fence) (n : Nat) (h7 : F.fn 267) (hro : F.round = none) (hn : 1 ≤ n) (Bs n₀ : Nat) (sv : Value) (zs : List Int) (hreach : zs.length * 8 ≤ 140737488351232) (w : World) (hBs : Bs < w.heap.size) (hn₀ : n₀ ≤ w.heap.size)
    (hc : w.cell? ⟨Bs, 0, none⟩ = some sv) (hI : Ints n₀ w sv zs) :
    SeqStopsK F n Tryd.prog 267 #[.pointer (some ⟨Bs, 0, none⟩)] (fun x : Int => #[Value.int .i64 x]) (Below n₀) (fun ys => ys = zs) (fun pre => pre <+: zs) zs.length w := fun l J Jx W hW _ _ hY h0 => by
  have hc' := (hW.cell (p := ⟨Bs, 0, none⟩) hBs).trans hc
  rcases hI.below (hW.mono hn₀) with ⟨A, c, rfl, rfl⟩ | ⟨b, off, cap, rfl, hb, hcs⟩
  · exact (values1_none_in F n h7 hro l Bs c A J W hc' h0).mono fun e W' ⟨he, hj⟩ => ⟨he, .inl ⟨_, rfl, hj⟩⟩
  · refine (values1_in F n h7 hro hn l Bs n₀ b off zs.length cap zs hreach hb J Jx hY W hc' hcs h0).mono ?_
    rintro e W' ⟨he, ⟨ys, rfl, hj⟩ | ⟨pre, ⟨k, hk, rfl⟩, hj⟩⟩
    · exact ⟨he, .inl ⟨_, upto_all zs, hj⟩⟩
    · exact ⟨he, .inr ⟨_, by rw [upto_take zs hk]; exact List.take_prefix _ _, hj⟩⟩
theorem values_calls (a : Option Addr) (len cap : Nat) (w : World) :
    Calls Tryd.prog 235 #[.slice a len cap] w fun e w' => e = .returned (.func (.func 267) #[] #[.pointer (some ⟨w.heap.size, 0, none⟩)]) ∧ w' = w.alloc (.cells #[.slice a len cap] 22) := by
  go_enter Tryd.func235, Tryd.ntmps235
  go_wp2
  go_ret
  exact ⟨rfl, rfl⟩
theorem infoI : (Tryd.prog.info? 3).map (fun i => (i.zero, i.size, i.bytes)) = some (some (.int .i64 0), 1, 8) := by kernel_rfl
set_option maxRecDepth 100000 in
set_option maxHeartbeats 2000000 in
theorem appendSeq_in (F : Fence) (n : Nat) (h3 : F.fn 285) (h5 : F.fn 267) (hro : F.round = none) (hn : 3 ≤ n) (Bv : Nat) (sv : Value) (zs : List Int) (hlen : zs.length ≤ maxLen) (hbytes : zs.length * 8 ≤ 140737488351232) (w : World) (hBv : Bv < w.heap.size) (hc : w.cell? ⟨Bv, 0, none⟩ = some sv) (hI : Ints w.heap.size w sv zs) :
    CallsIn F n Tryd.prog 285 #[.slice none 0 0, .func (.func 267) #[] #[.pointer (some ⟨Bv, 0, none⟩)]] w fun e W' => ∃ v, e = .returned v ∧ W'.ownsRow w.heap.size 3 1 v zs.length (zs.map (Value.int .i64)) ∧ (v = .slice none 0 0 ↔ zs = []) ∧ Below w.heap.size w W' := by
  have h1 : 1 ≤ n := by omega
  obtain ⟨i0, hi, hz0, hz1, hz2⟩ := info_parts infoI
  refine callsIn_of_wp_marks Tryd.func285 rfl h3 ?_ hro
  simp only [Tryd.ntmps285, List.size_toArray, List.length_cons, List.length_nil, Nat.reduceAdd, Nat.reduceSub, Array.replicate_succ, Array.replicate_zero, List.push_toArray, List.append_toArray, List.nil_append, List.cons_append]
  gi_wp2
  have bO := Boxed.new w 22 (.slice none 0 0)
  have hB0 : Below w.heap.size w (w.alloc (.cells #[.slice none 0 0] 22)) := (Below.refl _ w).alloc (Nat.le_refl _) _
  refine wpIn_rangeFunc_ownG hro h1 (gf := 267) (lb := #[.pointer (some ⟨Bv, 0, none⟩)]) rfl h5 (enters_of Tryd.func267 (by kernel_rfl) rfl)
    (values_stops F (n - 1) h5 hro (by omega) Bv w.heap.size sv zs hbytes _ (by simp; omega) (by simp) ((hB0.cell (p := ⟨Bv, 0, none⟩) hBv).trans hc) (hI.below hB0)) belowK_t (belowK_b (by simp)) (Below.refl _ _) (fun _ => rfl)
    (fun pre W => (∃ v, Boxed W w.heap.size 22 v ∧ W.ownsRow w.heap.size 3 1 v pre.length (pre.map (Value.int .i64)) ∧ (v = .slice none 0 0 ↔ pre = [])) ∧ Below w.heap.size w W)
    (fun _ _ _ => False)
    (OwnFrom.and (Own.from (holdsRow_own w.heap.size w.heap.size 22 3 1 (fun pre => pre.length) (fun pre => pre.map (Value.int .i64)) (fun pre v => v = .slice none 0 0 ↔ pre = [])) _) (ownFrom_below (Nat.le_refl _) (by simp)))
    (fun _ _ _ _ _ hs _ _ => hs)
    ⟨⟨_, bO, World.ownsRow_nil _ _ _ _, by simp⟩, hB0⟩
    (fun x => { tmps := #[.slice none 0 0, .func (.func 267) #[] #[.pointer (some ⟨Bv, 0, none⟩)], .pointer (some ⟨w.heap.size, 0, none⟩), undef, .slice none 0 0, .int .i64 x, .func (.func 267) #[] #[.pointer (some ⟨Bv, 0, none⟩)], .int .i64 x, undef, undef, undef, undef, undef], defers := [] }) ?assign ?body ?done ?stop
  case assign =>
    intro l x W K hK
    gi_wp2
    exact hK
  case body =>
    rintro l pre x W ⟨⟨v, hv, hrow, hnil⟩, hB⟩ hlt
    have hc := hv.cell
    gi_wp2_with (gi_at_builtin; refine wpListIn_append_own _ rfl _ _ 22 rfl w.heap.size 3 i0 (.int .i64 0) 1 8 Tryd.underlying22 hi hz0 hz1 hz2 rfl (by decide) _ _ _ rfl (hrow.alloc _) ⟨W.heap.size, 0, none⟩ 1 1 [.int .i64 x] rfl rfl (cell_one_new _ _ _) (by simp [Value.oneCell']) (by omega) (by omega) (by have := hB.size; simp; omega) ?_; intro v' w1 hown' hgrow _; obtain ⟨g', cap', rfl⟩ := ownsRow_succ hown'; obtain ⟨hv1, hv2, hr2, hk2, hb2⟩ := hv.appended (by decide) hrow hB.size (Nat.le_refl _) hown' hgrow; have hc1 := hv1.cell; have hf1 := hv1.frozen)
    exact ⟨hk2.from _, hb2, ⟨_, hv2, by simpa using hr2, by simp⟩, hB.trans hb2⟩
  case done =>
    rintro D ys W hD rfl ⟨⟨v, hv, hrow, hnil⟩, hB⟩ hK
    have hc := hv.cell
    gi_wp2
    refine ⟨by simp, .inl ⟨_, _, rfl, run_takeDeferred hK, ?_⟩⟩
    exact ⟨_, results_tmp rfl _ _ _, v, rfl, ownsRow_putObj hrow _ hK rfl, hnil, hB.trans (belowK_b (w := w) (Nat.le_refl _) W D _ _ (by simp at hD; omega) hK rfl rfl)⟩
  case stop =>
    intro D c pre W _ _ h _
    exact h.elim
theorem collect_calls (Bv : Nat) (sv : Value) (zs : List Int) (hlen : zs.length ≤ maxLen) (hbytes : zs.length * 8 ≤ 140737488351232) (w : World) (hBv : Bv < w.heap.size) (hc : w.cell? ⟨Bv, 0, none⟩ = some sv) (hI : Ints w.heap.size w sv zs) :
    Calls Tryd.prog 266 #[.func (.func 267) #[] #[.pointer (some ⟨Bv, 0, none⟩)]] w fun e W' => ∃ v, e = .returned v ∧ W'.ownsRow w.heap.size 3 1 v zs.length (zs.map (Value.int .i64)) ∧ (v = .slice none 0 0 ↔ zs = []) ∧ Below w.heap.size w W' := by
  have cA := (callsIn_wide (n := 3)).1 (appendSeq_in Fence.wide 3 trivial trivial rfl (Nat.le_refl _) Bv sv zs hlen hbytes w hBv hc hI)
  go_enter Tryd.func266, Tryd.ntmps266
  go_wp2_with (go_at_call 285; refine cA.mono ?_; rintro e w' ⟨v, rfl, hrow, hnil, hb⟩)
  go_ret
  exact ⟨v, rfl, hrow, hnil, hb⟩
def srt (l : List Int) : List Int := l.mergeSort fun x y => decide (x ≤ y)
theorem ownsRow_some {w : World} {base e : Nat} {v : Value} {zs : List Int} (h : w.ownsRow base e 1 v zs.length (zs.map (Value.int .i64))) : (v = .slice none 0 0 ∧ zs = []) ∨ ∃ g cap cur, v = .slice (some ⟨g, 0, none⟩) zs.length cap ∧ base ≤ g ∧ w.heap[g]? = some (.cells cur e (0, 0)) ∧ zs.length ≤ cap ∧ cap ≤ maxLen ∧ cur.size = cap * 1 ∧ cur.toList.take zs.length = zs.map encZ := by
  rcases h.2 with ⟨rfl, hz⟩ | ⟨g, cap, cur, rfl, h1, h2, h3, h4, h5, h6⟩
  · exact .inl ⟨rfl, List.eq_nil_of_length_eq_zero hz⟩
  · exact .inr ⟨g, cap, cur, rfl, h1, h2, h3, h4, h5, by simpa using h6⟩
theorem sort_calls {base e : Nat} {v : Value} {zs : List Int} {w : World} (h : w.ownsRow base e 1 v zs.length (zs.map (Value.int .i64))) (hsz : zs.length < 4611686018427387904) :
    Calls Tryd.prog 190 #[v] w fun e' w' => e' = .returned (.tuple #[]) ∧ w'.ownsRow base e 1 v (srt zs).length ((srt zs).map (Value.int .i64)) ∧ w.grownBy w' v.ownBlock := by
  rcases ownsRow_some h with ⟨rfl, rfl⟩ | ⟨g, cap, cur, rfl, hbase, hgb, r1, r2, r3, r4⟩
  · refine (AnyM.slices_Sort_int_none sortL none 0 w).mono ?_
    rintro e' w' ⟨rfl, rfl⟩
    exact ⟨rfl, by simpa [srt] using h, rfl, rfl, rfl, Nat.le_refl _, fun _ _ _ => rfl⟩
  · have hH : Holds encZ w g 0 zs.toArray := holds_of_block_i hgb r4
    refine (AnyM.slices_Sort_int sortL g 0 cap zs w hH (Array.getElem?_eq_some_iff.1 hgb).1 hsz).mono ?_
    rintro e' w' ⟨rfl, nn, os, rfl⟩
    have hl : (srt zs).length = zs.length := by simp [srt]
    refine ⟨rfl, ?_, grownBy_sorted_i _⟩
    rw [hl]
    exact ownsRow_sorted_i hl hbase hgb r1 r2 r3
theorem sorted_calls (Bv : Nat) (sv : Value) (zs : List Int) (hlen : zs.length ≤ maxLen) (hbytes : zs.length * 8 ≤ 140737488351232) (w : World) (hBv : Bv < w.heap.size) (hc : w.cell? ⟨Bv, 0, none⟩ = some sv) (hI : Ints w.heap.size w sv zs) :
    Calls Tryd.prog 234 #[.func (.func 267) #[] #[.pointer (some ⟨Bv, 0, none⟩)]] w fun e W' => ∃ v, e = .returned v ∧ W'.ownsRow w.heap.size 3 1 v (srt zs).length ((srt zs).map (Value.int .i64)) ∧ (v = .slice none 0 0 ↔ zs = []) ∧ Below w.heap.size w W' := by
  have cC := collect_calls Bv sv zs hlen hbytes w hBv hc hI
  go_enter Tryd.func234, Tryd.ntmps234
  go_wp2_with (first
    | (go_at_call 266; refine cC.mono ?_; rintro e w1 ⟨v, rfl, hrow, hnil, hb⟩)
    | (go_at_call 190; refine (sort_calls hrow (by omega)).mono ?_; rintro e w2 ⟨rfl, hrow2, hg⟩))
  go_ret
  exact ⟨v, rfl, hrow2, hnil, hb.grown hg hb.size (own_base hrow)⟩
theorem ownsRow_cut {w : World} {base e g cap : Nat} {n m : Nat} {xs : List Value} (h : w.ownsRow base e 1 (.slice (some ⟨g, 0, none⟩) n cap) n xs) (hm : m ≤ n) : w.ownsRow base e 1 (.slice (some ⟨g, 0, none⟩) m cap) m (xs.take m) := by
  obtain ⟨h0, h⟩ := h
  refine ⟨by rw [List.length_take]; omega, ?_⟩
  rcases h with ⟨h, _⟩ | ⟨g', cap', cur, hv, h1, h2, h3, h4, h5, h6⟩
  · cases h
  · injection hv with a1 a2 a3
    injection a1 with a1
    injection a1 with a1
    subst a1 a3
    refine .inr ⟨g, cap, cur, rfl, h1, h2, by omega, h4, h5, ?_⟩
    rw [← h6, List.take_take, Nat.min_eq_left (by omega)]
    simp
theorem compact_calls {base e : Nat} {v : Value} {zs : List Int} {w : World} (h : w.ownsRow base e 1 v zs.length (zs.map (Value.int .i64))) (hsz : zs.length ≤ 9223372036854775807) :
    Calls Tryd.prog 233 #[v] w fun e' w' => ∃ v', e' = .returned v' ∧ w'.ownsRow base e 1 v' (Lib.compact zs).length ((Lib.compact zs).map (Value.int .i64)) ∧ w.grownBy w' v.ownBlock := by
  rcases ownsRow_some h with ⟨rfl, rfl⟩ | ⟨g, cap, cur, rfl, hbase, hgb, r1, r2, r3, r4⟩
  · refine (AnyG.slices_Compact_int_empty compactL none 0 w).mono ?_
    rintro e' w' ⟨rfl, rfl⟩
    exact ⟨_, rfl, by simpa [Lib.compact, Lib.compactUpTo] using h, rfl, rfl, rfl, Nat.le_refl _, fun _ _ _ => rfl⟩
  · have hH : Holds encZ w g 0 zs.toArray := holds_of_block_i hgb r4
    refine (AnyG.slices_Compact_int compactL g 0 cap zs w hH hsz r1).mono ?_
    rintro e' w' ⟨rfl, q, rfl⟩
    have hle : (Lib.compact zs).length ≤ zs.length := by
      unfold Lib.compact Lib.compactUpTo
      have := List.length_filter_le (Lib.keeps zs.toArray) (List.range zs.length)
      simpa using this
    have hl : (Lib.compact zs ++ List.replicate (zs.length - (Lib.compact zs).length) 0).length = zs.length := by simp; omega
    have hrow := ownsRow_sorted_i (n := q) (os := #[]) hl hbase hgb r1 r2 r3
    have hg := grownBy_sorted_i (w := w) (g := g) (n := q) (os := #[]) (Lib.compact zs ++ List.replicate (zs.length - (Lib.compact zs).length) (0 : Int)).toArray
    have e0 : ∀ W : World, grow W #[] = W := fun W => by simp [grow]
    rw [e0] at hrow hg
    refine ⟨_, rfl, ?_, hg⟩
    have := ownsRow_cut hrow hle
    rwa [List.map_append, List.take_append_of_le_length (by simp), List.take_of_length_le (by simp)] at this
theorem R_int {e : Nat} {w : World} {base : Nat} {v : Value} {zs : List Int} (h : w.ownsRow base e 1 v zs.length (zs.map (Value.int .i64))) : Kd.R (Kd.int .i64) e w base (fun _ => True) v zs := by
  refine ⟨fun _ _ => trivial, zs.map (Value.int .i64), h, by simp [Kd.int, Kd.scalar], fun j p hj => ?_⟩
  show ((zs.map (Value.int .i64)).drop (j * 1)).take 1 = [Value.int .i64 p]
  have hl := (List.getElem?_eq_some_iff.1 hj).1
  rw [Nat.mul_one, List.drop_eq_getElem_cons (by simpa using hl)]
  have := (List.getElem?_eq_some_iff.1 hj).2
  simp [this]
theorem ints_of {w : World} {A : Option Addr} {c : Nat} {zs : List Int} (h : Kd.C (Kd.int .i64) w A zs.length zs) : Ints w.heap.size w (.slice A zs.length c) zs := by
  rcases Nat.eq_zero_or_pos zs.length with h0 | h0
  · have : zs = [] := List.eq_nil_of_length_eq_zero h0
    subst this
    exact .inl ⟨A, c, rfl, rfl⟩
  · obtain ⟨ad, rfl, hc⟩ := h.2.2 h0
    have cell : ∀ j (hj : j < zs.length), w.cell? (ad.add j) = some (.int .i64 zs[j]) := by
      intro j hj
      obtain ⟨cs, hl, hr, hcs⟩ := hc j zs[j] (List.getElem?_eq_getElem hj)
      have hr : cs = [Value.int .i64 zs[j]] := hr
      subst hr
      have := hcs 0 (.int .i64 zs[j]) rfl
      simpa [Kd.int, Kd.scalar] using this
    obtain ⟨b, off, sp⟩ := ad
    have c0 := cell 0 h0
    have hsp : sp = none := by
      cases sp with
      | none => rfl
      | some s =>
        simp only [World.cell?, Addr.add] at c0
        split at c0 <;> simp at c0
    subst hsp
    refine .inr ⟨b, off, c, rfl, World.block_lt_of_cell? w _ c0, fun j hj => ?_⟩
    have := cell j hj
    by_cases h1 : j = 0
    · subst h1
      simpa [Addr.add, hj] using this
    · simpa [Addr.add, hj, h1] using this
set_option maxHeartbeats 1000000 in
theorem different_calls (A0 : Option Addr) (c0 : Nat) (zs : List Int) (w : World) (hz : zs.length < 17592186043904) (h : Kd.C (Kd.int .i64) w A0 zs.length zs) :
    Calls Tryd.prog 196 #[.slice A0 zs.length c0] w fun e w' => ∃ v0_ : Value, e = .returned (v0_) ∧ Kd.R (Kd.int .i64) 3 w' w.heap.size (fun _ => True) v0_ (Lib.compact (srt zs)) ∧ Below w.heap.size w w' := by
  have hI := ints_of (c := c0) h
  have hB0 : Below w.heap.size w (w.alloc (.cells #[.slice A0 zs.length c0] 22)) := (Below.refl _ w).alloc (Nat.le_refl _) _
  have hs : w.heap.size + 1 = (w.alloc (.cells #[.slice A0 zs.length c0] 22)).heap.size := by simp
  have cS := sorted_calls w.heap.size (.slice A0 zs.length c0) zs (by unfold maxLen; omega) (by omega) (w.alloc (.cells #[.slice A0 zs.length c0] 22)) (by simp) (Boxed.new w 22 (.slice A0 zs.length c0)).cell (by
    have := hI.below hB0
    rcases this with h | ⟨b, off, cap, e, hb, hc⟩
    · exact .inl h
    · exact .inr ⟨b, off, cap, e, by omega, hc⟩)
  have hl : (srt zs).length = zs.length := by simp [srt]
  go_enter Tryd.func196, Tryd.ntmps196
  go_wp2_with (first
    | (go_at_call 235; refine (values_calls _ _ _ _).mono ?_; rintro e w1 ⟨rfl, rfl⟩)
    | (go_at_call 234; refine cS.mono ?_; rintro e w2 ⟨v, rfl, hrow, hnil, hb⟩)
    | (go_at_call 233; refine (compact_calls hrow (by omega)).mono ?_; rintro e w3 ⟨v2, rfl, hrow2, hg⟩))
  go_ret
  have hb' := hB0.trans (hb.mono (by omega : w.heap.size ≤ _))
  exact ⟨v2, rfl, R_int (own_weaken hrow2 (by omega)), hb'.grown hg hb'.size (fun k hk => Nat.le_trans (by omega) (own_base hrow k hk))⟩
end Go.Proofs.YtimjblnglhmakaaDoor.HD
namespace Go.Proofs.YtimjblnglhmakaaDoor.P
open Go.RowKit Go.Proofs.YtimjblnglhmakaaDoorW.PrintWords Go.Proofs.YtimjblnglhmakaaDoorW.PrintLast Go.Proofs.YtimjblnglhmakaaDoorW.PrintMore
open Bool renaming true → T, false → F
open List renaming setIfInBounds_toArray → L_, set_cons_zero → M_, set_cons_succ → N_, map_toArray → P_, map_cons → Q_, map_nil → R_, length_drop → S_, length_take → U_
open Aside0 renaming mk → A_
attribute [local go_sem] max2_int min2_int max_two min_two max_three min_three max_four min_four
set_option linter.unusedVariables false
set_option linter.unusedSimpArgs false
attribute [local go_sem] fldOrder_0 fldOrder_1
def Abd.f (l0 : List Int) : Option (List Int) := if l0.length < 17592186043904 then some (Lib.compact (HD.srt l0)) else none
theorem Abd.calls (A0 : Option Addr) (c0 : Nat) (l0 : List Int) (r : List Int) (w : World) (hr0 : Kd.C (Kd.int .i64) w A0 l0.length l0) (hc0 : l0.length ≤ c0) (h : Abd.f l0 = some r) :
 Calls Tryd.prog 196 #[.slice A0 l0.length c0] w fun e w'=>∃ v0_ : Value,e = .returned (v0_) ∧ Kd.R (Kd.int .i64) 3 w' w.heap.size (fun _=>True) v0_ r ∧ Below w.heap.size w w':=by
 clear hc0;unfold Abd.f at h
 split at h
 ·rename_i hz
  injection h with h;subst h;exact HD.different_calls A0 c0 l0 w hz hr0
 ·cases h
mutual
def Aai.l0 : Nat → List Int → List Int → List Int → Int → Int → Option (List Int)
 | 0,_,_,_,_,_=>none
 | k + 1,x3,x5,x17,x18,x19=>if x19 < x18 then (if 0 ≤ x19 then (if x19 < (x17.length : Int) then (Aai.l1 k x3 x5 (rd x17 x19) 0 x17 x18 x19 x5 (x5.length : Int) 0) else (none)) else (none)) else (some x3)
def Aai.l1 : Nat → List Int → List Int → Int → Int → List Int → Int → Int → List Int → Int → Int → Option (List Int)
 | 0,_,_,_,_,_,_,_,_,_,_=>none
 | k + 1,x3,x5,x7,x8,x17,x18,x19,x23,x24,x25=>if x25 < x24 then (if 0 ≤ x25 then (if x25 < (x23.length : Int) then (if (rd x23 x25) = x7 then (Aai.l1 k x3 x5 x7 x8 x17 x18 x19 x23 x24 (wrap64 (x25 + 1))) else (if (Go.bits .andNot .i64 (rd x23 x25) x7) = 0 then (Aai.l1 k x3 x5 x7 (wrap64 (x8 + 1)) x17 x18 x19 x23 x24 (wrap64 (x25 + 1))) else (Aai.l1 k x3 x5 x7 x8 x17 x18 x19 x23 x24 (wrap64 (x25 + 1))))) else (none)) else (none)) else (if x3.length < 17592186044416 then (Aai.l0 k (x3 ++ [x8]) x5 x17 x18 (wrap64 (x19 + 1))) else (none))
end
def Aai.f (k : Nat) (a0_0 : Int) (l0_1 : List Int) : Option (List Int) := (Abc.f k a0_0 l0_1).bind fun bt625 => ((Abd.f bt625.2).bind fun t629 => (Aai.l0 k (([] : List Int)) t629 bt625.2 (bt625.2.length : Int) 0))
set_option maxHeartbeats 8000000 in
set_option maxRecDepth 100000 in
theorem Aai.calls (k : Nat) (a0_0 : Int) (A0_1 : Option Addr) (c0_1 : Nat) (l0_1 : List Int) (r : List Int) (w : World) (hr0_1 : Kd.C (Kd.int .i64) w A0_1 l0_1.length l0_1) (hc0_1 : l0_1.length ≤ c0_1) (h : Aai.f k a0_0 l0_1 = some r) :
 Calls Tryd.prog 116 #[.agg #[.int .i64 a0_0,.slice A0_1 l0_1.length c0_1]] w fun e w'=>∃ v0_ : Value,e = .returned (v0_) ∧ Kd.R (Kd.int .i64) 3 w' w.heap.size (fun _=>True) v0_ r ∧ Below w.heap.size w w':=by
 have hu28:=Tryd.underlying28;have HR0_1:=A_ hr0_1;have HC0_1:=A_ hc0_1;clear hr0_1 hc0_1;have HB:=A_ (Below.refl w.heap.size w);have H : ((Abc.f k a0_0 l0_1).bind fun Af=>((Abd.f Af.2).bind fun Aa=>(Aai.l0 k (([] : List Int)) Aa Af.2 (Af.2.length : Int) 0))) = some r:=h;clear h;obtain ⟨Ao,Aj⟩ : ∃ y_ : List Int,y_ = (([] : List Int)):=⟨_,rfl⟩;replace H : ((Abc.f k a0_0 l0_1).bind fun Af=>((Abd.f Af.2).bind fun Aa=>(Aai.l0 k Ao Aa Af.2 (Af.2.length : Int) 0))) = some r:=by first|(rw [Aj];with_reducible exact H)|(have H2_:=(Option.bind_some _ _).symm.trans H;rw [Aj];with_reducible exact H2_)|(have H2_:=(Option.bind_some _ _).symm.trans H;with_reducible exact H2_)|with_reducible exact H|(rw [Aj];exact H)|exact H
 have As:=A_ Aj;clear Aj;replace H:=Option.bind_eq_some_iff.mp H;obtain ⟨⟨Az,Ab⟩,A20,H⟩:=H;replace H : ((Abd.f Ab).bind fun Aa=>(Aai.l0 k Ao Aa Ab (Ab.length : Int) 0)) = some r:=H;have A2:=A_ A20;clear A20;replace H:=Option.bind_eq_some_iff.mp H;obtain ⟨Aa,A30,H⟩:=H;replace H : (Aai.l0 k Ao Aa Ab (Ab.length : Int) 0) = some r:=H;have A3:=A_ A30;clear A30;have H':=A_ H;clear H;go_enter Tryd.func116,Tryd.ntmps116
 go_wp2_with (first|((with_reducible refine gate_dst (N:=1) rfl ?_);refine box_event ?hg (N:=1) ?hd (cs:=#[.int .i64 a0_0,.slice A0_1 l0_1.length c0_1]) (t:=28) ?hr ?_;(case hd=>rfl);(case hg=>rfl);(case hr=>go_simp;try rfl);intro Ak hg w4 hbox hb;have Ac:=A_ (hbox);have Bb:=A_ (gw_ (w:=w) hg bb_);have Bc:=A_ (gw_ (w:=w) hg bb_);replace HB:=A_ (below_step bb_ hb);clear hb hbox hg)|((with_reducible refine gate_dst (N:=11) rfl ?_);refine Kd.R_lit (Kd.int .i64) _ 3 ?hg (N:=11) ?hd (xs:=([] : List Int)) (inner:=[]) (ok:=fun _=>True) (okp:=fun _=>True) ?hr ?hp (fun _ hk=>hk) trivial (Below.refl _ _) (Nat.le_refl _) (by simp) ?_;(case hd=>rfl);(case hg=>rfl);(case hr=>go_simp;try rfl);(case hp=>exact (Reps.none _ _));intro Bd w5 ho6 hb hg_ hnew_;clear hg_ hnew_;(first|rw [← As.out] at ho6|(simp only [Int.reduceToNat] at ho6;rw [← As.out] at ho6));have Ag:=A_ (Kd.R_lower ho6 (below_size bb_));replace Ac:=bz Ac hb;replace HB:=A_ (below_step bb_ hb);clear hb ho6;have hcz7_0 : w5.cell? ⟨Ak,0,none⟩ = some (.int .i64 a0_0):=blk_cell Ac.out 0;have hcz7_1 : w5.cell? ⟨Ak,1,none⟩ = some (.slice A0_1 l0_1.length c0_1):=blk_cell Ac.out 1;have hfz7_0:=blk_frozen Ac.out 0;have hfz7_1:=blk_frozen Ac.out 1)|((with_reducible refine gate_callee (f:=113) rfl ?_);refine goesL_ (some 13) rfl rfl Tryd.func113 (by kernel_rfl) rfl #[.agg #[.int .i64 a0_0,.slice A0_1 l0_1.length c0_1]] rfl au_ ?_;(with_reducible refine (Abc.calls k a0_0 _ _ l0_1 Az Ab _ ?side1 ?side2 A2.out).mono ?_);(case side1=>exact cl_ (Kd.C_below HR0_1.out HB.out));(case side2=>exact HC0_1.out);rintro e w8 ⟨Be,rfl,ho0,hb⟩;refine ⟨_,rfl,?_⟩;have Ah:=A_ (Kd.R_lower (Kd.R_new' ho0 (Kd.R_lt (rl_ Ag))) (below_size bb_));replace Ag:=A_ (Kd.R_elder' (rl_ Ag) (Kd.R_base ho0) hb);replace Ac:=bz Ac hb;replace HB:=A_ (below_step bb_ hb);(try clear hb);(try clear hb2);(try clear hk);(try clear hi);(try clear ho0);obtain ⟨Ao9,co9,eo9⟩:=Kd.R_slice Ah.out;subst eo9)|((with_reducible refine gate_callee (f:=196) rfl ?_);refine goesL_ (some 16) rfl rfl Tryd.func196 (by kernel_rfl) rfl #[.slice Ao9 Ab.length co9] rfl au_ ?_;(with_reducible refine (Abd.calls _ _ Ab Aa _ ?side1 ?side2 A3.out).mono ?_);(case side1=>exact cl_ (Kd.R_reads' Ah.out).2.2);(case side2=>exact (Kd.R_reads' Ah.out).2.1);rintro e w10 ⟨Ar,rfl,ho0,hb⟩;refine ⟨_,rfl,?_⟩;have Aw:=A_ (Kd.R_lower (Kd.R_new' (Kd.R_new' ho0 (Kd.R_lt (rl_ Ag))) (Kd.R_lt (rl_ Ah))) (below_size bb_));replace Ag:=A_ (Kd.R_elder' (rl_ Ag) (Kd.R_base ho0) hb);replace Ah:=A_ (Kd.R_elder' (rl_ Ah) (Kd.R_base ho0) hb);replace Ac:=bz Ac hb;replace HB:=A_ (below_step bb_ hb);(try clear hb);(try clear hb2);(try clear hk);(try clear hi);(try clear ho0)))
 go_loopg [3,19] k (fun kq v3 v19 w'=>∃ (x3_1 : List Int) (x19_1 : Int),v19 = .int .i64 x19_1 ∧ Aside0 (Aai.l0 kq x3_1 Aa Ab (Ab.length : Int) x19_1 = some r) ∧ Aside0 (kq ≤ k) ∧ Aside0 (Kd.R (Kd.int .i64) 3 w' w.heap.size (fun k_=>some k_ ≠ (Ar : Value).ownBlock ∧ some k_ ≠ ((.slice Ao9 Ab.length co9) : Value).ownBlock) v3 x3_1) ∧ Aside0 (Kd.R (Kd.int .i64) 3 w' w.heap.size (fun k_=>some k_ ≠ (v3 : Value).ownBlock ∧ some k_ ≠ ((.slice Ao9 Ab.length co9) : Value).ownBlock) Ar Aa) ∧ Aside0 (Kd.R (Kd.int .i64) 3 w' w.heap.size (fun k_=>some k_ ≠ (v3 : Value).ownBlock ∧ some k_ ≠ (Ar : Value).ownBlock) (.slice Ao9 Ab.length co9) Ab) ∧ Aside0 (w'.heap[Ak]? = some (.cells #[.int .i64 a0_0,(.slice A0_1 l0_1.length c0_1)] 28 (0,0))) ∧ Aside0 (Below w.heap.size w w'))
 case atStart=>exact ⟨(Ao),(0),(by first|rfl|(simp;done)|(simp [*];done)),H',⟨Nat.le_refl _⟩,⟨rq_ (Kd.R_mono Ag.out (fun _ hk=>⟨hk.2,hk.1.2⟩))⟩,⟨rq_ (Kd.R_mono Aw.out (fun _ hk=>⟨hk.1.2,hk.2⟩))⟩,⟨rq_ (Kd.R_mono Ah.out (fun _ hk=>⟨hk.1.2,hk.2⟩))⟩,⟨bl_ Ac⟩,⟨bb_⟩⟩
 case round =>
  clear H';try clear c1
  try clear p2
  try clear hcz7_0
  try clear hcz7_1
  try clear hfz7_0
  try clear hfz7_1
  obtain ⟨x3_1,x19_1,rfl,HA,HK1,HO_3,HO_5,HO_17,Ac,HB⟩:=hrel;cases gk with
  | zero => exact absurd HA.out (by simp [Aai.l0])
  | succ k1 =>
   have H:=HA.out;clear HA;simp only [Aai.l0] at H
   by_cases c11 : x19_1 < (Ab.length : Int)
   ·rw [if_pos c11] at H;have c11b0 : decide (x19_1 < (Ab.length : Int)) = true:=decide_eq_true c11;clear c11;by_cases c12 : 0 ≤ x19_1
    ·rw [if_pos c12] at H;have c12b0 : decide (0 ≤ x19_1) = true:=decide_eq_true c12;clear c12;by_cases c13 : x19_1 < (Ab.length : Int)
     ·rw [if_pos c13] at H;have c13b0 : decide (x19_1 < (Ab.length : Int)) = true:=decide_eq_true c13;clear c13;have H':=A_ H;clear H;have Ap : 0 ≤ (x19_1 : Int):=of_decide_eq_true (by first|(with_reducible assumption)|assumption);have Aq : x19_1 < (Ab.length : Int):=of_decide_eq_true (by first|(with_reducible assumption)|assumption);obtain ⟨Ai,Ba,Au⟩:=Kd.at_int (Kd.R_reads' HO_17.out).2.2 x19_1 Ap Aq;cases Ba
      replace Ap:=eq_true Ap;replace Aq:=eq_true Aq;obtain ⟨Ao14,co14,eo14⟩:=Kd.R_slice HO_5.out;subst eo14;go_wp2
      go_loopg [8,25] k1 (fun kq v8 v25 w'=>∃ (x8_2 : Int) (x25_2 : Int),v8 = .int .i64 x8_2 ∧ v25 = .int .i64 x25_2 ∧ Aside0 (Aai.l1 kq x3_1 Aa (rd Ab x19_1) x8_2 Ab (Ab.length : Int) x19_1 Aa (Aa.length : Int) x25_2 = some r) ∧ Aside0 (kq ≤ k1) ∧ Aside0 (Kd.R (Kd.int .i64) 3 w' w.heap.size (fun k_=>some k_ ≠ ((.slice Ao14 Aa.length co14) : Value).ownBlock ∧ some k_ ≠ ((.slice (some Ai) Ab.length co9) : Value).ownBlock ∧ some k_ ≠ ((.slice Ao14 Aa.length co14) : Value).ownBlock) u3 x3_1) ∧ Aside0 (Kd.R (Kd.int .i64) 3 w' w.heap.size (fun k_=>some k_ ≠ (u3 : Value).ownBlock ∧ some k_ ≠ ((.slice (some Ai) Ab.length co9) : Value).ownBlock) (.slice Ao14 Aa.length co14) Aa) ∧ Aside0 (Kd.R (Kd.int .i64) 3 w' w.heap.size (fun k_=>some k_ ≠ (u3 : Value).ownBlock ∧ some k_ ≠ ((.slice Ao14 Aa.length co14) : Value).ownBlock ∧ some k_ ≠ ((.slice Ao14 Aa.length co14) : Value).ownBlock) (.slice (some Ai) Ab.length co9) Ab) ∧ Aside0 (Kd.R (Kd.int .i64) 3 w' w.heap.size (fun k_=>some k_ ≠ (u3 : Value).ownBlock ∧ some k_ ≠ ((.slice (some Ai) Ab.length co9) : Value).ownBlock) (.slice Ao14 Aa.length co14) Aa) ∧ Aside0 (w'.heap[Ak]? = some (.cells #[.int .i64 a0_0,(.slice A0_1 l0_1.length c0_1)] 28 (0,0))) ∧ Aside0 (Below w.heap.size w w'))
      case atStart=>exact ⟨(0),(0),(by first|rfl|(simp;done)|(simp [*];done)),(by first|rfl|(simp;done)|(simp [*];done)),H',⟨Nat.le_refl _⟩,⟨rq_ (Kd.R_mono HO_3.out (fun _ hk=>⟨hk.1,⟨hk.2,hk.1⟩⟩))⟩,⟨rl_ HO_5⟩,⟨rq_ (Kd.R_mono HO_17.out (fun _ hk=>⟨hk.1,⟨hk.2,hk.2⟩⟩))⟩,⟨rl_ HO_5⟩,⟨bl_ Ac⟩,⟨bb_⟩⟩
      case round =>
       clear H';try clear c1
       try clear p2
       try clear p6
       try clear q6
       try clear hx6
       try clear c11
       try clear c11b0
       try clear c12
       try clear c12b0
       try clear c13
       try clear c13b0
       try clear hcz7_0
       try clear hcz7_1
       try clear hfz7_0
       try clear hfz7_1
       try clear Au
       try clear p2
       try clear Ap
       try clear Aq
       obtain ⟨x8_2,x25_2,rfl,rfl,HA,HK2,HO_3,HO_5,HO_17,HO_23,Ac,HB⟩:=hrel;cases gk with
       | zero=>exact absurd HA.out (by simp [Aai.l1])
       | succ k2 =>
        have H:=HA.out;clear HA;simp only [Aai.l1] at H
        by_cases c15 : x25_2 < (Aa.length : Int)
        ·rw [if_pos c15] at H;have c15b0 : decide (x25_2 < (Aa.length : Int)) = true:=decide_eq_true c15;clear c15;by_cases c16 : 0 ≤ x25_2
         ·rw [if_pos c16] at H;have c16b0 : decide (0 ≤ x25_2) = true:=decide_eq_true c16;clear c16;by_cases c17 : x25_2 < (Aa.length : Int)
          ·rw [if_pos c17] at H;have c17b0 : decide (x25_2 < (Aa.length : Int)) = true:=decide_eq_true c17;clear c17;by_cases c18 : (rd Aa x25_2) = (rd Ab x19_1)
           ·rw [if_pos c18] at H;have c18b0 : ((rd Aa x25_2) == (rd Ab x19_1)) = true:=beq_iff_eq.mpr c18;have c18b1 : ((rd Aa x25_2) != (rd Ab x19_1)) = false:=bne_eq_false_iff_eq.mpr c18;clear c18;have H':=A_ H;clear H;have Ad : 0 ≤ (x25_2 : Int):=of_decide_eq_true (by first|(with_reducible assumption)|assumption);have Ae : x25_2 < (Aa.length : Int):=of_decide_eq_true (by first|(with_reducible assumption)|assumption);obtain ⟨At,Am,An⟩:=Kd.at_int (Kd.R_reads' HO_23.out).2.2 x25_2 Ad Ae;cases Am
            replace Ad:=eq_true Ad;replace Ae:=eq_true Ae;go_wp2
            go_roundg k2
            case measure=>have:=HK1.out;have:=HK2.out;omega
            case rel=>exact ⟨(x8_2),(wrap64 (x25_2 + 1)),(by first|rfl|(simp;done)|(simp [*];done)),(by first|rfl|(simp;done)|(simp [*];done)),H',⟨by have:=HK1.out;have:=HK2.out;omega⟩,⟨rl_ HO_3⟩,⟨rl_ HO_5⟩,⟨rl_ HO_17⟩,⟨rl_ HO_23⟩,⟨bl_ Ac⟩,⟨bb_⟩⟩
           ·rw [if_neg c18] at H;have c18b0 : ((rd Aa x25_2) == (rd Ab x19_1)) = false:=beq_eq_false_iff_ne.mpr c18;have c18b1 : ((rd Aa x25_2) != (rd Ab x19_1)) = true:=bne_iff_ne.mpr c18;by_cases c19 : (Go.bits .andNot .i64 (rd Aa x25_2) (rd Ab x19_1)) = 0
            ·rw [if_pos c19] at H;have c19b0 : ((Go.bits .andNot .i64 (rd Aa x25_2) (rd Ab x19_1)) == 0) = true:=beq_iff_eq.mpr c19;have c19b1 : ((Go.bits .andNot .i64 (rd Aa x25_2) (rd Ab x19_1)) != 0) = false:=bne_eq_false_iff_eq.mpr c19;clear c19;have H':=A_ H;clear H;have Ad : 0 ≤ (x25_2 : Int):=of_decide_eq_true (by first|(with_reducible assumption)|assumption);have Ae : x25_2 < (Aa.length : Int):=of_decide_eq_true (by first|(with_reducible assumption)|assumption);obtain ⟨At,Am,An⟩:=Kd.at_int (Kd.R_reads' HO_23.out).2.2 x25_2 Ad Ae;cases Am
             replace Ad:=eq_true Ad;replace Ae:=eq_true Ae;go_wp2
             go_roundg k2
             case measure=>have:=HK1.out;have:=HK2.out;omega
             case rel=>exact ⟨(wrap64 (x8_2 + 1)),(wrap64 (x25_2 + 1)),(by first|rfl|(simp;done)|(simp [*];done)),(by first|rfl|(simp;done)|(simp [*];done)),H',⟨by have:=HK1.out;have:=HK2.out;omega⟩,⟨rl_ HO_3⟩,⟨rl_ HO_5⟩,⟨rl_ HO_17⟩,⟨rl_ HO_23⟩,⟨bl_ Ac⟩,⟨bb_⟩⟩
            ·rw [if_neg c19] at H;have c19b0 : ((Go.bits .andNot .i64 (rd Aa x25_2) (rd Ab x19_1)) == 0) = false:=beq_eq_false_iff_ne.mpr c19;have c19b1 : ((Go.bits .andNot .i64 (rd Aa x25_2) (rd Ab x19_1)) != 0) = true:=bne_iff_ne.mpr c19;have H':=A_ H;clear H;have Ad : 0 ≤ (x25_2 : Int):=of_decide_eq_true (by first|(with_reducible assumption)|assumption);have Ae : x25_2 < (Aa.length : Int):=of_decide_eq_true (by first|(with_reducible assumption)|assumption);obtain ⟨At,Am,An⟩:=Kd.at_int (Kd.R_reads' HO_23.out).2.2 x25_2 Ad Ae;cases Am
             replace Ad:=eq_true Ad;replace Ae:=eq_true Ae;go_wp2
             go_roundg k2
             case measure=>have:=HK1.out;have:=HK2.out;omega
             case rel=>exact ⟨(x8_2),(wrap64 (x25_2 + 1)),(by first|rfl|(simp;done)|(simp [*];done)),(by first|rfl|(simp;done)|(simp [*];done)),H',⟨by have:=HK1.out;have:=HK2.out;omega⟩,⟨rl_ HO_3⟩,⟨rl_ HO_5⟩,⟨rl_ HO_17⟩,⟨rl_ HO_23⟩,⟨bl_ Ac⟩,⟨bb_⟩⟩
          ·rw [if_neg c17] at H;exact absurd H (by simp)
         ·rw [if_neg c16] at H;exact absurd H (by simp)
        ·rw [if_neg c15] at H;have c15b0 : decide (x25_2 < (Aa.length : Int)) = false:=decide_eq_false c15;clear c15;by_cases c20 : x3_1.length < 17592186044416
         ·rw [if_pos c20] at H;have LMc20:=A_ c20;clear c20;obtain ⟨Av,Al⟩ : ∃ y_ : List Int,y_ = (x3_1 ++ [x8_2]):=⟨_,rfl⟩;replace H : (Aai.l0 k2 Av Aa Ab (Ab.length : Int) (wrap64 (x19_1 + 1))) = some r:=by first|(rw [Al];with_reducible exact H)|(have H2_:=(Option.bind_some _ _).symm.trans H;rw [Al];with_reducible exact H2_)|(have H2_:=(Option.bind_some _ _).symm.trans H;with_reducible exact H2_)|with_reducible exact H|(rw [Al];exact H)|exact H
          have Ax:=A_ Al;clear Al;have H':=A_ H;clear H;go_wp2_with (first|((with_reducible refine gate_builtin (b:=.append) (xs:=#[.tmp 41,.tmp 43]) rfl ?_);at_builtin;refine Kd.R_append (Kd.int .i64) (w0:=w) w.heap.size rfl (.tmp 41) (.tmp 43) 22 3 (.int .i64 0) 8 rfl Tryd.underlying22 info3 rfl (by decide) (by omega) u3 x3_1 x8_2 [.int .i64 x8_2] (fun k_=>some k_ ≠ (.slice Ao14 Aa.length co14 : Value).ownBlock ∧ some k_ ≠ (.slice (some Ai) Ab.length co9 : Value).ownBlock ∧ some k_ ≠ (.slice Ao14 Aa.length co14 : Value).ownBlock) (fun _=>False) rfl rfl ?aP (fun _ hk=>hk.elim) ?aF ?aO ?aB ?aS ?aL ?_;(case aP=>exact rfl);(case aB=>exact bb_);(case aF=>exact (fun k_ hk=>⟨Kd.fresh' (Kd.R_lt (rl_ HO_5)) k_ hk,Kd.fresh' (Kd.R_lt (rl_ HO_17)) k_ hk,Kd.fresh' (Kd.R_lt (rl_ HO_23)) k_ hk⟩));(case aO=>exact (rl_ HO_3));(case aS=>exact (below_size bb_));(case aL=>have:=LMc20.out;omega);intro Bf w21 ho hb hg hat;rw [← Ax.out] at ho;replace HO_5:=A_ (Kd.R_after (ok:=(fun k_=>some k_ ≠ (.slice (some Ai) Ab.length co9 : Value).ownBlock)) (rq_ (Kd.R_mono HO_5.out (fun _ hk=>⟨hk.2,hk.1⟩))) hg hat);replace HO_17:=A_ (Kd.R_after (ok:=(fun k_=>some k_ ≠ (.slice Ao14 Aa.length co14 : Value).ownBlock ∧ some k_ ≠ (.slice Ao14 Aa.length co14 : Value).ownBlock)) (rq_ (Kd.R_mono HO_17.out (fun _ hk=>⟨⟨hk.2.1,hk.2.2⟩,hk.1⟩))) hg hat);replace HO_23:=A_ (Kd.R_after (ok:=(fun k_=>some k_ ≠ (.slice (some Ai) Ab.length co9 : Value).ownBlock)) (rq_ (Kd.R_mono HO_23.out (fun _ hk=>⟨hk.2,hk.1⟩))) hg hat);replace Ac:=A_ (blk_grown (g:=Ak) (o:=.cells #[.int .i64 a0_0,.slice A0_1 l0_1.length c0_1] 28 (0,0)) (bl_ Ac) hg (Kd.R_ne HO_3.out Ac.out (by decide)));replace HB:=A_ (hb);have Ay:=A_ (ho);clear HO_3;clear ho hb hg hat))
          go_roundg k2
          case measure=>have:=HK1.out;have:=HK2.out;omega
          case rel=>exact ⟨(Av),(wrap64 (x19_1 + 1)),(by first|rfl|(simp;done)|(simp [*];done)),H',⟨by have:=HK1.out;have:=HK2.out;omega⟩,⟨rq_ (Kd.R_mono Ay.out (fun _ hk=>⟨hk.1,hk.2.1⟩))⟩,⟨rq_ (Kd.R_mono HO_5.out (fun _ hk=>⟨hk.2,hk.1⟩))⟩,⟨rq_ (Kd.R_mono HO_17.out (fun _ hk=>⟨hk.2,hk.1.1⟩))⟩,⟨bl_ Ac⟩,⟨bb_⟩⟩
         ·rw [if_neg c20] at H;exact absurd H (by simp)
     ·rw [if_neg c13] at H;exact absurd H (by simp)
    ·rw [if_neg c12] at H;exact absurd H (by simp)
   ·rw [if_neg c11] at H;have c11b0 : decide (x19_1 < (Ab.length : Int)) = false:=decide_eq_false c11;clear c11;obtain rfl:=Option.some.inj H;go_wp2
    go_ret
    exact ⟨_,by first|rfl|(simp [errW_none,errW_some] <;> rfl)|(simp [*,errW_none,errW_some] <;> rfl),rq_ (Kd.R_mono HO_3.out (fun _ hk=>trivial)),bb_⟩
mutual
def Aao.l0 : Nat → List (S62) → List Int → List Int → Int → Int → Int → List Int → Option ((List (S62)))
 | 0,_,_,_,_,_,_,_=>none
 | k + 1,x3,x4,x13,x14,x15,x1218000,x1218001=>if x15 < x14 then (if 0 ≤ x15 then (if x15 < (x13.length : Int) then (Aao.l1 k x3 x4 x15 (rd x13 x15) (rd x13 x15) x13 x14 x15 x4 (x4.length : Int) 0 x1218000 x1218001) else (none)) else (none)) else (some x3)
def Aao.l1 : Nat → List (S62) → List Int → Int → Int → Int → List Int → Int → Int → List Int → Int → Int → Int → List Int → Option ((List (S62)))
 | 0,_,_,_,_,_,_,_,_,_,_,_,_,_=>none
 | k + 1,x3,x4,x5,x6,x7,x13,x14,x15,x21,x22,x23,x1218000,x1218001=>if x23 < x22 then (if 0 ≤ x23 then (if x23 < (x21.length : Int) then ((Aah.f x1218000 x1218001 x5 x23).bind fun t1226=>(if t1226 = true then (Aao.l1 k x3 x4 x5 x6 x7 x13 x14 x15 x21 x22 (wrap64 (x23 + 1)) x1218000 x1218001) else (Aao.l1 k x3 x4 x5 x6 (mx x7 (rd x21 x23)) x13 x14 x15 x21 x22 (wrap64 (x23 + 1)) x1218000 x1218001))) else (none)) else (none)) else (if x3.length < 8796093022208 then (Aao.l0 k (x3 ++ [(⟨x6,x7⟩ : S62)]) x4 x13 x14 (wrap64 (x15 + 1)) x1218000 x1218001) else (none))
end
def Aao.f (k : Nat) (a0_0 : Int) (l0_1 : List Int) : Option ((List (S62))) := (Aai.f k a0_0 l0_1).bind fun t1221 => (Aao.l0 k (([] : List (S62))) t1221 t1221 (t1221.length : Int) 0 a0_0 l0_1)
set_option maxHeartbeats 8000000 in
set_option maxRecDepth 100000 in
theorem Aao.calls (k : Nat) (a0_0 : Int) (A0_1 : Option Addr) (c0_1 : Nat) (l0_1 : List Int) (r : List (S62)) (w : World) (hr0_1 : Kd.C (Kd.int .i64) w A0_1 l0_1.length l0_1) (hc0_1 : l0_1.length ≤ c0_1) (h : Aao.f k a0_0 l0_1 = some r) :
 Calls Tryd.prog 135 #[.agg #[.int .i64 a0_0,.slice A0_1 l0_1.length c0_1]] w fun e w'=>∃ v0_ : Value,e = .returned (v0_) ∧ Kd.R k62 62 w' w.heap.size (fun _=>True) v0_ r ∧ Below w.heap.size w w':=by
 have hu28:=Tryd.underlying28;have hu62:=Tryd.underlying62;have HR0_1:=A_ hr0_1;have HC0_1:=A_ hc0_1;clear hr0_1 hc0_1;have HB:=A_ (Below.refl w.heap.size w);have H : ((Aai.f k a0_0 l0_1).bind fun Aa=>(Aao.l0 k (([] : List (S62))) Aa Aa (Aa.length : Int) 0 a0_0 l0_1)) = some r:=h;clear h;obtain ⟨An,Af⟩ : ∃ y_ : List (S62),y_ = (([] : List (S62))):=⟨_,rfl⟩;replace H : ((Aai.f k a0_0 l0_1).bind fun Aa=>(Aao.l0 k An Aa Aa (Aa.length : Int) 0 a0_0 l0_1)) = some r:=by first|(rw [Af];with_reducible exact H)|(have H2_:=(Option.bind_some _ _).symm.trans H;rw [Af];with_reducible exact H2_)|(have H2_:=(Option.bind_some _ _).symm.trans H;with_reducible exact H2_)|with_reducible exact H|(rw [Af];exact H)|exact H
 have Ap:=A_ Af;clear Af;replace H:=Option.bind_eq_some_iff.mp H;obtain ⟨Aa,A20,H⟩:=H;replace H : (Aao.l0 k An Aa Aa (Aa.length : Int) 0 a0_0 l0_1) = some r:=H;have A2:=A_ A20;clear A20;have H':=A_ H;clear H;go_enter Tryd.func135,Tryd.ntmps135
 go_wp2_with (first|((with_reducible refine gate_dst (N:=1) rfl ?_);refine box_event ?hg (N:=1) ?hd (cs:=#[.int .i64 a0_0,.slice A0_1 l0_1.length c0_1]) (t:=28) ?hr ?_;(case hd=>rfl);(case hg=>rfl);(case hr=>go_simp;try rfl);intro Ac hg w3 hbox hb;have Ab:=A_ (hbox);have Ay:=A_ (gw_ (w:=w) hg bb_);have Az:=A_ (gw_ (w:=w) hg bb_);replace HB:=A_ (below_step bb_ hb);clear hb hbox hg)|((with_reducible refine gate_dst (N:=10) rfl ?_);refine Kd.R_lit k62 _ 62 ?hg (N:=10) ?hd (xs:=([] : List (S62))) (inner:=[]) (ok:=fun _=>True) (okp:=fun _=>True) ?hr ?hp (fun _ hk=>hk) trivial (Below.refl _ _) (Nat.le_refl _) (by simp) ?_;(case hd=>rfl);(case hg=>rfl);(case hr=>go_simp;try rfl);(case hp=>exact (Reps.none _ _));intro Ba w4 ho5 hb hg_ hnew_;clear hg_ hnew_;(first|rw [← Ap.out] at ho5|(simp only [Int.reduceToNat] at ho5;rw [← Ap.out] at ho5));have Ak:=A_ (Kd.R_lower ho5 (below_size bb_));replace Ab:=bz Ab hb;replace HB:=A_ (below_step bb_ hb);clear hb ho5;have hcz6_0 : w4.cell? ⟨Ac,0,none⟩ = some (.int .i64 a0_0):=blk_cell Ab.out 0;have hcz6_1 : w4.cell? ⟨Ac,1,none⟩ = some (.slice A0_1 l0_1.length c0_1):=blk_cell Ab.out 1;have hfz6_0:=blk_frozen Ab.out 0;have hfz6_1:=blk_frozen Ab.out 1)|((with_reducible refine gate_callee (f:=116) rfl ?_);refine goesL_ (some 12) rfl rfl Tryd.func116 (by kernel_rfl) rfl #[.agg #[.int .i64 a0_0,.slice A0_1 l0_1.length c0_1]] rfl au_ ?_;(with_reducible refine (Aai.calls k a0_0 _ _ l0_1 Aa _ ?side1 ?side2 A2.out).mono ?_);(case side1=>exact cl_ (Kd.C_below HR0_1.out HB.out));(case side2=>exact HC0_1.out);rintro e w7 ⟨Bb,rfl,ho0,hb⟩;refine ⟨_,rfl,?_⟩;replace Ak:=rb_ Ak hb;have Al:=A_ (Kd.R_lower ho0 (below_size bb_));replace Ab:=bz Ab hb;replace HB:=A_ (below_step bb_ hb);(try clear hb);(try clear hb2);(try clear hk);(try clear hi);(try clear ho0);obtain ⟨Ao8,co8,eo8⟩:=Kd.R_slice Al.out;subst eo8))
 go_loopg [3,15] k (fun kq v3 v15 w'=>∃ (x3_1 : List (S62)) (x15_1 : Int),v15 = .int .i64 x15_1 ∧ Aside0 (Aao.l0 kq x3_1 Aa Aa (Aa.length : Int) x15_1 a0_0 l0_1 = some r) ∧ Aside0 (kq ≤ k) ∧ Aside0 (Kd.R k62 62 w' w.heap.size (fun _=>True) v3 x3_1) ∧ Aside0 (Kd.R (Kd.int .i64) 3 w' w.heap.size (fun _=>True) (.slice Ao8 Aa.length co8) Aa) ∧ Aside0 (Kd.R (Kd.int .i64) 3 w' w.heap.size (fun _=>True) (.slice Ao8 Aa.length co8) Aa) ∧ Aside0 (w'.heap[Ac]? = some (.cells #[.int .i64 a0_0,(.slice A0_1 l0_1.length c0_1)] 28 (0,0))) ∧ Aside0 (Below w.heap.size w w'))
 case atStart=>exact ⟨(An),(0),(by first|rfl|(simp;done)|(simp [*];done)),H',⟨Nat.le_refl _⟩,⟨rl_ Ak⟩,⟨rl_ Al⟩,⟨rl_ Al⟩,⟨bl_ Ab⟩,⟨bb_⟩⟩
 case round =>
  clear H';try clear c1
  try clear p2
  try clear hcz6_0
  try clear hcz6_1
  try clear hfz6_0
  try clear hfz6_1
  obtain ⟨x3_1,x15_1,rfl,HA,HK1,HO_3,HO_4,HO_13,Ab,HB⟩:=hrel;cases gk with
  | zero => exact absurd HA.out (by simp [Aao.l0])
  | succ k1 =>
   have H:=HA.out;clear HA;simp only [Aao.l0] at H
   by_cases c9 : x15_1 < (Aa.length : Int)
   ·rw [if_pos c9] at H;have c9b0 : decide (x15_1 < (Aa.length : Int)) = true:=decide_eq_true c9;clear c9;by_cases c10 : 0 ≤ x15_1
    ·rw [if_pos c10] at H;have c10b0 : decide (0 ≤ x15_1) = true:=decide_eq_true c10;clear c10;by_cases c11 : x15_1 < (Aa.length : Int)
     ·rw [if_pos c11] at H;have c11b0 : decide (x15_1 < (Aa.length : Int)) = true:=decide_eq_true c11;clear c11;have H':=A_ H;clear H;have Ai : 0 ≤ (x15_1 : Int):=of_decide_eq_true (by first|(with_reducible assumption)|assumption);have Aj : x15_1 < (Aa.length : Int):=of_decide_eq_true (by first|(with_reducible assumption)|assumption);obtain ⟨Ag,Ax,Aq⟩:=Kd.at_int (Kd.R_reads' HO_13.out).2.2 x15_1 Ai Aj;cases Ax
      replace Ai:=eq_true Ai;replace Aj:=eq_true Aj;go_wp2
      go_loopg [7,23] k1 (fun kq v7 v23 w'=>∃ (x7_2 : Int) (x23_2 : Int),v7 = .int .i64 x7_2 ∧ v23 = .int .i64 x23_2 ∧ Aside0 (Aao.l1 kq x3_1 Aa x15_1 (rd Aa x15_1) x7_2 Aa (Aa.length : Int) x15_1 Aa (Aa.length : Int) x23_2 a0_0 l0_1 = some r) ∧ Aside0 (kq ≤ k1) ∧ Aside0 (Kd.R k62 62 w' w.heap.size (fun _=>True) u3 x3_1) ∧ Aside0 (Kd.R (Kd.int .i64) 3 w' w.heap.size (fun _=>True) (.slice (some Ag) Aa.length co8) Aa) ∧ Aside0 (Kd.R (Kd.int .i64) 3 w' w.heap.size (fun _=>True) (.slice (some Ag) Aa.length co8) Aa) ∧ Aside0 (Kd.R (Kd.int .i64) 3 w' w.heap.size (fun _=>True) (.slice (some Ag) Aa.length co8) Aa) ∧ Aside0 (w'.heap[Ac]? = some (.cells #[.int .i64 a0_0,(.slice A0_1 l0_1.length c0_1)] 28 (0,0))) ∧ Aside0 (Below w.heap.size w w'))
      case atStart=>exact ⟨(rd Aa x15_1),(0),(by first|rfl|(simp;done)|(simp [*];done)),(by first|rfl|(simp;done)|(simp [*];done)),H',⟨Nat.le_refl _⟩,⟨rl_ HO_3⟩,⟨rl_ HO_4⟩,⟨rl_ HO_13⟩,⟨rl_ HO_4⟩,⟨bl_ Ab⟩,⟨bb_⟩⟩
      case round =>
       clear H';try clear c1
       try clear p1
       try clear q1
       try clear hx1
       try clear p2
       try clear c9
       try clear c9b0
       try clear c10
       try clear c10b0
       try clear c11
       try clear c11b0
       try clear hcz6_0
       try clear hcz6_1
       try clear hfz6_0
       try clear hfz6_1
       try clear Aq
       try clear Ai
       try clear p2
       try clear Aj
       obtain ⟨x7_2,x23_2,rfl,rfl,HA,HK2,HO_3,HO_4,HO_13,HO_21,Ab,HB⟩:=hrel;cases gk with
       | zero=>exact absurd HA.out (by simp [Aao.l1])
       | succ k2 =>
        have H:=HA.out;clear HA;simp only [Aao.l1] at H
        by_cases c12 : x23_2 < (Aa.length : Int)
        ·rw [if_pos c12] at H;have c12b0 : decide (x23_2 < (Aa.length : Int)) = true:=decide_eq_true c12;clear c12;by_cases c13 : 0 ≤ x23_2
         ·rw [if_pos c13] at H;have c13b0 : decide (0 ≤ x23_2) = true:=decide_eq_true c13;clear c13;by_cases c14 : x23_2 < (Aa.length : Int)
          ·rw [if_pos c14] at H;have c14b0 : decide (x23_2 < (Aa.length : Int)) = true:=decide_eq_true c14;clear c14;replace H:=Option.bind_eq_some_iff.mp H;obtain ⟨As,Au,H⟩:=H;replace H : (if As = true then (Aao.l1 k2 x3_1 Aa x15_1 (rd Aa x15_1) x7_2 Aa (Aa.length : Int) x15_1 Aa (Aa.length : Int) (wrap64 (x23_2 + 1)) a0_0 l0_1) else (Aao.l1 k2 x3_1 Aa x15_1 (rd Aa x15_1) (mx x7_2 (rd Aa x23_2)) Aa (Aa.length : Int) x15_1 Aa (Aa.length : Int) (wrap64 (x23_2 + 1)) a0_0 l0_1)) = some r:=H;have A15:=A_ Au;clear Au;by_cases c16 : As = true
           ·subst c16;have H1 : (Aao.l1 k2 x3_1 Aa x15_1 (rd Aa x15_1) x7_2 Aa (Aa.length : Int) x15_1 Aa (Aa.length : Int) (wrap64 (x23_2 + 1)) a0_0 l0_1) = some r:=by rw [if_pos rfl] at H;exact H
            clear H;have H:=H1;clear H1;have H':=A_ H;clear H;have Ad : 0 ≤ (x23_2 : Int):=of_decide_eq_true (by first|(with_reducible assumption)|assumption);have Ae : x23_2 < (Aa.length : Int):=of_decide_eq_true (by first|(with_reducible assumption)|assumption);obtain ⟨Am,Ao,Ar⟩:=Kd.at_int (Kd.R_reads' HO_21.out).2.2 x23_2 Ad Ae;obtain rfl : Ag = Am:=(by injection Ao);replace Ad:=eq_true Ad;replace Ae:=eq_true Ae;have hcz17_0 : wr.cell? ⟨Ac,0,none⟩ = some (.int .i64 a0_0):=blk_cell Ab.out 0;have hcz17_1 : wr.cell? ⟨Ac,1,none⟩ = some (.slice A0_1 l0_1.length c0_1):=blk_cell Ab.out 1;have hfz17_0:=blk_frozen Ab.out 0;have hfz17_1:=blk_frozen Ab.out 1;go_wp2_with (first|((with_reducible refine gate_callee (f:=146) rfl ?_);refine goesL_ (some 31) rfl rfl Tryd.func146 (by kernel_rfl) rfl #[.agg #[.int .i64 a0_0,.slice A0_1 l0_1.length c0_1],.int .i64 x15_1,.int .i64 x23_2] rfl au_ ?_;(with_reducible refine (Aah.calls a0_0 _ _ l0_1 x15_1 x23_2 true _ ?side1 ?side2 A15.out).mono ?_);(case side1=>exact cl_ (Kd.C_below HR0_1.out HB.out));(case side2=>exact HC0_1.out);rintro e w18 ⟨rfl,hb⟩;refine ⟨_,rfl,?_⟩;replace HO_3:=rb_ HO_3 hb;replace HO_4:=rb_ HO_4 hb;replace HO_13:=rb_ HO_13 hb;replace HO_21:=rb_ HO_21 hb;replace Ab:=bz Ab hb;replace HB:=A_ (below_step bb_ hb);(try clear hb);(try clear hb2);(try clear hk);(try clear hi)))
            go_roundg k2
            case measure=>have:=HK1.out;have:=HK2.out;omega
            case rel=>exact ⟨(x7_2),(wrap64 (x23_2 + 1)),(by first|rfl|(simp;done)|(simp [*];done)),(by first|rfl|(simp;done)|(simp [*];done)),H',⟨by have:=HK1.out;have:=HK2.out;omega⟩,⟨rl_ HO_3⟩,⟨rl_ HO_4⟩,⟨rl_ HO_13⟩,⟨rl_ HO_21⟩,⟨bl_ Ab⟩,⟨bb_⟩⟩
           ·replace c16:=Bool.eq_false_iff.mpr c16;subst c16;have H1 : (Aao.l1 k2 x3_1 Aa x15_1 (rd Aa x15_1) (mx x7_2 (rd Aa x23_2)) Aa (Aa.length : Int) x15_1 Aa (Aa.length : Int) (wrap64 (x23_2 + 1)) a0_0 l0_1) = some r:=by rw [if_neg (show ¬ (false = true) by decide)] at H;exact H
            clear H;have H:=H1;clear H1;obtain ⟨ji19,hji19⟩ : ∃ j_ : Int,(mx x7_2 (rd Aa x23_2)) = j_:=⟨_,rfl⟩;replace H : (Aao.l1 k2 x3_1 Aa x15_1 (rd Aa x15_1) ji19 Aa (Aa.length : Int) x15_1 Aa (Aa.length : Int) (wrap64 (x23_2 + 1)) a0_0 l0_1) = some r:=by first|(rw [hji19] at H;exact H)|(simp only [hji19] at H ⊢;exact H)
            (try rw [hji19] at A15);have hji19_ : (if x7_2 < (rd Aa x23_2) then (rd Aa x23_2) else x7_2) = ji19:=hji19;have H':=A_ H;clear H;have Ad : 0 ≤ (x23_2 : Int):=of_decide_eq_true (by first|(with_reducible assumption)|assumption);have Ae : x23_2 < (Aa.length : Int):=of_decide_eq_true (by first|(with_reducible assumption)|assumption);obtain ⟨Am,Ao,Ar⟩:=Kd.at_int (Kd.R_reads' HO_21.out).2.2 x23_2 Ad Ae;obtain rfl : Ag = Am:=(by injection Ao);replace Ad:=eq_true Ad;replace Ae:=eq_true Ae;have hcz20_0 : wr.cell? ⟨Ac,0,none⟩ = some (.int .i64 a0_0):=blk_cell Ab.out 0;have hcz20_1 : wr.cell? ⟨Ac,1,none⟩ = some (.slice A0_1 l0_1.length c0_1):=blk_cell Ab.out 1;have hfz20_0:=blk_frozen Ab.out 0;have hfz20_1:=blk_frozen Ab.out 1;go_wp2_with (first|((with_reducible refine gate_callee (f:=146) rfl ?_);refine goesL_ (some 31) rfl rfl Tryd.func146 (by kernel_rfl) rfl #[.agg #[.int .i64 a0_0,.slice A0_1 l0_1.length c0_1],.int .i64 x15_1,.int .i64 x23_2] rfl au_ ?_;(with_reducible refine (Aah.calls a0_0 _ _ l0_1 x15_1 x23_2 false _ ?side1 ?side2 A15.out).mono ?_);(case side1=>exact cl_ (Kd.C_below HR0_1.out HB.out));(case side2=>exact HC0_1.out);rintro e w21 ⟨rfl,hb⟩;refine ⟨_,rfl,?_⟩;replace HO_3:=rb_ HO_3 hb;replace HO_4:=rb_ HO_4 hb;replace HO_13:=rb_ HO_13 hb;replace HO_21:=rb_ HO_21 hb;replace Ab:=bz Ab hb;replace HB:=A_ (below_step bb_ hb);(try clear hb);(try clear hb2);(try clear hk);(try clear hi)))
            go_roundg k2
            case measure=>have:=HK1.out;have:=HK2.out;omega
            case rel=>exact ⟨(ji19),(wrap64 (x23_2 + 1)),(by first|rfl|(simp;done)|(simp only [← hji19] <;> (first|rfl|simp))|(simp [*];done)),(by first|rfl|(simp;done)|(simp [*];done)),H',⟨by have:=HK1.out;have:=HK2.out;omega⟩,⟨rl_ HO_3⟩,⟨rl_ HO_4⟩,⟨rl_ HO_13⟩,⟨rl_ HO_21⟩,⟨bl_ Ab⟩,⟨bb_⟩⟩
          ·rw [if_neg c14] at H;exact absurd H (by simp)
         ·rw [if_neg c13] at H;exact absurd H (by simp)
        ·rw [if_neg c12] at H;have c12b0 : decide (x23_2 < (Aa.length : Int)) = false:=decide_eq_false c12;clear c12;by_cases c22 : x3_1.length < 8796093022208
         ·rw [if_pos c22] at H;have LMc22:=A_ c22;clear c22;obtain ⟨At,Ah⟩ : ∃ y_ : List (S62),y_ = (x3_1 ++ [(⟨(rd Aa x15_1),x7_2⟩ : S62)]):=⟨_,rfl⟩;replace H : (Aao.l0 k2 At Aa Aa (Aa.length : Int) (wrap64 (x15_1 + 1)) a0_0 l0_1) = some r:=by first|(rw [Ah];with_reducible exact H)|(have H2_:=(Option.bind_some _ _).symm.trans H;rw [Ah];with_reducible exact H2_)|(have H2_:=(Option.bind_some _ _).symm.trans H;with_reducible exact H2_)|with_reducible exact H|(rw [Ah];exact H)|exact H
          have Av:=A_ Ah;clear Ah;have H':=A_ H;clear H;go_wp2_with (first|((with_reducible refine gate_builtin (b:=.append) (xs:=#[.tmp 37,.tmp 41]) rfl ?_);at_builtin;refine Kd.R_append k62 (w0:=w) w.heap.size rfl (.tmp 37) (.tmp 41) 52 62 (.agg #[(.int .i64 0),(.int .i64 0)]) 16 rfl Tryd.underlying52 info62 rfl (by decide) (by omega) u3 x3_1 (⟨(rd Aa x15_1),x7_2⟩ : S62) [.int .i64 (rd Aa x15_1),.int .i64 x7_2] (fun _=>True) (fun _=>False) rfl rfl ?aP (fun _ hk=>hk.elim) ?aF ?aO ?aB ?aS ?aL ?_;(case aP=>exact k62_mkM _ _ _ (⟨(rd Aa x15_1),x7_2⟩ : S62));(case aB=>exact bb_);(case aF=>exact (fun _ _=>trivial));(case aO=>exact (rl_ HO_3));(case aS=>exact (below_size bb_));(case aL=>have:=LMc22.out;omega);intro Bc w23 ho hb hg hat;rw [← Av.out] at ho;replace HO_4:=A_ (Kd.R_over' (rl_ HO_4) (Kd.R_typed (rl_ HO_3)) (by decide) hg);replace HO_13:=A_ (Kd.R_over' (rl_ HO_13) (Kd.R_typed (rl_ HO_3)) (by decide) hg);replace HO_21:=A_ (Kd.R_over' (rl_ HO_21) (Kd.R_typed (rl_ HO_3)) (by decide) hg);replace Ab:=A_ (blk_grown (g:=Ac) (o:=.cells #[.int .i64 a0_0,.slice A0_1 l0_1.length c0_1] 28 (0,0)) (bl_ Ab) hg (Kd.R_ne HO_3.out Ab.out (by decide)));replace HB:=A_ (hb);have Aw:=A_ (ho);clear HO_3;clear ho hb hg hat))
          go_roundg k2
          case measure=>have:=HK1.out;have:=HK2.out;omega
          case rel=>exact ⟨(At),(wrap64 (x15_1 + 1)),(by first|rfl|(simp;done)|(simp [*];done)),H',⟨by have:=HK1.out;have:=HK2.out;omega⟩,⟨rl_ Aw⟩,⟨rl_ HO_4⟩,⟨rl_ HO_13⟩,⟨bl_ Ab⟩,⟨bb_⟩⟩
         ·rw [if_neg c22] at H;exact absurd H (by simp)
     ·rw [if_neg c11] at H;exact absurd H (by simp)
    ·rw [if_neg c10] at H;exact absurd H (by simp)
   ·rw [if_neg c9] at H;have c9b0 : decide (x15_1 < (Aa.length : Int)) = false:=decide_eq_false c9;clear c9;obtain rfl:=Option.some.inj H;go_wp2
    go_ret
    exact ⟨_,by first|rfl|(simp [errW_none,errW_some] <;> rfl)|(simp [*,errW_none,errW_some] <;> rfl),rl_ HO_3,bb_⟩
def Abe.f (k : Nat) (a0_0 : Int) (l0_1 : List Int) : Option ((List (S62)) × Bool) := (Aat.f k a0_0 l0_1).bind fun t1231 => (if t1231 = true then ((Aao.f k a0_0 l0_1).bind fun t1232 => (some (t1232, true))) else (some (([] : List (S62)), false)))
set_option maxHeartbeats 8000000 in
set_option maxRecDepth 100000 in
theorem Abe.calls (k : Nat) (a0_0 : Int) (A0_1 : Option Addr) (c0_1 : Nat) (l0_1 : List Int) (r1 : List (S62)) (r2 : Bool) (w : World) (hr0_1 : Kd.C (Kd.int .i64) w A0_1 l0_1.length l0_1) (hc0_1 : l0_1.length ≤ c0_1) (hT : TabOK w) (h : Abe.f k a0_0 l0_1 = some (r1,r2)) :
 Calls Tryd.prog 48 #[.agg #[.int .i64 a0_0,.slice A0_1 l0_1.length c0_1]] w fun e w'=>∃ v0_ : Value,e = .returned (.tuple #[v0_,.bool r2]) ∧ Kd.R k62 62 w' w.heap.size (fun _=>True) v0_ r1 ∧ Below w.heap.size w w':=by
 have hu28:=Tryd.underlying28;have HT:=A_ hT;clear hT;have HR0_1:=A_ hr0_1;have HC0_1:=A_ hc0_1;clear hr0_1 hc0_1;have HB:=A_ (Below.refl w.heap.size w);have H : ((Aat.f k a0_0 l0_1).bind fun Ad=>(if Ad = true then ((Aao.f k a0_0 l0_1).bind fun Ac=>(some (Ac,true))) else (some (([] : List (S62)),false)))) = some (r1,r2):=h;clear h;replace H:=Option.bind_eq_some_iff.mp H;obtain ⟨Ad,A20,H⟩:=H;replace H : (if Ad = true then ((Aao.f k a0_0 l0_1).bind fun Ac=>(some (Ac,true))) else (some (([] : List (S62)),false))) = some (r1,r2):=H;have A2:=A_ A20;clear A20;by_cases c3 : Ad = true
 ·subst c3;have H1 : ((Aao.f k a0_0 l0_1).bind fun Ac=>(some (Ac,true))) = some (r1,r2):=by rw [if_pos rfl] at H;exact H
  clear H;have H:=H1;clear H1;replace H:=Option.bind_eq_some_iff.mp H;obtain ⟨Ac,A40,H⟩:=H;replace H : (some (Ac,true)) = some (r1,r2):=H;have A4:=A_ A40;clear A40;simp only [Option.some.injEq,Prod.mk.injEq] at H
  obtain ⟨rfl,rfl⟩:=H;go_enter Tryd.func48,Tryd.ntmps48
  go_wp2_with (first|((with_reducible refine gate_dst (N:=1) rfl ?_);refine box_event ?hg (N:=1) ?hd (cs:=#[.int .i64 a0_0,.slice A0_1 l0_1.length c0_1]) (t:=28) ?hr ?_;(case hd=>rfl);(case hg=>rfl);(case hr=>go_simp;try rfl);intro Ab hg w5 hbox hb;have Aa:=A_ (hbox);have Ae:=A_ (gw_ (w:=w) hg bb_);have Af:=A_ (gw_ (w:=w) hg bb_);replace HB:=A_ (below_step bb_ hb);clear hb hbox hg;have hcz6_0 : w5.cell? ⟨Ab,0,none⟩ = some (.int .i64 a0_0):=blk_cell Aa.out 0;have hcz6_1 : w5.cell? ⟨Ab,1,none⟩ = some (.slice A0_1 l0_1.length c0_1):=blk_cell Aa.out 1;have hfz6_0:=blk_frozen Aa.out 0;have hfz6_1:=blk_frozen Aa.out 1)|((with_reducible refine gate_callee (f:=134) rfl ?_);refine goesL_ (some 5) rfl rfl Tryd.func134 (by kernel_rfl) rfl #[.agg #[.int .i64 a0_0,.slice A0_1 l0_1.length c0_1]] rfl au_ ?_;(with_reducible refine (Aat.calls k a0_0 _ _ l0_1 true _ ?side1 ?side2 ?side3 A2.out).mono ?_);(case side1=>exact cl_ (Kd.C_below HR0_1.out HB.out));(case side2=>exact HC0_1.out);(case side3=>first|exact HT.out|exact HT.out.below bb_|(repeat (first|exact HT.out|apply TabOK.drewN|apply TabOK.drew|apply TabOK.alloc)));rintro e w7 ⟨rfl,hb⟩;refine ⟨_,rfl,?_⟩;replace Aa:=bz Aa hb;replace HB:=A_ (below_step bb_ hb);(try clear hb);(try clear hb2);(try clear hk);(try clear hi);have hcz8_0 : w7.cell? ⟨Ab,0,none⟩ = some (.int .i64 a0_0):=blk_cell Aa.out 0;have hcz8_1 : w7.cell? ⟨Ab,1,none⟩ = some (.slice A0_1 l0_1.length c0_1):=blk_cell Aa.out 1;have hfz8_0:=blk_frozen Aa.out 0;have hfz8_1:=blk_frozen Aa.out 1)|((with_reducible refine gate_callee (f:=135) rfl ?_);refine goesL_ (some 8) rfl rfl Tryd.func135 (by kernel_rfl) rfl #[.agg #[.int .i64 a0_0,.slice A0_1 l0_1.length c0_1]] rfl au_ ?_;(with_reducible refine (Aao.calls k a0_0 _ _ l0_1 Ac _ ?side1 ?side2 A4.out).mono ?_);(case side1=>exact cl_ (Kd.C_below HR0_1.out HB.out));(case side2=>exact HC0_1.out);rintro e w9 ⟨Ah,rfl,ho0,hb⟩;refine ⟨_,rfl,?_⟩;have Ag:=A_ (Kd.R_lower ho0 (below_size bb_));replace Aa:=bz Aa hb;replace HB:=A_ (below_step bb_ hb);(try clear hb);(try clear hb2);(try clear hk);(try clear hi);(try clear ho0)))
  go_ret2
  exact ⟨_,by first|rfl|(simp [errW_none,errW_some] <;> rfl)|(simp [*,errW_none,errW_some] <;> rfl),rl_ Ag,bb_⟩
 ·replace c3:=Bool.eq_false_iff.mpr c3;subst c3;have H1 : (some (([] : List (S62)),false)) = some (r1,r2):=by rw [if_neg (show ¬ (false = true) by decide)] at H;exact H
  clear H;have H:=H1;clear H1;simp only [Option.some.injEq,Prod.mk.injEq] at H
  obtain ⟨rfl,rfl⟩:=H;go_enter Tryd.func48,Tryd.ntmps48
  go_wp2_with (first|((with_reducible refine gate_dst (N:=1) rfl ?_);refine box_event ?hg (N:=1) ?hd (cs:=#[.int .i64 a0_0,.slice A0_1 l0_1.length c0_1]) (t:=28) ?hr ?_;(case hd=>rfl);(case hg=>rfl);(case hr=>go_simp;try rfl);intro Ab hg w10 hbox hb;have Aa:=A_ (hbox);have Ae:=A_ (gw_ (w:=w) hg bb_);have Af:=A_ (gw_ (w:=w) hg bb_);replace HB:=A_ (below_step bb_ hb);clear hb hbox hg;have hcz11_0 : w10.cell? ⟨Ab,0,none⟩ = some (.int .i64 a0_0):=blk_cell Aa.out 0;have hcz11_1 : w10.cell? ⟨Ab,1,none⟩ = some (.slice A0_1 l0_1.length c0_1):=blk_cell Aa.out 1;have hfz11_0:=blk_frozen Aa.out 0;have hfz11_1:=blk_frozen Aa.out 1)|((with_reducible refine gate_callee (f:=134) rfl ?_);refine goesL_ (some 5) rfl rfl Tryd.func134 (by kernel_rfl) rfl #[.agg #[.int .i64 a0_0,.slice A0_1 l0_1.length c0_1]] rfl au_ ?_;(with_reducible refine (Aat.calls k a0_0 _ _ l0_1 false _ ?side1 ?side2 ?side3 A2.out).mono ?_);(case side1=>exact cl_ (Kd.C_below HR0_1.out HB.out));(case side2=>exact HC0_1.out);(case side3=>first|exact HT.out|exact HT.out.below bb_|(repeat (first|exact HT.out|apply TabOK.drewN|apply TabOK.drew|apply TabOK.alloc)));rintro e w12 ⟨rfl,hb⟩;refine ⟨_,rfl,?_⟩;replace Aa:=bz Aa hb;replace HB:=A_ (below_step bb_ hb);(try clear hb);(try clear hb2);(try clear hk);(try clear hi)))
  go_ret2
  exact ⟨_,by first|rfl|(simp [errW_none,errW_some] <;> rfl)|(simp [*,errW_none,errW_some] <;> rfl),by first|exact Kd.R_nil _ _ _ _ _|exact Kd.N_nil _ _ _ _ _|exact Kd.V_nil _ _ _ _ _|exact Kd.Q_nil _ _ _ _ _|exact Kd.S_nil _ _ _ _ _,bb_⟩
def Aap.f (a0 : Int) (a1 : Int) : Option (Bool) := if 0 ≤ a1 then (some ((Int.tmod (shr .i64 a0 a1) 2) == 1)) else (none)
set_option maxHeartbeats 8000000 in
set_option maxRecDepth 100000 in
theorem Aap.calls (a0 : Int) (a1 : Int) (r : Bool) (w : World) (h : Aap.f a0 a1 = some r) :
 Calls Tryd.prog 192 #[.int .i64 a0,.int .i64 a1] w fun e w'=>e = .returned (.bool r) ∧ Drawn0 w w':=by
 have H : (if 0 ≤ a1 then (some ((Int.tmod (shr .i64 a0 a1) 2) == 1)) else (none)) = some r:=h;clear h;by_cases c3 : 0 ≤ a1
 ·rw [if_pos c3] at H;have c3b0:=eq_true c3;have c3b1 : decide (0 ≤ a1) = true:=decide_eq_true c3;clear c3;obtain ⟨ji4,hji4⟩ : ∃ j_ : Int,(shr .i64 a0 a1) = j_:=⟨_,rfl⟩;replace H : (some ((Int.tmod (ji4) 2) == 1)) = some r:=by first|(rw [hji4] at H;exact H)|(simp only [hji4] at H ⊢;exact H)
  have hji4_ : (a0 / 2 ^ min a1.toNat 64) = ji4:=hji4;have hji4z : a1 ≤ 64 → (a0 / 2 ^ a1.toNat) = ji4:=shr_small hji4;obtain rfl:=Option.some.inj H;go_enter Tryd.func192,Tryd.ntmps192
  go_wp2
  go_ret
  exact ⟨by first|rfl|(simp;done)|(simp only [← hji4] <;> (first|rfl|simp))|(simp [*];done),by repeat (first|exact Drawn0.refl _|apply Drawn0.step)⟩
 ·rw [if_neg c3] at H;exact absurd H (by simp)
def Aa3.l0 : Nat → Int → List Int → Int → Option (List Int)
 | 0,_,_,_=>none
 | k + 1,x0,x3,x4=>if 0 ≤ x4 then (if (shr .i64 x0 x4) > 0 then ((Aap.f x0 x4).bind fun t103=>(if t103 = true then (if x3.length < 17592186044416 then (Aa3.l0 k x0 (x3 ++ [x4]) (wrap64 (x4 + 1))) else (none)) else (Aa3.l0 k x0 x3 (wrap64 (x4 + 1))))) else (some x3)) else (none)
def Aa3.f (k : Nat) (a0 : Int) : Option (List Int) := Aa3.l0 k a0 ([] : List Int) 0
set_option maxHeartbeats 8000000 in
set_option maxRecDepth 100000 in
theorem Aa3.calls (k : Nat) (a0 : Int) (r : List Int) (w : World) (h : Aa3.f k a0 = some r) :
 Calls Tryd.prog 191 #[.int .i64 a0] w fun e w'=>∃ v0_ : Value,e = .returned (v0_) ∧ Kd.R (Kd.int .i64) 3 w' w.heap.size (fun _=>True) v0_ r ∧ Below w.heap.size w w':=by
 have HB:=A_ (Below.refl w.heap.size w);have H : (Aa3.l0 k a0 ([] : List Int) 0) = some r:=h;clear h;have H':=A_ H;clear H;go_enter Tryd.func191,Tryd.ntmps191
 go_wp2
 go_loopg [3,4] k (fun kq v3 v4 w'=>∃ (x3_1 : List Int) (x4_1 : Int),v4 = .int .i64 x4_1 ∧ Aside0 (Aa3.l0 kq a0 x3_1 x4_1 = some r) ∧ Aside0 (kq ≤ k) ∧ Aside0 (Kd.R (Kd.int .i64) 3 w' w.heap.size (fun _=>True) v3 x3_1) ∧ Aside0 (Below w.heap.size w w'))
 case atStart=>exact ⟨(([] : List Int)),(0),(by first|rfl|(simp;done)|(simp [*];done)),H',⟨Nat.le_refl _⟩,⟨by first|exact Kd.R_nil _ _ _ _ _|exact Kd.N_nil _ _ _ _ _|exact Kd.V_nil _ _ _ _ _|exact Kd.Q_nil _ _ _ _ _|exact Kd.S_nil _ _ _ _ _⟩,⟨bb_⟩⟩
 case round =>
  clear H';try clear c1
  obtain ⟨x3_1,x4_1,rfl,HA,HK1,HO_3,HB⟩:=hrel;cases gk with
  | zero => exact absurd HA.out (by simp [Aa3.l0])
  | succ k1 =>
   have H:=HA.out;clear HA;simp only [Aa3.l0] at H
   by_cases c2 : 0 ≤ x4_1
   ·rw [if_pos c2] at H;have c2b0:=eq_true c2;have c2b1 : decide (0 ≤ x4_1) = true:=decide_eq_true c2;clear c2;obtain ⟨ji3,hji3⟩ : ∃ j_ : Int,(shr .i64 a0 x4_1) = j_:=⟨_,rfl⟩;replace H : (if (ji3) > 0 then ((Aap.f a0 x4_1).bind fun Ab=>(if Ab = true then (if x3_1.length < 17592186044416 then (Aa3.l0 k1 a0 (x3_1 ++ [x4_1]) (wrap64 (x4_1 + 1))) else (none)) else (Aa3.l0 k1 a0 x3_1 (wrap64 (x4_1 + 1))))) else (some x3_1)) = some r:=by first|(rw [hji3] at H;exact H)|(simp only [hji3] at H ⊢;exact H)
    have hji3_ : (a0 / 2 ^ min x4_1.toNat 64) = ji3:=hji3;have hji3z : x4_1 ≤ 64 → (a0 / 2 ^ x4_1.toNat) = ji3:=shr_small hji3;by_cases c4 : (ji3) > 0
    ·rw [if_pos c4] at H;have c4b0 : decide (0 < (ji3)) = true:=decide_eq_true c4;clear c4;replace H:=Option.bind_eq_some_iff.mp H;obtain ⟨Ab,A50,H⟩:=H;replace H : (if Ab = true then (if x3_1.length < 17592186044416 then (Aa3.l0 k1 a0 (x3_1 ++ [x4_1]) (wrap64 (x4_1 + 1))) else (none)) else (Aa3.l0 k1 a0 x3_1 (wrap64 (x4_1 + 1)))) = some r:=H;have A5:=A_ A50;clear A50;by_cases c6 : Ab = true
     ·subst c6;have H1 : (if x3_1.length < 17592186044416 then (Aa3.l0 k1 a0 (x3_1 ++ [x4_1]) (wrap64 (x4_1 + 1))) else (none)) = some r:=by rw [if_pos rfl] at H;exact H
      clear H;have H:=H1;clear H1;by_cases c7 : x3_1.length < 17592186044416
      ·rw [if_pos c7] at H;have LMc7:=A_ c7;clear c7;obtain ⟨Ac,Aa⟩ : ∃ y_ : List Int,y_ = (x3_1 ++ [x4_1]):=⟨_,rfl⟩;replace H : (Aa3.l0 k1 a0 Ac (wrap64 (x4_1 + 1))) = some r:=by first|(rw [Aa];with_reducible exact H)|(have H2_:=(Option.bind_some _ _).symm.trans H;rw [Aa];with_reducible exact H2_)|(have H2_:=(Option.bind_some _ _).symm.trans H;with_reducible exact H2_)|with_reducible exact H|(rw [Aa];exact H)|exact H
       have Ad:=A_ Aa;clear Aa;have H':=A_ H;clear H;go_wp2_with (first|((with_reducible refine gate_callee (f:=192) rfl ?_);refine goesL_ (some 13) rfl rfl Tryd.func192 (by kernel_rfl) rfl #[.int .i64 a0,.int .i64 x4_1] rfl au_ ?_;(with_reducible refine (Aap.calls a0 x4_1 true _ A5.out).mono ?_);rintro e w' ⟨rfl,⟨nd,rfl⟩⟩;refine ⟨_,rfl,?_⟩)|((with_reducible refine gate_builtin (b:=.append) (xs:=#[.tmp 14,.tmp 16]) rfl ?_);at_builtin;refine Kd.R_append (Kd.int .i64) (w0:=w) w.heap.size rfl (.tmp 14) (.tmp 16) 22 3 (.int .i64 0) 8 rfl Tryd.underlying22 info3 rfl (by decide) (by omega) u3 x3_1 x4_1 [.int .i64 x4_1] (fun _=>True) (fun _=>False) rfl rfl ?aP (fun _ hk=>hk.elim) ?aF ?aO ?aB ?aS ?aL ?_;(case aP=>exact rfl);(case aB=>exact bb_);(case aF=>exact (fun _ _=>trivial));(case aO=>exact (rl_ HO_3));(case aS=>exact (below_size bb_));(case aL=>have:=LMc7.out;omega);intro Af w8 ho hb hg hat;rw [← Ad.out] at ho;replace HB:=A_ (hb);have Ae:=A_ (ho);clear HO_3;clear ho hb hg hat))
       go_roundg k1
       case measure=>have:=HK1.out;omega
       case rel=>exact ⟨(Ac),(wrap64 (x4_1 + 1)),(by first|rfl|(simp;done)|(simp [*];done)),H',⟨by have:=HK1.out;omega⟩,⟨rl_ Ae⟩,⟨bb_⟩⟩
      ·rw [if_neg c7] at H;exact absurd H (by simp)
     ·replace c6:=Bool.eq_false_iff.mpr c6;subst c6;have H1 : (Aa3.l0 k1 a0 x3_1 (wrap64 (x4_1 + 1))) = some r:=by rw [if_neg (show ¬ (false = true) by decide)] at H;exact H
      clear H;have H:=H1;clear H1;have H':=A_ H;clear H;go_wp2_with (first|((with_reducible refine gate_callee (f:=192) rfl ?_);refine goesL_ (some 13) rfl rfl Tryd.func192 (by kernel_rfl) rfl #[.int .i64 a0,.int .i64 x4_1] rfl au_ ?_;(with_reducible refine (Aap.calls a0 x4_1 false _ A5.out).mono ?_);rintro e w' ⟨rfl,⟨nd,rfl⟩⟩;refine ⟨_,rfl,?_⟩))
      go_roundg k1
      case measure=>have:=HK1.out;omega
      case rel=>exact ⟨(x3_1),(wrap64 (x4_1 + 1)),(by first|rfl|(simp;done)|(simp [*];done)),H',⟨by have:=HK1.out;omega⟩,⟨rl_ HO_3⟩,⟨bb_⟩⟩
    ·rw [if_neg c4] at H;have c4b0 : decide (0 < (ji3)) = false:=decide_eq_false c4;clear c4;obtain rfl:=Option.some.inj H;go_wp2
     go_ret
     exact ⟨_,by first|rfl|(simp [errW_none,errW_some] <;> rfl)|(simp only [← hji3];first|rfl|(simp [errW_none,errW_some] <;> rfl))|(simp [*,errW_none,errW_some] <;> rfl),rl_ HO_3,bb_⟩
   ·rw [if_neg c2] at H;exact absurd H (by simp)
def Abg.f (a0 : Int) (a1 : Int) (a2 : Int) : Option (Bool) := if a0 ≥ a1 then (some (decide (a0 ≤ a2))) else (some false)
set_option maxHeartbeats 8000000 in
set_option maxRecDepth 100000 in
theorem Abg.calls (a0 : Int) (a1 : Int) (a2 : Int) (r : Bool) (w : World) (h : Abg.f a0 a1 a2 = some r) :
 Calls Tryd.prog 127 #[.int .i64 a0,.int .i64 a1,.int .i64 a2] w fun e w'=>e = .returned (.bool r) ∧ Drawn0 w w':=by
 have H : (if a0 ≥ a1 then (some (decide (a0 ≤ a2))) else (some false)) = some r:=h;clear h;by_cases c4 : a0 ≥ a1
 ·rw [if_pos c4] at H;have c4b0 : decide (a1 ≤ a0) = true:=decide_eq_true c4;clear c4;obtain rfl:=Option.some.inj H;go_enter Tryd.func127,Tryd.ntmps127
  go_wp2
  go_ret
  exact ⟨by first|rfl|(simp;done)|(simp [*];done),by repeat (first|exact Drawn0.refl _|apply Drawn0.step)⟩
 ·rw [if_neg c4] at H;have c4b0 : decide (a1 ≤ a0) = false:=decide_eq_false c4;clear c4;obtain rfl:=Option.some.inj H;go_enter Tryd.func127,Tryd.ntmps127
  go_wp2
  go_ret
  exact ⟨by first|rfl|(simp;done)|(simp [*];done),by repeat (first|exact Drawn0.refl _|apply Drawn0.step)⟩
def Aba.l0 : Nat → Int → Int → List Int → Int → Int → Option (Bool)
 | 0,_,_,_,_,_=>none
 | k + 1,x1,x2,x9,x10,x11=>if x11 < x10 then (if 0 ≤ x11 then (if x11 < (x9.length : Int) then ((Abg.f (rd x9 x11) x1 x2).bind fun t108=>(if t108 = true then (Aba.l0 k x1 x2 x9 x10 (wrap64 (x11 + 1))) else (some false))) else (none)) else (none)) else (some true)
def Aba.f (k : Nat) (l0 : List Int) (a1 : Int) (a2 : Int) : Option (Bool) := Aba.l0 k a1 a2 l0 (l0.length : Int) 0
set_option maxHeartbeats 8000000 in
set_option maxRecDepth 100000 in
theorem Aba.calls (k : Nat) (A0 : Option Addr) (c0 : Nat) (l0 : List Int) (a1 : Int) (a2 : Int) (r : Bool) (w : World) (hr0 : Kd.C (Kd.int .i64) w A0 l0.length l0) (hc0 : l0.length ≤ c0) (h : Aba.f k l0 a1 a2 = some r) :
 Calls Tryd.prog 214 #[.slice A0 l0.length c0,.int .i64 a1,.int .i64 a2] w fun e w'=>e = .returned (.bool r) ∧ Drawn0 w w':=by
 have HR0:=A_ hr0;have HC0:=A_ hc0;clear hr0 hc0;have H : (Aba.l0 k a1 a2 l0 (l0.length : Int) 0) = some r:=h;clear h;have H':=A_ H;clear H;go_enter Tryd.func214,Tryd.ntmps214
 go_wp2
 go_loopg [11] k (fun kq v11 w'=>∃ (x11_1 : Int),v11 = .int .i64 x11_1 ∧ Aside0 (Aba.l0 kq a1 a2 l0 (l0.length : Int) x11_1 = some r) ∧ Aside0 (kq ≤ k) ∧ Drawn0 w w')
 case atStart=>exact ⟨(0),(by first|rfl|(simp;done)|(simp [*];done)),H',⟨Nat.le_refl _⟩,by repeat (first|exact Drawn0.refl _|apply Drawn0.step)⟩
 case round =>
  clear H';try clear c2
  try clear p2
  obtain ⟨x11_1,rfl,HA,HK1,⟨m1,rfl⟩⟩:=hrel;cases gk with
  | zero => exact absurd HA.out (by simp [Aba.l0])
  | succ k1 =>
   have H:=HA.out;clear HA;simp only [Aba.l0] at H
   by_cases c4 : x11_1 < (l0.length : Int)
   ·rw [if_pos c4] at H;have c4b0 : decide (x11_1 < (l0.length : Int)) = true:=decide_eq_true c4;clear c4;by_cases c5 : 0 ≤ x11_1
    ·rw [if_pos c5] at H;have c5b0 : decide (0 ≤ x11_1) = true:=decide_eq_true c5;clear c5;by_cases c6 : x11_1 < (l0.length : Int)
     ·rw [if_pos c6] at H;have c6b0 : decide (x11_1 < (l0.length : Int)) = true:=decide_eq_true c6;clear c6;replace H:=Option.bind_eq_some_iff.mp H;obtain ⟨Ae,A70,H⟩:=H;replace H : (if Ae = true then (Aba.l0 k1 a1 a2 l0 (l0.length : Int) (wrap64 (x11_1 + 1))) else (some false)) = some r:=H;have A7:=A_ A70;clear A70;by_cases c8 : Ae = true
      ·subst c8;have H1 : (Aba.l0 k1 a1 a2 l0 (l0.length : Int) (wrap64 (x11_1 + 1))) = some r:=by rw [if_pos rfl] at H;exact H
       clear H;have H:=H1;clear H1;have H':=A_ H;clear H;have Aa : 0 ≤ (x11_1 : Int):=of_decide_eq_true (by first|(with_reducible assumption)|assumption);have Ab : x11_1 < (l0.length : Int):=of_decide_eq_true (by first|(with_reducible assumption)|assumption);obtain ⟨Af,Ac,Ad⟩:=Kd.at_int HR0.out x11_1 Aa Ab;cases Ac
       replace Aa:=eq_true Aa;replace Ab:=eq_true Ab;go_wp2_with (first|((with_reducible refine gate_callee (f:=127) rfl ?_);refine goesL_ (some 18) rfl rfl Tryd.func127 (by kernel_rfl) rfl #[.int .i64 (rd l0 x11_1),.int .i64 a1,.int .i64 a2] rfl au_ ?_;(with_reducible refine (Abg.calls (rd l0 x11_1) a1 a2 true _ A7.out).mono ?_);rintro e w' ⟨rfl,⟨nd,rfl⟩⟩;refine ⟨_,rfl,?_⟩))
       go_roundg k1
       case measure=>have:=HK1.out;omega
       case rel=>exact ⟨(wrap64 (x11_1 + 1)),(by first|rfl|(simp;done)|(simp [*];done)),H',⟨by have:=HK1.out;omega⟩,by repeat (first|exact Drawn0.refl _|apply Drawn0.step)⟩
      ·replace c8:=Bool.eq_false_iff.mpr c8;subst c8;have H1 : (some false) = some r:=by rw [if_neg (show ¬ (false = true) by decide)] at H;exact H
       clear H;have H:=H1;clear H1;obtain rfl:=Option.some.inj H;have Aa : 0 ≤ (x11_1 : Int):=of_decide_eq_true (by first|(with_reducible assumption)|assumption);have Ab : x11_1 < (l0.length : Int):=of_decide_eq_true (by first|(with_reducible assumption)|assumption);obtain ⟨Af,Ac,Ad⟩:=Kd.at_int HR0.out x11_1 Aa Ab;cases Ac
       replace Aa:=eq_true Aa;replace Ab:=eq_true Ab;go_wp2_with (first|((with_reducible refine gate_callee (f:=127) rfl ?_);refine goesL_ (some 18) rfl rfl Tryd.func127 (by kernel_rfl) rfl #[.int .i64 (rd l0 x11_1),.int .i64 a1,.int .i64 a2] rfl au_ ?_;(with_reducible refine (Abg.calls (rd l0 x11_1) a1 a2 false _ A7.out).mono ?_);rintro e w' ⟨rfl,⟨nd,rfl⟩⟩;refine ⟨_,rfl,?_⟩))
       go_ret
       exact ⟨by first|rfl|(simp;done)|(simp [*];done),by repeat (first|exact Drawn0.refl _|apply Drawn0.step)⟩
     ·rw [if_neg c6] at H;exact absurd H (by simp)
    ·rw [if_neg c5] at H;exact absurd H (by simp)
   ·rw [if_neg c4] at H;have c4b0 : decide (x11_1 < (l0.length : Int)) = false:=decide_eq_false c4;clear c4;obtain rfl:=Option.some.inj H;go_wp2
    go_ret
    exact ⟨by first|rfl|(simp;done)|(simp [*];done),by repeat (first|exact Drawn0.refl _|apply Drawn0.step)⟩
def Abi.f (k : Nat) (a0_0 : Int) (l0_1 : List Int) : Option (Bool) := (Abg.f a0_0 0 10).bind fun t110 => (if t110 = true then (if (l0_1.length : Int) = a0_0 then (if 0 ≤ a0_0 then ((Aba.f k l0_1 0 (wrap64 ((shl .i64 1 a0_0) - 1))).bind fun t111 => (some t111)) else (none)) else (some false)) else (some false))
set_option maxHeartbeats 8000000 in
set_option maxRecDepth 100000 in
theorem Abi.calls (k : Nat) (a0_0 : Int) (A0_1 : Option Addr) (c0_1 : Nat) (l0_1 : List Int) (r : Bool) (w : World) (hr0_1 : Kd.C (Kd.int .i64) w A0_1 l0_1.length l0_1) (hc0_1 : l0_1.length ≤ c0_1) (h : Abi.f k a0_0 l0_1 = some r) :
 Calls Tryd.prog 207 #[.agg #[.int .i64 a0_0,.slice A0_1 l0_1.length c0_1]] w fun e w'=>e = .returned (.bool r) ∧ Below w.heap.size w w':=by
 have hu28:=Tryd.underlying28;have HR0_1:=A_ hr0_1;have HC0_1:=A_ hc0_1;clear hr0_1 hc0_1;have HB:=A_ (Below.refl w.heap.size w);have H : ((Abg.f a0_0 0 10).bind fun Af=>(if Af = true then (if (l0_1.length : Int) = a0_0 then (if 0 ≤ a0_0 then ((Aba.f k l0_1 0 (wrap64 ((shl .i64 1 a0_0) - 1))).bind fun Ac=>(some Ac)) else (none)) else (some false)) else (some false))) = some r:=h;clear h;replace H:=Option.bind_eq_some_iff.mp H;obtain ⟨Af,A20,H⟩:=H;replace H : (if Af = true then (if (l0_1.length : Int) = a0_0 then (if 0 ≤ a0_0 then ((Aba.f k l0_1 0 (wrap64 ((shl .i64 1 a0_0) - 1))).bind fun Ac=>(some Ac)) else (none)) else (some false)) else (some false)) = some r:=H;have A2:=A_ A20;clear A20;by_cases c3 : Af = true
 ·subst c3;have H1 : (if (l0_1.length : Int) = a0_0 then (if 0 ≤ a0_0 then ((Aba.f k l0_1 0 (wrap64 ((shl .i64 1 a0_0) - 1))).bind fun Ac=>(some Ac)) else (none)) else (some false)) = some r:=by rw [if_pos rfl] at H;exact H
  clear H;have H:=H1;clear H1;by_cases c4 : (l0_1.length : Int) = a0_0
  ·rw [if_pos c4] at H;have c4b0 : ((l0_1.length : Int) == a0_0) = true:=beq_iff_eq.mpr c4;have c4b1 : ((l0_1.length : Int) != a0_0) = false:=bne_eq_false_iff_eq.mpr c4;clear c4;by_cases c5 : 0 ≤ a0_0
   ·rw [if_pos c5] at H;have c5b0:=eq_true c5;have c5b1 : decide (0 ≤ a0_0) = true:=decide_eq_true c5;clear c5;obtain ⟨ji6,hji6⟩ : ∃ j_ : Int,(shl .i64 1 a0_0) = j_:=⟨_,rfl⟩;replace H : ((Aba.f k l0_1 0 (wrap64 ((ji6) - 1))).bind fun Ac=>(some Ac)) = some r:=by first|(rw [hji6] at H;exact H)|(simp only [hji6] at H ⊢;exact H)
    (try rw [hji6] at A2);have hji6_ : (IntKind.i64.wrap (1 * 2 ^ min a0_0.toNat 64)) = ji6:=hji6;have hji6z : a0_0 ≤ 64 → (IntKind.i64.wrap (1 * 2 ^ a0_0.toNat)) = ji6:=shl_small hji6;have hji6u : (IntKind.i64.wrap (2 ^ min a0_0.toNat 64)) = ji6:=by have h_:=hji6_;rw [Int.one_mul] at h_;exact h_
    have hji6v : a0_0 ≤ 64 → (IntKind.i64.wrap (2 ^ a0_0.toNat)) = ji6:=fun hle_=>by have h_:=hji6z hle_;rw [Int.one_mul] at h_;exact h_
    have hji6y : (wrap64 (1 * 2 ^ min a0_0.toNat 64)) = ji6:=(i64_w _).symm.trans hji6_;have hji6x : a0_0 ≤ 64 → (wrap64 (1 * 2 ^ a0_0.toNat)) = ji6:=fun h_=>(i64_w _).symm.trans (hji6z h_)
    replace H:=Option.bind_eq_some_iff.mp H;obtain ⟨Ac,A70,H⟩:=H;replace H : (some Ac) = some r:=H;have A7:=A_ A70;clear A70;obtain rfl:=Option.some.inj H;go_enter Tryd.func207,Tryd.ntmps207
    go_wp2_with (first|((with_reducible refine gate_dst (N:=1) rfl ?_);(try (refine gate_guard (by rfl) ?_;dsimp only));refine box_event ?hg (N:=1) ?hd (cs:=#[.int .i64 a0_0,.slice A0_1 l0_1.length c0_1]) (t:=28) ?hr ?_;(case hd=>rfl);(case hg=>rfl);(case hr=>go_simp;try rfl);intro Ab hg w8 hbox hb;have Aa:=A_ (hbox);have Ad:=A_ (gw_ (w:=w) hg bb_);have Ae:=A_ (gw_ (w:=w) hg bb_);replace HB:=A_ (below_step bb_ hb);clear hb hbox hg;have hcz9_0 : w8.cell? ⟨Ab,0,none⟩ = some (.int .i64 a0_0):=blk_cell Aa.out 0;have hcz9_1 : w8.cell? ⟨Ab,1,none⟩ = some (.slice A0_1 l0_1.length c0_1):=blk_cell Aa.out 1;have hfz9_0:=blk_frozen Aa.out 0;have hfz9_1:=blk_frozen Aa.out 1)|(go_at_call 127;(with_reducible refine (Abg.calls a0_0 0 10 true _ A2.out).mono ?_);rintro e w' ⟨rfl,⟨nd,rfl⟩⟩;(try first|exact ⟨rfl,_,World.drewN_drewN _ _ _⟩|exact ⟨rfl,_,Eq.trans (World.drewN_drewN _ _ _) (congrArg (World.drewN _) (Nat.add_assoc _ _ _))⟩))|(go_at_call 214;(with_reducible refine (Aba.calls k _ _ l0_1 0 (wrap64 ((ji6) - 1)) Ac _ ?side1 ?side2 A7.out).mono ?_);(case side1=>exact cl_ (Kd.C_below HR0_1.out bb_));(case side2=>exact HC0_1.out);rintro e w' ⟨rfl,⟨nd,rfl⟩⟩;(try first|exact ⟨rfl,_,World.drewN_drewN _ _ _⟩|exact ⟨rfl,_,Eq.trans (World.drewN_drewN _ _ _) (congrArg (World.drewN _) (Nat.add_assoc _ _ _))⟩)))
    repeat (go_quiet (first|((with_reducible refine gate_dst (N:=1) rfl ?_);(try (refine gate_guard (by rfl) ?_;dsimp only));refine box_event ?hg (N:=1) ?hd (cs:=#[.int .i64 a0_0,.slice A0_1 l0_1.length c0_1]) (t:=28) ?hr ?_;(case hd=>rfl);(case hg=>rfl);(case hr=>go_simp;try rfl);intro Ab hg w8 hbox hb;have Aa:=A_ (hbox);have Ad:=A_ (gw_ (w:=w) hg bb_);have Ae:=A_ (gw_ (w:=w) hg bb_);replace HB:=A_ (below_step bb_ hb);clear hb hbox hg;have hcz9_0 : w8.cell? ⟨Ab,0,none⟩ = some (.int .i64 a0_0):=blk_cell Aa.out 0;have hcz9_1 : w8.cell? ⟨Ab,1,none⟩ = some (.slice A0_1 l0_1.length c0_1):=blk_cell Aa.out 1;have hfz9_0:=blk_frozen Aa.out 0;have hfz9_1:=blk_frozen Aa.out 1)|(go_at_call 127;(with_reducible refine (Abg.calls a0_0 0 10 true _ A2.out).mono ?_);rintro e w' ⟨rfl,⟨nd,rfl⟩⟩;(try first|exact ⟨rfl,_,World.drewN_drewN _ _ _⟩|exact ⟨rfl,_,Eq.trans (World.drewN_drewN _ _ _) (congrArg (World.drewN _) (Nat.add_assoc _ _ _))⟩))|(go_at_call 214;(with_reducible refine (Aba.calls k _ _ l0_1 0 (wrap64 ((ji6) - 1)) Ac _ ?side1 ?side2 A7.out).mono ?_);(case side1=>exact cl_ (Kd.C_below HR0_1.out bb_));(case side2=>exact HC0_1.out);rintro e w' ⟨rfl,⟨nd,rfl⟩⟩;(try first|exact ⟨rfl,_,World.drewN_drewN _ _ _⟩|exact ⟨rfl,_,Eq.trans (World.drewN_drewN _ _ _) (congrArg (World.drewN _) (Nat.add_assoc _ _ _))⟩)));try go_wp2_with (first|((with_reducible refine gate_dst (N:=1) rfl ?_);(try (refine gate_guard (by rfl) ?_;dsimp only));refine box_event ?hg (N:=1) ?hd (cs:=#[.int .i64 a0_0,.slice A0_1 l0_1.length c0_1]) (t:=28) ?hr ?_;(case hd=>rfl);(case hg=>rfl);(case hr=>go_simp;try rfl);intro Ab hg w8 hbox hb;have Aa:=A_ (hbox);have Ad:=A_ (gw_ (w:=w) hg bb_);have Ae:=A_ (gw_ (w:=w) hg bb_);replace HB:=A_ (below_step bb_ hb);clear hb hbox hg;have hcz9_0 : w8.cell? ⟨Ab,0,none⟩ = some (.int .i64 a0_0):=blk_cell Aa.out 0;have hcz9_1 : w8.cell? ⟨Ab,1,none⟩ = some (.slice A0_1 l0_1.length c0_1):=blk_cell Aa.out 1;have hfz9_0:=blk_frozen Aa.out 0;have hfz9_1:=blk_frozen Aa.out 1)|(go_at_call 127;(with_reducible refine (Abg.calls a0_0 0 10 true _ A2.out).mono ?_);rintro e w' ⟨rfl,⟨nd,rfl⟩⟩;(try first|exact ⟨rfl,_,World.drewN_drewN _ _ _⟩|exact ⟨rfl,_,Eq.trans (World.drewN_drewN _ _ _) (congrArg (World.drewN _) (Nat.add_assoc _ _ _))⟩))|(go_at_call 214;(with_reducible refine (Aba.calls k _ _ l0_1 0 (wrap64 ((ji6) - 1)) Ac _ ?side1 ?side2 A7.out).mono ?_);(case side1=>exact cl_ (Kd.C_below HR0_1.out bb_));(case side2=>exact HC0_1.out);rintro e w' ⟨rfl,⟨nd,rfl⟩⟩;(try first|exact ⟨rfl,_,World.drewN_drewN _ _ _⟩|exact ⟨rfl,_,Eq.trans (World.drewN_drewN _ _ _) (congrArg (World.drewN _) (Nat.add_assoc _ _ _))⟩))))
    go_ret
    exact ⟨by first|rfl|(simp [errW_none,errW_some] <;> rfl)|(simp only [← hji6];first|rfl|(simp [errW_none,errW_some] <;> rfl))|(simp [*,errW_none,errW_some] <;> rfl),bb_⟩
   ·rw [if_neg c5] at H;exact absurd H (by simp)
  ·rw [if_neg c4] at H;have c4b0 : ((l0_1.length : Int) == a0_0) = false:=beq_eq_false_iff_ne.mpr c4;have c4b1 : ((l0_1.length : Int) != a0_0) = true:=bne_iff_ne.mpr c4;obtain rfl:=Option.some.inj H;go_enter Tryd.func207,Tryd.ntmps207
   go_wp2_with (first|((with_reducible refine gate_dst (N:=1) rfl ?_);(try (refine gate_guard (by rfl) ?_;dsimp only));refine box_event ?hg (N:=1) ?hd (cs:=#[.int .i64 a0_0,.slice A0_1 l0_1.length c0_1]) (t:=28) ?hr ?_;(case hd=>rfl);(case hg=>rfl);(case hr=>go_simp;try rfl);intro Ab hg w10 hbox hb;have Aa:=A_ (hbox);have Ad:=A_ (gw_ (w:=w) hg bb_);have Ae:=A_ (gw_ (w:=w) hg bb_);replace HB:=A_ (below_step bb_ hb);clear hb hbox hg;have hcz11_0 : w10.cell? ⟨Ab,0,none⟩ = some (.int .i64 a0_0):=blk_cell Aa.out 0;have hcz11_1 : w10.cell? ⟨Ab,1,none⟩ = some (.slice A0_1 l0_1.length c0_1):=blk_cell Aa.out 1;have hfz11_0:=blk_frozen Aa.out 0;have hfz11_1:=blk_frozen Aa.out 1)|(go_at_call 127;(with_reducible refine (Abg.calls a0_0 0 10 true _ A2.out).mono ?_);rintro e w' ⟨rfl,⟨nd,rfl⟩⟩;(try first|exact ⟨rfl,_,World.drewN_drewN _ _ _⟩|exact ⟨rfl,_,Eq.trans (World.drewN_drewN _ _ _) (congrArg (World.drewN _) (Nat.add_assoc _ _ _))⟩)))
   repeat (go_quiet (first|((with_reducible refine gate_dst (N:=1) rfl ?_);(try (refine gate_guard (by rfl) ?_;dsimp only));refine box_event ?hg (N:=1) ?hd (cs:=#[.int .i64 a0_0,.slice A0_1 l0_1.length c0_1]) (t:=28) ?hr ?_;(case hd=>rfl);(case hg=>rfl);(case hr=>go_simp;try rfl);intro Ab hg w10 hbox hb;have Aa:=A_ (hbox);have Ad:=A_ (gw_ (w:=w) hg bb_);have Ae:=A_ (gw_ (w:=w) hg bb_);replace HB:=A_ (below_step bb_ hb);clear hb hbox hg;have hcz11_0 : w10.cell? ⟨Ab,0,none⟩ = some (.int .i64 a0_0):=blk_cell Aa.out 0;have hcz11_1 : w10.cell? ⟨Ab,1,none⟩ = some (.slice A0_1 l0_1.length c0_1):=blk_cell Aa.out 1;have hfz11_0:=blk_frozen Aa.out 0;have hfz11_1:=blk_frozen Aa.out 1)|(go_at_call 127;(with_reducible refine (Abg.calls a0_0 0 10 true _ A2.out).mono ?_);rintro e w' ⟨rfl,⟨nd,rfl⟩⟩;(try first|exact ⟨rfl,_,World.drewN_drewN _ _ _⟩|exact ⟨rfl,_,Eq.trans (World.drewN_drewN _ _ _) (congrArg (World.drewN _) (Nat.add_assoc _ _ _))⟩)));try go_wp2_with (first|((with_reducible refine gate_dst (N:=1) rfl ?_);(try (refine gate_guard (by rfl) ?_;dsimp only));refine box_event ?hg (N:=1) ?hd (cs:=#[.int .i64 a0_0,.slice A0_1 l0_1.length c0_1]) (t:=28) ?hr ?_;(case hd=>rfl);(case hg=>rfl);(case hr=>go_simp;try rfl);intro Ab hg w10 hbox hb;have Aa:=A_ (hbox);have Ad:=A_ (gw_ (w:=w) hg bb_);have Ae:=A_ (gw_ (w:=w) hg bb_);replace HB:=A_ (below_step bb_ hb);clear hb hbox hg;have hcz11_0 : w10.cell? ⟨Ab,0,none⟩ = some (.int .i64 a0_0):=blk_cell Aa.out 0;have hcz11_1 : w10.cell? ⟨Ab,1,none⟩ = some (.slice A0_1 l0_1.length c0_1):=blk_cell Aa.out 1;have hfz11_0:=blk_frozen Aa.out 0;have hfz11_1:=blk_frozen Aa.out 1)|(go_at_call 127;(with_reducible refine (Abg.calls a0_0 0 10 true _ A2.out).mono ?_);rintro e w' ⟨rfl,⟨nd,rfl⟩⟩;(try first|exact ⟨rfl,_,World.drewN_drewN _ _ _⟩|exact ⟨rfl,_,Eq.trans (World.drewN_drewN _ _ _) (congrArg (World.drewN _) (Nat.add_assoc _ _ _))⟩))))
   go_ret
   exact ⟨by first|rfl|(simp [errW_none,errW_some] <;> rfl)|(simp [*,errW_none,errW_some] <;> rfl),bb_⟩
 ·replace c3:=Bool.eq_false_iff.mpr c3;subst c3;have H1 : (some false) = some r:=by rw [if_neg (show ¬ (false = true) by decide)] at H;exact H
  clear H;have H:=H1;clear H1;obtain rfl:=Option.some.inj H;go_enter Tryd.func207,Tryd.ntmps207
  go_wp2_with (first|((with_reducible refine gate_dst (N:=1) rfl ?_);(try (refine gate_guard (by rfl) ?_;dsimp only));refine box_event ?hg (N:=1) ?hd (cs:=#[.int .i64 a0_0,.slice A0_1 l0_1.length c0_1]) (t:=28) ?hr ?_;(case hd=>rfl);(case hg=>rfl);(case hr=>go_simp;try rfl);intro Ab hg w12 hbox hb;have Aa:=A_ (hbox);have Ad:=A_ (gw_ (w:=w) hg bb_);have Ae:=A_ (gw_ (w:=w) hg bb_);replace HB:=A_ (below_step bb_ hb);clear hb hbox hg;have hcz13_0 : w12.cell? ⟨Ab,0,none⟩ = some (.int .i64 a0_0):=blk_cell Aa.out 0;have hcz13_1 : w12.cell? ⟨Ab,1,none⟩ = some (.slice A0_1 l0_1.length c0_1):=blk_cell Aa.out 1;have hfz13_0:=blk_frozen Aa.out 0;have hfz13_1:=blk_frozen Aa.out 1)|(go_at_call 127;(with_reducible refine (Abg.calls a0_0 0 10 false _ A2.out).mono ?_);rintro e w' ⟨rfl,⟨nd,rfl⟩⟩;(try first|exact ⟨rfl,_,World.drewN_drewN _ _ _⟩|exact ⟨rfl,_,Eq.trans (World.drewN_drewN _ _ _) (congrArg (World.drewN _) (Nat.add_assoc _ _ _))⟩)))
  repeat (go_quiet (first|((with_reducible refine gate_dst (N:=1) rfl ?_);(try (refine gate_guard (by rfl) ?_;dsimp only));refine box_event ?hg (N:=1) ?hd (cs:=#[.int .i64 a0_0,.slice A0_1 l0_1.length c0_1]) (t:=28) ?hr ?_;(case hd=>rfl);(case hg=>rfl);(case hr=>go_simp;try rfl);intro Ab hg w12 hbox hb;have Aa:=A_ (hbox);have Ad:=A_ (gw_ (w:=w) hg bb_);have Ae:=A_ (gw_ (w:=w) hg bb_);replace HB:=A_ (below_step bb_ hb);clear hb hbox hg;have hcz13_0 : w12.cell? ⟨Ab,0,none⟩ = some (.int .i64 a0_0):=blk_cell Aa.out 0;have hcz13_1 : w12.cell? ⟨Ab,1,none⟩ = some (.slice A0_1 l0_1.length c0_1):=blk_cell Aa.out 1;have hfz13_0:=blk_frozen Aa.out 0;have hfz13_1:=blk_frozen Aa.out 1)|(go_at_call 127;(with_reducible refine (Abg.calls a0_0 0 10 false _ A2.out).mono ?_);rintro e w' ⟨rfl,⟨nd,rfl⟩⟩;(try first|exact ⟨rfl,_,World.drewN_drewN _ _ _⟩|exact ⟨rfl,_,Eq.trans (World.drewN_drewN _ _ _) (congrArg (World.drewN _) (Nat.add_assoc _ _ _))⟩)));try go_wp2_with (first|((with_reducible refine gate_dst (N:=1) rfl ?_);(try (refine gate_guard (by rfl) ?_;dsimp only));refine box_event ?hg (N:=1) ?hd (cs:=#[.int .i64 a0_0,.slice A0_1 l0_1.length c0_1]) (t:=28) ?hr ?_;(case hd=>rfl);(case hg=>rfl);(case hr=>go_simp;try rfl);intro Ab hg w12 hbox hb;have Aa:=A_ (hbox);have Ad:=A_ (gw_ (w:=w) hg bb_);have Ae:=A_ (gw_ (w:=w) hg bb_);replace HB:=A_ (below_step bb_ hb);clear hb hbox hg;have hcz13_0 : w12.cell? ⟨Ab,0,none⟩ = some (.int .i64 a0_0):=blk_cell Aa.out 0;have hcz13_1 : w12.cell? ⟨Ab,1,none⟩ = some (.slice A0_1 l0_1.length c0_1):=blk_cell Aa.out 1;have hfz13_0:=blk_frozen Aa.out 0;have hfz13_1:=blk_frozen Aa.out 1)|(go_at_call 127;(with_reducible refine (Abg.calls a0_0 0 10 false _ A2.out).mono ?_);rintro e w' ⟨rfl,⟨nd,rfl⟩⟩;(try first|exact ⟨rfl,_,World.drewN_drewN _ _ _⟩|exact ⟨rfl,_,Eq.trans (World.drewN_drewN _ _ _) (congrArg (World.drewN _) (Nat.add_assoc _ _ _))⟩))))
  go_ret
  exact ⟨by first|rfl|(simp [errW_none,errW_some] <;> rfl)|(simp [*,errW_none,errW_some] <;> rfl),bb_⟩
mutual
def Aaw.l0 : Nat → List Int → Int → Int → Int → List Int → Option (Bool)
 | 0,_,_,_,_,_=>none
 | k + 1,x11,x12,x13,x113000,x113001=>if x13 < x12 then (if 0 ≤ x13 then (if x13 < (x11.length : Int) then ((Aap.f (rd x11 x13) x13).bind fun t115=>(if t115 = true then (some false) else ((Aa3.f k (rd x11 x13)).bind fun t116=>(Aaw.l1 k (rd x11 x13) x11 x12 x13 t116 (t116.length : Int) 0 x113000 x113001)))) else (none)) else (none)) else (some true)
def Aaw.l1 : Nat → Int → List Int → Int → Int → List Int → Int → Int → Int → List Int → Option (Bool)
 | 0,_,_,_,_,_,_,_,_,_=>none
 | k + 1,x4,x11,x12,x13,x22,x23,x24,x113000,x113001=>if x24 < x23 then (if 0 ≤ x24 then (if x24 < (x22.length : Int) then (if 0 ≤ (rd x22 x24) then (if (rd x22 x24) < (x113001.length : Int) then (if (Go.bits .andNot .i64 (rd x113001 (rd x22 x24)) x4) = 0 then (Aaw.l1 k x4 x11 x12 x13 x22 x23 (wrap64 (x24 + 1)) x113000 x113001) else (some false)) else (none)) else (none)) else (none)) else (none)) else (Aaw.l0 k x11 x12 (wrap64 (x13 + 1)) x113000 x113001)
end
def Aaw.f (k : Nat) (a0_0 : Int) (l0_1 : List Int) : Option (Bool) := (Abi.f k a0_0 l0_1).bind fun t113 => (if t113 = true then (Aaw.l0 k l0_1 (l0_1.length : Int) 0 a0_0 l0_1) else (some false))
set_option maxHeartbeats 8000000 in
set_option maxRecDepth 100000 in
theorem Aaw.calls (k : Nat) (a0_0 : Int) (A0_1 : Option Addr) (c0_1 : Nat) (l0_1 : List Int) (r : Bool) (w : World) (hr0_1 : Kd.C (Kd.int .i64) w A0_1 l0_1.length l0_1) (hc0_1 : l0_1.length ≤ c0_1) (h : Aaw.f k a0_0 l0_1 = some r) :
 Calls Tryd.prog 142 #[.agg #[.int .i64 a0_0,.slice A0_1 l0_1.length c0_1]] w fun e w'=>e = .returned (.bool r) ∧ Below w.heap.size w w':=by
 have hu28:=Tryd.underlying28;have HR0_1:=A_ hr0_1;have HC0_1:=A_ hc0_1;clear hr0_1 hc0_1;have HB:=A_ (Below.refl w.heap.size w);have H : ((Abi.f k a0_0 l0_1).bind fun Am=>(if Am = true then (Aaw.l0 k l0_1 (l0_1.length : Int) 0 a0_0 l0_1) else (some false))) = some r:=h;clear h;replace H:=Option.bind_eq_some_iff.mp H;obtain ⟨Am,A20,H⟩:=H;replace H : (if Am = true then (Aaw.l0 k l0_1 (l0_1.length : Int) 0 a0_0 l0_1) else (some false)) = some r:=H;have A2:=A_ A20;clear A20;by_cases c3 : Am = true
 ·subst c3;have H1 : (Aaw.l0 k l0_1 (l0_1.length : Int) 0 a0_0 l0_1) = some r:=by rw [if_pos rfl] at H;exact H
  clear H;have H:=H1;clear H1;have H':=A_ H;clear H;go_enter Tryd.func142,Tryd.ntmps142
  go_wp2_with (first|((with_reducible refine gate_dst (N:=1) rfl ?_);refine box_event ?hg (N:=1) ?hd (cs:=#[.int .i64 a0_0,.slice A0_1 l0_1.length c0_1]) (t:=28) ?hr ?_;(case hd=>rfl);(case hg=>rfl);(case hr=>go_simp;try rfl);intro Ac hg w4 hbox hb;have Aa:=A_ (hbox);have Aw:=A_ (gw_ (w:=w) hg bb_);have Ax:=A_ (gw_ (w:=w) hg bb_);replace HB:=A_ (below_step bb_ hb);clear hb hbox hg;have hcz5_0 : w4.cell? ⟨Ac,0,none⟩ = some (.int .i64 a0_0):=blk_cell Aa.out 0;have hcz5_1 : w4.cell? ⟨Ac,1,none⟩ = some (.slice A0_1 l0_1.length c0_1):=blk_cell Aa.out 1;have hfz5_0:=blk_frozen Aa.out 0;have hfz5_1:=blk_frozen Aa.out 1)|((with_reducible refine gate_callee (f:=207) rfl ?_);refine goesL_ (some 8) rfl rfl Tryd.func207 (by kernel_rfl) rfl #[.agg #[.int .i64 a0_0,.slice A0_1 l0_1.length c0_1]] rfl au_ ?_;(with_reducible refine (Abi.calls k a0_0 _ _ l0_1 true _ ?side1 ?side2 A2.out).mono ?_);(case side1=>exact cl_ (Kd.C_below HR0_1.out HB.out));(case side2=>exact HC0_1.out);rintro e w6 ⟨rfl,hb⟩;refine ⟨_,rfl,?_⟩;replace Aa:=bz Aa hb;replace HB:=A_ (below_step bb_ hb);(try clear hb);(try clear hb2);(try clear hk);(try clear hi);have hcz7_0 : w6.cell? ⟨Ac,0,none⟩ = some (.int .i64 a0_0):=blk_cell Aa.out 0;have hcz7_1 : w6.cell? ⟨Ac,1,none⟩ = some (.slice A0_1 l0_1.length c0_1):=blk_cell Aa.out 1;have hfz7_0:=blk_frozen Aa.out 0;have hfz7_1:=blk_frozen Aa.out 1))
  go_loopg [13] k (fun kq v13 w'=>∃ (x13_1 : Int),v13 = .int .i64 x13_1 ∧ Aside0 (Aaw.l0 kq l0_1 (l0_1.length : Int) x13_1 a0_0 l0_1 = some r) ∧ Aside0 (kq ≤ k) ∧ Aside0 (w'.heap[Ac]? = some (.cells #[.int .i64 a0_0,(.slice A0_1 l0_1.length c0_1)] 28 (0,0))) ∧ Aside0 (Below w.heap.size w w'))
  case atStart=>exact ⟨(0),(by first|rfl|(simp;done)|(simp [*];done)),H',⟨Nat.le_refl _⟩,⟨bl_ Aa⟩,⟨bb_⟩⟩
  case round =>
   clear H';try clear c1
   try clear c2
   try clear p2
   try clear c3
   try clear hcz5_0
   try clear hcz5_1
   try clear hcz7_0
   try clear hcz7_1
   try clear hfz5_0
   try clear hfz5_1
   try clear hfz7_0
   try clear hfz7_1
   obtain ⟨x13_1,rfl,HA,HK1,Aa,HB⟩:=hrel;cases gk with
   | zero=>exact absurd HA.out (by simp [Aaw.l0])
   | succ k1 =>
    have H:=HA.out;clear HA;simp only [Aaw.l0] at H
    by_cases c8 : x13_1 < (l0_1.length : Int)
    ·rw [if_pos c8] at H;have c8b0 : decide (x13_1 < (l0_1.length : Int)) = true:=decide_eq_true c8;clear c8;by_cases c9 : 0 ≤ x13_1
     ·rw [if_pos c9] at H;have c9b0 : decide (0 ≤ x13_1) = true:=decide_eq_true c9;clear c9;by_cases c10 : x13_1 < (l0_1.length : Int)
      ·rw [if_pos c10] at H;have c10b0 : decide (x13_1 < (l0_1.length : Int)) = true:=decide_eq_true c10;clear c10;replace H:=Option.bind_eq_some_iff.mp H;obtain ⟨At,Au,H⟩:=H;replace H : (if At = true then (some false) else ((Aa3.f k1 (rd l0_1 x13_1)).bind fun Ab=>(Aaw.l1 k1 (rd l0_1 x13_1) l0_1 (l0_1.length : Int) x13_1 Ab (Ab.length : Int) 0 a0_0 l0_1))) = some r:=H;have A11:=A_ Au;clear Au;by_cases c12 : At = true
       ·subst c12;have H1 : (some false) = some r:=by rw [if_pos rfl] at H;exact H
        clear H;have H:=H1;clear H1;obtain rfl:=Option.some.inj H;have Af : 0 ≤ (x13_1 : Int):=of_decide_eq_true (by first|(with_reducible assumption)|assumption);have Ag : x13_1 < (l0_1.length : Int):=of_decide_eq_true (by first|(with_reducible assumption)|assumption);obtain ⟨Ah,Ao,Ad⟩:=Kd.at_int HR0_1.out x13_1 Af Ag;cases Ao
        (try replace Ad:=(HB.out.cell (World.block_lt_of_cell? w _ Ad)).trans Ad);replace Af:=eq_true Af;replace Ag:=eq_true Ag;go_wp2_with (first|((with_reducible refine gate_callee (f:=192) rfl ?_);refine goesL_ (some 20) rfl rfl Tryd.func192 (by kernel_rfl) rfl #[.int .i64 (rd l0_1 x13_1),.int .i64 x13_1] rfl au_ ?_;(with_reducible refine (Aap.calls (rd l0_1 x13_1) x13_1 true _ A11.out).mono ?_);rintro e w' ⟨rfl,⟨nd,rfl⟩⟩;refine ⟨_,rfl,?_⟩))
        go_ret
        exact ⟨by first|rfl|(simp [errW_none,errW_some] <;> rfl)|(simp [*,errW_none,errW_some] <;> rfl),bb_⟩
       ·replace c12:=Bool.eq_false_iff.mpr c12;subst c12;have H1 : ((Aa3.f k1 (rd l0_1 x13_1)).bind fun Ab=>(Aaw.l1 k1 (rd l0_1 x13_1) l0_1 (l0_1.length : Int) x13_1 Ab (Ab.length : Int) 0 a0_0 l0_1)) = some r:=by rw [if_neg (show ¬ (false = true) by decide)] at H;exact H
        clear H;have H:=H1;clear H1;replace H:=Option.bind_eq_some_iff.mp H;obtain ⟨Ab,Av,H⟩:=H;replace H : (Aaw.l1 k1 (rd l0_1 x13_1) l0_1 (l0_1.length : Int) x13_1 Ab (Ab.length : Int) 0 a0_0 l0_1) = some r:=H;have A13:=A_ Av;clear Av;have H':=A_ H;clear H;have Af : 0 ≤ (x13_1 : Int):=of_decide_eq_true (by first|(with_reducible assumption)|assumption);have Ag : x13_1 < (l0_1.length : Int):=of_decide_eq_true (by first|(with_reducible assumption)|assumption);obtain ⟨Ah,Ao,Ad⟩:=Kd.at_int HR0_1.out x13_1 Af Ag;cases Ao
        (try replace Ad:=(HB.out.cell (World.block_lt_of_cell? w _ Ad)).trans Ad);replace Af:=eq_true Af;replace Ag:=eq_true Ag;go_wp2_with (first|((with_reducible refine gate_callee (f:=192) rfl ?_);refine goesL_ (some 20) rfl rfl Tryd.func192 (by kernel_rfl) rfl #[.int .i64 (rd l0_1 x13_1),.int .i64 x13_1] rfl au_ ?_;(with_reducible refine (Aap.calls (rd l0_1 x13_1) x13_1 false _ A11.out).mono ?_);rintro e w' ⟨rfl,⟨nd,rfl⟩⟩;refine ⟨_,rfl,?_⟩)|((with_reducible refine gate_callee (f:=191) rfl ?_);refine goesL_ (some 22) rfl rfl Tryd.func191 (by kernel_rfl) rfl #[.int .i64 (rd l0_1 x13_1)] rfl au_ ?_;(with_reducible refine (Aa3.calls k1 (rd l0_1 x13_1) Ab _ A13.out).mono ?_);rintro e w14 ⟨Az,rfl,ho0,hb⟩;refine ⟨_,rfl,?_⟩;have Ar:=A_ (Kd.R_lower ho0 (below_size bb_));replace Aa:=bz Aa hb;replace HB:=A_ (below_step bb_ hb);(try clear hb);(try clear hb2);(try clear hk);(try clear hi);(try clear ho0);obtain ⟨Ao15,co15,eo15⟩:=Kd.R_slice Ar.out;subst eo15))
        go_loopg [24] k1 (fun kq v24 w'=>∃ (x24_2 : Int),v24 = .int .i64 x24_2 ∧ Aside0 (Aaw.l1 kq (rd l0_1 x13_1) l0_1 (l0_1.length : Int) x13_1 Ab (Ab.length : Int) x24_2 a0_0 l0_1 = some r) ∧ Aside0 (kq ≤ k1) ∧ Aside0 (Kd.R (Kd.int .i64) 3 w' w.heap.size (fun _=>True) (.slice Ao15 Ab.length co15) Ab) ∧ Aside0 (w'.heap[Ac]? = some (.cells #[.int .i64 a0_0,(.slice (some Ah) l0_1.length c0_1)] 28 (0,0))) ∧ Aside0 (Below w.heap.size w w'))
        case atStart=>exact ⟨(0),(by first|rfl|(simp;done)|(simp [*];done)),H',⟨Nat.le_refl _⟩,⟨rl_ Ar⟩,⟨bl_ Aa⟩,⟨bb_⟩⟩
        case round =>
         clear H';try clear c1
         try clear p1
         try clear q1
         try clear hx1
         try clear c2
         try clear p2
         try clear c3
         try clear c8
         try clear c8b0
         try clear c9
         try clear c9b0
         try clear c10
         try clear c10b0
         try clear p11
         try clear q11
         try clear hx11
         try clear c12
         try clear c14
         try clear hcz5_0
         try clear hcz5_1
         try clear hcz7_0
         try clear hcz7_1
         try clear hfz5_0
         try clear hfz5_1
         try clear hfz7_0
         try clear hfz7_1
         try clear Ad
         try clear Af
         try clear p2
         try clear Ag
         obtain ⟨x24_2,rfl,HA,HK2,HO_22,Aa,HB⟩:=hrel;cases gk with
         | zero=>exact absurd HA.out (by simp [Aaw.l1])
         | succ k2 =>
          have H:=HA.out;clear HA;simp only [Aaw.l1] at H
          by_cases c16 : x24_2 < (Ab.length : Int)
          ·rw [if_pos c16] at H;have c16b0 : decide (x24_2 < (Ab.length : Int)) = true:=decide_eq_true c16;clear c16;by_cases c17 : 0 ≤ x24_2
           ·rw [if_pos c17] at H;have c17b0 : decide (0 ≤ x24_2) = true:=decide_eq_true c17;clear c17;by_cases c18 : x24_2 < (Ab.length : Int)
            ·rw [if_pos c18] at H;have c18b0 : decide (x24_2 < (Ab.length : Int)) = true:=decide_eq_true c18;clear c18;by_cases c19 : 0 ≤ (rd Ab x24_2)
             ·rw [if_pos c19] at H;have c19b0 : decide (0 ≤ (rd Ab x24_2)) = true:=decide_eq_true c19;clear c19;by_cases c20 : (rd Ab x24_2) < (l0_1.length : Int)
              ·rw [if_pos c20] at H;have c20b0 : decide ((rd Ab x24_2) < (l0_1.length : Int)) = true:=decide_eq_true c20;clear c20;by_cases c21 : (Go.bits .andNot .i64 (rd l0_1 (rd Ab x24_2)) (rd l0_1 x13_1)) = 0
               ·rw [if_pos c21] at H;have c21b0 : ((Go.bits .andNot .i64 (rd l0_1 (rd Ab x24_2)) (rd l0_1 x13_1)) == 0) = true:=beq_iff_eq.mpr c21;have c21b1 : ((Go.bits .andNot .i64 (rd l0_1 (rd Ab x24_2)) (rd l0_1 x13_1)) != 0) = false:=bne_eq_false_iff_eq.mpr c21;clear c21;have H':=A_ H;clear H;have Ai : 0 ≤ (x24_2 : Int):=of_decide_eq_true (by first|(with_reducible assumption)|assumption);have Aj : x24_2 < (Ab.length : Int):=of_decide_eq_true (by first|(with_reducible assumption)|assumption);obtain ⟨Ay,Ap,As⟩:=Kd.at_int (Kd.R_reads' HO_22.out).2.2 x24_2 Ai Aj;cases Ap
                replace Ai:=eq_true Ai;replace Aj:=eq_true Aj;have hcz22_0 : wr.cell? ⟨Ac,0,none⟩ = some (.int .i64 a0_0):=blk_cell Aa.out 0;have hcz22_1 : wr.cell? ⟨Ac,1,none⟩ = some (.slice (some Ah) l0_1.length c0_1):=blk_cell Aa.out 1;have hfz22_0:=blk_frozen Aa.out 0;have hfz22_1:=blk_frozen Aa.out 1;have Ak : 0 ≤ ((rd Ab x24_2) : Int):=of_decide_eq_true (by first|(with_reducible assumption)|assumption);have Al : (rd Ab x24_2) < (l0_1.length : Int):=of_decide_eq_true (by first|(with_reducible assumption)|assumption);obtain ⟨An,Aq,Ae⟩:=Kd.at_int HR0_1.out (rd Ab x24_2) Ak Al;obtain rfl : Ah = An:=(by injection Aq);(try replace Ae:=(HB.out.cell (World.block_lt_of_cell? w _ Ae)).trans Ae);replace Ak:=eq_true Ak;replace Al:=eq_true Al;go_wp2
                go_roundg k2
                case measure=>have:=HK1.out;have:=HK2.out;omega
                case rel=>exact ⟨(wrap64 (x24_2 + 1)),(by first|rfl|(simp;done)|(simp [*];done)),H',⟨by have:=HK1.out;have:=HK2.out;omega⟩,⟨rl_ HO_22⟩,⟨bl_ Aa⟩,⟨bb_⟩⟩
               ·rw [if_neg c21] at H;have c21b0 : ((Go.bits .andNot .i64 (rd l0_1 (rd Ab x24_2)) (rd l0_1 x13_1)) == 0) = false:=beq_eq_false_iff_ne.mpr c21;have c21b1 : ((Go.bits .andNot .i64 (rd l0_1 (rd Ab x24_2)) (rd l0_1 x13_1)) != 0) = true:=bne_iff_ne.mpr c21;obtain rfl:=Option.some.inj H;have Ai : 0 ≤ (x24_2 : Int):=of_decide_eq_true (by first|(with_reducible assumption)|assumption);have Aj : x24_2 < (Ab.length : Int):=of_decide_eq_true (by first|(with_reducible assumption)|assumption);obtain ⟨Ay,Ap,As⟩:=Kd.at_int (Kd.R_reads' HO_22.out).2.2 x24_2 Ai Aj;cases Ap
                replace Ai:=eq_true Ai;replace Aj:=eq_true Aj;have hcz23_0 : wr.cell? ⟨Ac,0,none⟩ = some (.int .i64 a0_0):=blk_cell Aa.out 0;have hcz23_1 : wr.cell? ⟨Ac,1,none⟩ = some (.slice (some Ah) l0_1.length c0_1):=blk_cell Aa.out 1;have hfz23_0:=blk_frozen Aa.out 0;have hfz23_1:=blk_frozen Aa.out 1;have Ak : 0 ≤ ((rd Ab x24_2) : Int):=of_decide_eq_true (by first|(with_reducible assumption)|assumption);have Al : (rd Ab x24_2) < (l0_1.length : Int):=of_decide_eq_true (by first|(with_reducible assumption)|assumption);obtain ⟨An,Aq,Ae⟩:=Kd.at_int HR0_1.out (rd Ab x24_2) Ak Al;obtain rfl : Ah = An:=(by injection Aq);(try replace Ae:=(HB.out.cell (World.block_lt_of_cell? w _ Ae)).trans Ae);replace Ak:=eq_true Ak;replace Al:=eq_true Al;go_wp2
                go_ret
                exact ⟨by first|rfl|(simp [errW_none,errW_some] <;> rfl)|(simp [*,errW_none,errW_some] <;> rfl),bb_⟩
              ·rw [if_neg c20] at H;exact absurd H (by simp)
             ·rw [if_neg c19] at H;exact absurd H (by simp)
            ·rw [if_neg c18] at H;exact absurd H (by simp)
           ·rw [if_neg c17] at H;exact absurd H (by simp)
          ·rw [if_neg c16] at H;have c16b0 : decide (x24_2 < (Ab.length : Int)) = false:=decide_eq_false c16;clear c16;have H':=A_ H;clear H;go_wp2
           go_roundg k2
           case measure=>have:=HK1.out;have:=HK2.out;omega
           case rel=>exact ⟨(wrap64 (x13_1 + 1)),(by first|rfl|(simp;done)|(simp [*];done)),H',⟨by have:=HK1.out;have:=HK2.out;omega⟩,⟨bl_ Aa⟩,⟨bb_⟩⟩
      ·rw [if_neg c10] at H;exact absurd H (by simp)
     ·rw [if_neg c9] at H;exact absurd H (by simp)
    ·rw [if_neg c8] at H;have c8b0 : decide (x13_1 < (l0_1.length : Int)) = false:=decide_eq_false c8;clear c8;obtain rfl:=Option.some.inj H;go_wp2
     go_ret
     exact ⟨by first|rfl|(simp [errW_none,errW_some] <;> rfl)|(simp [*,errW_none,errW_some] <;> rfl),bb_⟩
 ·replace c3:=Bool.eq_false_iff.mpr c3;subst c3;have H1 : (some false) = some r:=by rw [if_neg (show ¬ (false = true) by decide)] at H;exact H
  clear H;have H:=H1;clear H1;obtain rfl:=Option.some.inj H;go_enter Tryd.func142,Tryd.ntmps142
  go_wp2_with (first|((with_reducible refine gate_dst (N:=1) rfl ?_);refine box_event ?hg (N:=1) ?hd (cs:=#[.int .i64 a0_0,.slice A0_1 l0_1.length c0_1]) (t:=28) ?hr ?_;(case hd=>rfl);(case hg=>rfl);(case hr=>go_simp;try rfl);intro Ac hg w24 hbox hb;have Aa:=A_ (hbox);have Aw:=A_ (gw_ (w:=w) hg bb_);have Ax:=A_ (gw_ (w:=w) hg bb_);replace HB:=A_ (below_step bb_ hb);clear hb hbox hg;have hcz25_0 : w24.cell? ⟨Ac,0,none⟩ = some (.int .i64 a0_0):=blk_cell Aa.out 0;have hcz25_1 : w24.cell? ⟨Ac,1,none⟩ = some (.slice A0_1 l0_1.length c0_1):=blk_cell Aa.out 1;have hfz25_0:=blk_frozen Aa.out 0;have hfz25_1:=blk_frozen Aa.out 1)|((with_reducible refine gate_callee (f:=207) rfl ?_);refine goesL_ (some 8) rfl rfl Tryd.func207 (by kernel_rfl) rfl #[.agg #[.int .i64 a0_0,.slice A0_1 l0_1.length c0_1]] rfl au_ ?_;(with_reducible refine (Abi.calls k a0_0 _ _ l0_1 false _ ?side1 ?side2 A2.out).mono ?_);(case side1=>exact cl_ (Kd.C_below HR0_1.out HB.out));(case side2=>exact HC0_1.out);rintro e w26 ⟨rfl,hb⟩;refine ⟨_,rfl,?_⟩;replace Aa:=bz Aa hb;replace HB:=A_ (below_step bb_ hb);(try clear hb);(try clear hb2);(try clear hk);(try clear hi)))
  go_ret
  exact ⟨by first|rfl|(simp [errW_none,errW_some] <;> rfl)|(simp [*,errW_none,errW_some] <;> rfl),bb_⟩
def Abz.f (a0_0 : Int) (l0_1 : List Int) (a1 : Int) (a2 : Int) (a3 : Int) (a4 : Int) : Option (Bool) := if 0 ≤ a1 then (if a1 < (l0_1.length : Int) then ((Aap.f (rd l0_1 a1) a2).bind fun t1237 => (if t1237 = true then (if 0 ≤ a3 then (if a3 < (l0_1.length : Int) then ((Aap.f (rd l0_1 a3) a4).bind fun t1239 => (if t1239 = true then ((Aap.f (rd l0_1 a3) a2).bind fun t1241 => (if t1241 = true then (some false) else ((Aap.f (rd l0_1 a1) a4).bind fun t1243 => (some (!t1243))))) else (some false))) else (none)) else (none)) else (some false))) else (none)) else (none)
set_option maxHeartbeats 8000000 in
set_option maxRecDepth 100000 in
theorem Abz.calls (a0_0 : Int) (A0_1 : Option Addr) (c0_1 : Nat) (l0_1 : List Int) (a1 : Int) (a2 : Int) (a3 : Int) (a4 : Int) (r : Bool) (w : World) (hr0_1 : Kd.C (Kd.int .i64) w A0_1 l0_1.length l0_1) (hc0_1 : l0_1.length ≤ c0_1) (h : Abz.f a0_0 l0_1 a1 a2 a3 a4 = some r) :
 Calls Tryd.prog 208 #[.agg #[.int .i64 a0_0,.slice A0_1 l0_1.length c0_1],.int .i64 a1,.int .i64 a2,.int .i64 a3,.int .i64 a4] w fun e w'=>e = .returned (.bool r) ∧ Below w.heap.size w w':=by
 have hu28:=Tryd.underlying28;have HR0_1:=A_ hr0_1;have HC0_1:=A_ hc0_1;clear hr0_1 hc0_1;have HB:=A_ (Below.refl w.heap.size w);have H : (if 0 ≤ a1 then (if a1 < (l0_1.length : Int) then ((Aap.f (rd l0_1 a1) a2).bind fun At=>(if At = true then (if 0 ≤ a3 then (if a3 < (l0_1.length : Int) then ((Aap.f (rd l0_1 a3) a4).bind fun Am=>(if Am = true then ((Aap.f (rd l0_1 a3) a2).bind fun Ah=>(if Ah = true then (some false) else ((Aap.f (rd l0_1 a1) a4).bind fun Ad=>(some (!Ad))))) else (some false))) else (none)) else (none)) else (some false))) else (none)) else (none)) = some r:=h;clear h;by_cases c6 : 0 ≤ a1
 ·rw [if_pos c6] at H;have c6b0 : decide (0 ≤ a1) = true:=decide_eq_true c6;clear c6;by_cases c7 : a1 < (l0_1.length : Int)
  ·rw [if_pos c7] at H;have c7b0 : decide (a1 < (l0_1.length : Int)) = true:=decide_eq_true c7;clear c7;replace H:=Option.bind_eq_some_iff.mp H;obtain ⟨At,A80,H⟩:=H;replace H : (if At = true then (if 0 ≤ a3 then (if a3 < (l0_1.length : Int) then ((Aap.f (rd l0_1 a3) a4).bind fun Am=>(if Am = true then ((Aap.f (rd l0_1 a3) a2).bind fun Ah=>(if Ah = true then (some false) else ((Aap.f (rd l0_1 a1) a4).bind fun Ad=>(some (!Ad))))) else (some false))) else (none)) else (none)) else (some false)) = some r:=H;have A8:=A_ A80;clear A80;by_cases c9 : At = true
   ·subst c9;have H1 : (if 0 ≤ a3 then (if a3 < (l0_1.length : Int) then ((Aap.f (rd l0_1 a3) a4).bind fun Am=>(if Am = true then ((Aap.f (rd l0_1 a3) a2).bind fun Ah=>(if Ah = true then (some false) else ((Aap.f (rd l0_1 a1) a4).bind fun Ad=>(some (!Ad))))) else (some false))) else (none)) else (none)) = some r:=by rw [if_pos rfl] at H;exact H
    clear H;have H:=H1;clear H1;by_cases c10 : 0 ≤ a3
    ·rw [if_pos c10] at H;have c10b0 : decide (0 ≤ a3) = true:=decide_eq_true c10;clear c10;by_cases c11 : a3 < (l0_1.length : Int)
     ·rw [if_pos c11] at H;have c11b0 : decide (a3 < (l0_1.length : Int)) = true:=decide_eq_true c11;clear c11;replace H:=Option.bind_eq_some_iff.mp H;obtain ⟨Am,Ba,H⟩:=H;replace H : (if Am = true then ((Aap.f (rd l0_1 a3) a2).bind fun Ah=>(if Ah = true then (some false) else ((Aap.f (rd l0_1 a1) a4).bind fun Ad=>(some (!Ad))))) else (some false)) = some r:=H;have A12:=A_ Ba;clear Ba;by_cases c13 : Am = true
      ·subst c13;have H1 : ((Aap.f (rd l0_1 a3) a2).bind fun Ah=>(if Ah = true then (some false) else ((Aap.f (rd l0_1 a1) a4).bind fun Ad=>(some (!Ad))))) = some r:=by rw [if_pos rfl] at H;exact H
       clear H;have H:=H1;clear H1;replace H:=Option.bind_eq_some_iff.mp H;obtain ⟨Ah,Bb,H⟩:=H;replace H : (if Ah = true then (some false) else ((Aap.f (rd l0_1 a1) a4).bind fun Ad=>(some (!Ad)))) = some r:=H;have A14:=A_ Bb;clear Bb;by_cases c15 : Ah = true
       ·subst c15;have H1 : (some false) = some r:=by rw [if_pos rfl] at H;exact H
        clear H;have H:=H1;clear H1;obtain rfl:=Option.some.inj H;go_enter Tryd.func208,Tryd.ntmps208
        go_wp2_with (first|((with_reducible refine gate_dst (N:=5) rfl ?_);refine box_event ?hg (N:=5) ?hd (cs:=#[.int .i64 a0_0,.slice A0_1 l0_1.length c0_1]) (t:=28) ?hr ?_;(case hd=>rfl);(case hg=>rfl);(case hr=>go_simp;try rfl);intro Ag hg w16 hbox hb;have Ab:=A_ (hbox);have Au:=A_ (gw_ (w:=w) hg bb_);have Av:=A_ (gw_ (w:=w) hg bb_);replace HB:=A_ (below_step bb_ hb);clear hb hbox hg;have hcz17_0 : w16.cell? ⟨Ag,0,none⟩ = some (.int .i64 a0_0):=blk_cell Ab.out 0;have hcz17_1 : w16.cell? ⟨Ag,1,none⟩ = some (.slice A0_1 l0_1.length c0_1):=blk_cell Ab.out 1;have hfz17_0:=blk_frozen Ab.out 0;have hfz17_1:=blk_frozen Ab.out 1;have Ae : 0 ≤ (a1 : Int):=of_decide_eq_true (by first|(with_reducible assumption)|assumption);have Af : a1 < (l0_1.length : Int):=of_decide_eq_true (by first|(with_reducible assumption)|assumption);obtain ⟨Aj,An,Aa⟩:=Kd.at_int HR0_1.out a1 Ae Af;cases An;(try replace Aa:=(HB.out.cell (World.block_lt_of_cell? w _ Aa)).trans Aa);replace Ae:=eq_true Ae;replace Af:=eq_true Af)|((with_reducible refine gate_callee (f:=192) rfl ?_);refine goesL_ (some 17) rfl rfl Tryd.func192 (by kernel_rfl) rfl #[.int .i64 (rd l0_1 a1),.int .i64 a2] rfl au_ ?_;(with_reducible refine (Aap.calls (rd l0_1 a1) a2 true _ A8.out).mono ?_);rintro e w' ⟨rfl,⟨nd,rfl⟩⟩;refine ⟨_,rfl,?_⟩;have Ak : 0 ≤ (a3 : Int):=of_decide_eq_true (by first|(with_reducible assumption)|assumption);have Al : a3 < (l0_1.length : Int):=of_decide_eq_true (by first|(with_reducible assumption)|assumption);obtain ⟨Aq,As,Ac⟩:=Kd.at_int HR0_1.out a3 Ak Al;obtain rfl : Aj = Aq:=(by injection As);(try replace Ac:=(HB.out.cell (World.block_lt_of_cell? w _ Ac)).trans Ac);replace Ak:=eq_true Ak;replace Al:=eq_true Al)|(go_at_call 192;(with_reducible refine (Aap.calls (rd l0_1 a3) a4 true _ A12.out).mono ?_);rintro e w' ⟨rfl,⟨nd,rfl⟩⟩;have Ao : 0 ≤ (a3 : Int):=of_decide_eq_true (by first|(with_reducible assumption)|assumption);have Ap : a3 < (l0_1.length : Int):=of_decide_eq_true (by first|(with_reducible assumption)|assumption);obtain ⟨Aw,Ax,Ai⟩:=Kd.at_int HR0_1.out a3 Ao Ap;obtain rfl : Aj = Aw:=(by injection Ax);(try replace Ai:=(HB.out.cell (World.block_lt_of_cell? w _ Ai)).trans Ai);replace Ao:=eq_true Ao;replace Ap:=eq_true Ap)|(go_at_call 192;(with_reducible refine (Aap.calls (rd l0_1 a3) a2 true _ A14.out).mono ?_);rintro e w' ⟨rfl,⟨nd,rfl⟩⟩))
        go_ret
        exact ⟨by first|rfl|(simp [errW_none,errW_some] <;> rfl)|(simp [*,errW_none,errW_some] <;> rfl),bb_⟩
       ·replace c15:=Bool.eq_false_iff.mpr c15;subst c15;have H1 : ((Aap.f (rd l0_1 a1) a4).bind fun Ad=>(some (!Ad))) = some r:=by rw [if_neg (show ¬ (false = true) by decide)] at H;exact H
        clear H;have H:=H1;clear H1;replace H:=Option.bind_eq_some_iff.mp H;obtain ⟨Ad,Bc,H⟩:=H;replace H : (some (!Ad)) = some r:=H;have A18:=A_ Bc;clear Bc;obtain rfl:=Option.some.inj H;go_enter Tryd.func208,Tryd.ntmps208
        go_wp2_with (first|((with_reducible refine gate_dst (N:=5) rfl ?_);refine box_event ?hg (N:=5) ?hd (cs:=#[.int .i64 a0_0,.slice A0_1 l0_1.length c0_1]) (t:=28) ?hr ?_;(case hd=>rfl);(case hg=>rfl);(case hr=>go_simp;try rfl);intro Ag hg w19 hbox hb;have Ab:=A_ (hbox);have Au:=A_ (gw_ (w:=w) hg bb_);have Av:=A_ (gw_ (w:=w) hg bb_);replace HB:=A_ (below_step bb_ hb);clear hb hbox hg;have hcz20_0 : w19.cell? ⟨Ag,0,none⟩ = some (.int .i64 a0_0):=blk_cell Ab.out 0;have hcz20_1 : w19.cell? ⟨Ag,1,none⟩ = some (.slice A0_1 l0_1.length c0_1):=blk_cell Ab.out 1;have hfz20_0:=blk_frozen Ab.out 0;have hfz20_1:=blk_frozen Ab.out 1;have Ae : 0 ≤ (a1 : Int):=of_decide_eq_true (by first|(with_reducible assumption)|assumption);have Af : a1 < (l0_1.length : Int):=of_decide_eq_true (by first|(with_reducible assumption)|assumption);obtain ⟨Aj,An,Aa⟩:=Kd.at_int HR0_1.out a1 Ae Af;cases An;(try replace Aa:=(HB.out.cell (World.block_lt_of_cell? w _ Aa)).trans Aa);replace Ae:=eq_true Ae;replace Af:=eq_true Af)|((with_reducible refine gate_callee (f:=192) rfl ?_);refine goesL_ (some 17) rfl rfl Tryd.func192 (by kernel_rfl) rfl #[.int .i64 (rd l0_1 a1),.int .i64 a2] rfl au_ ?_;(with_reducible refine (Aap.calls (rd l0_1 a1) a2 true _ A8.out).mono ?_);rintro e w' ⟨rfl,⟨nd,rfl⟩⟩;refine ⟨_,rfl,?_⟩;have Ak : 0 ≤ (a3 : Int):=of_decide_eq_true (by first|(with_reducible assumption)|assumption);have Al : a3 < (l0_1.length : Int):=of_decide_eq_true (by first|(with_reducible assumption)|assumption);obtain ⟨Aq,As,Ac⟩:=Kd.at_int HR0_1.out a3 Ak Al;obtain rfl : Aj = Aq:=(by injection As);(try replace Ac:=(HB.out.cell (World.block_lt_of_cell? w _ Ac)).trans Ac);replace Ak:=eq_true Ak;replace Al:=eq_true Al)|(go_at_call 192;(with_reducible refine (Aap.calls (rd l0_1 a3) a4 true _ A12.out).mono ?_);rintro e w' ⟨rfl,⟨nd,rfl⟩⟩;have Ao : 0 ≤ (a3 : Int):=of_decide_eq_true (by first|(with_reducible assumption)|assumption);have Ap : a3 < (l0_1.length : Int):=of_decide_eq_true (by first|(with_reducible assumption)|assumption);obtain ⟨Aw,Ax,Ai⟩:=Kd.at_int HR0_1.out a3 Ao Ap;obtain rfl : Aj = Aw:=(by injection Ax);(try replace Ai:=(HB.out.cell (World.block_lt_of_cell? w _ Ai)).trans Ai);replace Ao:=eq_true Ao;replace Ap:=eq_true Ap)|(go_at_call 192;(with_reducible refine (Aap.calls (rd l0_1 a3) a2 false _ A14.out).mono ?_);rintro e w' ⟨rfl,⟨nd,rfl⟩⟩;have Ay : 0 ≤ (a1 : Int):=of_decide_eq_true (by first|(with_reducible assumption)|assumption);have Az : a1 < (l0_1.length : Int):=of_decide_eq_true (by first|(with_reducible assumption)|assumption);obtain ⟨Bd,Be,Ar⟩:=Kd.at_int HR0_1.out a1 Ay Az;obtain rfl : Aj = Bd:=(by injection Be);(try replace Ar:=(HB.out.cell (World.block_lt_of_cell? w _ Ar)).trans Ar);replace Ay:=eq_true Ay;replace Az:=eq_true Az)|(go_at_call 192;(with_reducible refine (Aap.calls (rd l0_1 a1) a4 Ad _ A18.out).mono ?_);rintro e w' ⟨rfl,⟨nd,rfl⟩⟩))
        go_ret
        exact ⟨by first|rfl|(simp [errW_none,errW_some] <;> rfl)|(simp [*,errW_none,errW_some] <;> rfl),bb_⟩
      ·replace c13:=Bool.eq_false_iff.mpr c13;subst c13;have H1 : (some false) = some r:=by rw [if_neg (show ¬ (false = true) by decide)] at H;exact H
       clear H;have H:=H1;clear H1;obtain rfl:=Option.some.inj H;go_enter Tryd.func208,Tryd.ntmps208
       go_wp2_with (first|((with_reducible refine gate_dst (N:=5) rfl ?_);refine box_event ?hg (N:=5) ?hd (cs:=#[.int .i64 a0_0,.slice A0_1 l0_1.length c0_1]) (t:=28) ?hr ?_;(case hd=>rfl);(case hg=>rfl);(case hr=>go_simp;try rfl);intro Ag hg w21 hbox hb;have Ab:=A_ (hbox);have Au:=A_ (gw_ (w:=w) hg bb_);have Av:=A_ (gw_ (w:=w) hg bb_);replace HB:=A_ (below_step bb_ hb);clear hb hbox hg;have hcz22_0 : w21.cell? ⟨Ag,0,none⟩ = some (.int .i64 a0_0):=blk_cell Ab.out 0;have hcz22_1 : w21.cell? ⟨Ag,1,none⟩ = some (.slice A0_1 l0_1.length c0_1):=blk_cell Ab.out 1;have hfz22_0:=blk_frozen Ab.out 0;have hfz22_1:=blk_frozen Ab.out 1;have Ae : 0 ≤ (a1 : Int):=of_decide_eq_true (by first|(with_reducible assumption)|assumption);have Af : a1 < (l0_1.length : Int):=of_decide_eq_true (by first|(with_reducible assumption)|assumption);obtain ⟨Aj,An,Aa⟩:=Kd.at_int HR0_1.out a1 Ae Af;cases An;(try replace Aa:=(HB.out.cell (World.block_lt_of_cell? w _ Aa)).trans Aa);replace Ae:=eq_true Ae;replace Af:=eq_true Af)|((with_reducible refine gate_callee (f:=192) rfl ?_);refine goesL_ (some 17) rfl rfl Tryd.func192 (by kernel_rfl) rfl #[.int .i64 (rd l0_1 a1),.int .i64 a2] rfl au_ ?_;(with_reducible refine (Aap.calls (rd l0_1 a1) a2 true _ A8.out).mono ?_);rintro e w' ⟨rfl,⟨nd,rfl⟩⟩;refine ⟨_,rfl,?_⟩;have Ak : 0 ≤ (a3 : Int):=of_decide_eq_true (by first|(with_reducible assumption)|assumption);have Al : a3 < (l0_1.length : Int):=of_decide_eq_true (by first|(with_reducible assumption)|assumption);obtain ⟨Aq,As,Ac⟩:=Kd.at_int HR0_1.out a3 Ak Al;obtain rfl : Aj = Aq:=(by injection As);(try replace Ac:=(HB.out.cell (World.block_lt_of_cell? w _ Ac)).trans Ac);replace Ak:=eq_true Ak;replace Al:=eq_true Al)|(go_at_call 192;(with_reducible refine (Aap.calls (rd l0_1 a3) a4 false _ A12.out).mono ?_);rintro e w' ⟨rfl,⟨nd,rfl⟩⟩))
       go_ret
       exact ⟨by first|rfl|(simp [errW_none,errW_some] <;> rfl)|(simp [*,errW_none,errW_some] <;> rfl),bb_⟩
     ·rw [if_neg c11] at H;exact absurd H (by simp)
    ·rw [if_neg c10] at H;exact absurd H (by simp)
   ·replace c9:=Bool.eq_false_iff.mpr c9;subst c9;have H1 : (some false) = some r:=by rw [if_neg (show ¬ (false = true) by decide)] at H;exact H
    clear H;have H:=H1;clear H1;obtain rfl:=Option.some.inj H;go_enter Tryd.func208,Tryd.ntmps208
    go_wp2_with (first|((with_reducible refine gate_dst (N:=5) rfl ?_);refine box_event ?hg (N:=5) ?hd (cs:=#[.int .i64 a0_0,.slice A0_1 l0_1.length c0_1]) (t:=28) ?hr ?_;(case hd=>rfl);(case hg=>rfl);(case hr=>go_simp;try rfl);intro Ag hg w23 hbox hb;have Ab:=A_ (hbox);have Au:=A_ (gw_ (w:=w) hg bb_);have Av:=A_ (gw_ (w:=w) hg bb_);replace HB:=A_ (below_step bb_ hb);clear hb hbox hg;have hcz24_0 : w23.cell? ⟨Ag,0,none⟩ = some (.int .i64 a0_0):=blk_cell Ab.out 0;have hcz24_1 : w23.cell? ⟨Ag,1,none⟩ = some (.slice A0_1 l0_1.length c0_1):=blk_cell Ab.out 1;have hfz24_0:=blk_frozen Ab.out 0;have hfz24_1:=blk_frozen Ab.out 1;have Ae : 0 ≤ (a1 : Int):=of_decide_eq_true (by first|(with_reducible assumption)|assumption);have Af : a1 < (l0_1.length : Int):=of_decide_eq_true (by first|(with_reducible assumption)|assumption);obtain ⟨Aj,An,Aa⟩:=Kd.at_int HR0_1.out a1 Ae Af;cases An;(try replace Aa:=(HB.out.cell (World.block_lt_of_cell? w _ Aa)).trans Aa);replace Ae:=eq_true Ae;replace Af:=eq_true Af)|((with_reducible refine gate_callee (f:=192) rfl ?_);refine goesL_ (some 17) rfl rfl Tryd.func192 (by kernel_rfl) rfl #[.int .i64 (rd l0_1 a1),.int .i64 a2] rfl au_ ?_;(with_reducible refine (Aap.calls (rd l0_1 a1) a2 false _ A8.out).mono ?_);rintro e w' ⟨rfl,⟨nd,rfl⟩⟩;refine ⟨_,rfl,?_⟩))
    go_ret
    exact ⟨by first|rfl|(simp [errW_none,errW_some] <;> rfl)|(simp [*,errW_none,errW_some] <;> rfl),bb_⟩
  ·rw [if_neg c7] at H;exact absurd H (by simp)
 ·rw [if_neg c6] at H;exact absurd H (by simp)
mutual
def Aam.l0 : Nat → Int → Int → List Int → Option (List Int × Bool)
 | 0,_,_,_=>none
 | k + 1,x4,x1245000,x1245001=>if x4 < x1245000 then (Aam.l1 k x4 0 x1245000 x1245001) else (some (([] : List Int),false))
def Aam.l1 : Nat → Int → Int → Int → List Int → Option (List Int × Bool)
 | 0,_,_,_,_=>none
 | k + 1,x4,x5,x1245000,x1245001=>if x5 < x1245000 then (Aam.l2 k x4 x5 0 x1245000 x1245001) else (Aam.l0 k (wrap64 (x4 + 1)) x1245000 x1245001)
def Aam.l2 : Nat → Int → Int → Int → Int → List Int → Option (List Int × Bool)
 | 0,_,_,_,_,_=>none
 | k + 1,x4,x5,x6,x1245000,x1245001=>if x6 < x1245000 then (Aam.l3 k x4 x5 x6 0 x1245000 x1245001) else (Aam.l1 k x4 (wrap64 (x5 + 1)) x1245000 x1245001)
def Aam.l3 : Nat → Int → Int → Int → Int → Int → List Int → Option (List Int × Bool)
 | 0,_,_,_,_,_,_=>none
 | k + 1,x4,x5,x6,x7,x1245000,x1245001=>if x7 < x1245000 then ((Abz.f x1245000 x1245001 x4 x5 x6 x7).bind fun t1245=>(if t1245 = true then (some ((([x4,x5,x6,x7] : List Int)),true)) else (Aam.l3 k x4 x5 x6 (wrap64 (x7 + 1)) x1245000 x1245001))) else (Aam.l2 k x4 x5 (wrap64 (x6 + 1)) x1245000 x1245001)
end
def Aam.f (k : Nat) (a0_0 : Int) (l0_1 : List Int) : Option (List Int × Bool) := Aam.l0 k 0 a0_0 l0_1
set_option maxHeartbeats 8000000 in
set_option maxRecDepth 100000 in
theorem Aam.calls (k : Nat) (a0_0 : Int) (A0_1 : Option Addr) (c0_1 : Nat) (l0_1 : List Int) (r1 : List Int) (r2 : Bool) (w : World) (hr0_1 : Kd.C (Kd.int .i64) w A0_1 l0_1.length l0_1) (hc0_1 : l0_1.length ≤ c0_1) (h : Aam.f k a0_0 l0_1 = some (r1,r2)) :
 Calls Tryd.prog 143 #[.agg #[.int .i64 a0_0,.slice A0_1 l0_1.length c0_1]] w fun e w'=>∃ v0_ : Value,e = .returned (.tuple #[v0_,.bool r2]) ∧ Kd.R (Kd.int .i64) 3 w' w.heap.size (fun _=>True) v0_ r1 ∧ Below w.heap.size w w':=by
 have hu28:=Tryd.underlying28;have HR0_1:=A_ hr0_1;have HC0_1:=A_ hc0_1;clear hr0_1 hc0_1;have HB:=A_ (Below.refl w.heap.size w);have H : (Aam.l0 k 0 a0_0 l0_1) = some (r1,r2):=h;clear h;have H':=A_ H;clear H;go_enter Tryd.func143,Tryd.ntmps143
 go_wp2_with (first|((with_reducible refine gate_dst (N:=1) rfl ?_);refine box_event ?hg (N:=1) ?hd (cs:=#[.int .i64 a0_0,.slice A0_1 l0_1.length c0_1]) (t:=28) ?hr ?_;(case hd=>rfl);(case hg=>rfl);(case hr=>go_simp;try rfl);intro Ab hg w2 hbox hb;have Aa:=A_ (hbox);have Ai:=A_ (gw_ (w:=w) hg bb_);have Aj:=A_ (gw_ (w:=w) hg bb_);replace HB:=A_ (below_step bb_ hb);clear hb hbox hg))
 go_loopg [4] k (fun kq v4 w'=>∃ (x4_1 : Int),v4 = .int .i64 x4_1 ∧ Aside0 (Aam.l0 kq x4_1 a0_0 l0_1 = some (r1,r2)) ∧ Aside0 (kq ≤ k) ∧ Aside0 (w'.heap[Ab]? = some (.cells #[.int .i64 a0_0,(.slice A0_1 l0_1.length c0_1)] 28 (0,0))) ∧ Aside0 (Below w.heap.size w w'))
 case atStart=>exact ⟨(0),(by first|rfl|(simp;done)|(simp [*];done)),H',⟨Nat.le_refl _⟩,⟨bl_ Aa⟩,⟨bb_⟩⟩
 case round =>
  clear H';try clear c1
  try clear p2
  obtain ⟨x4_1,rfl,HA,HK1,Aa,HB⟩:=hrel;cases gk with
  | zero => exact absurd HA.out (by simp [Aam.l0])
  | succ k1 =>
   have H:=HA.out;clear HA;simp only [Aam.l0] at H
   by_cases c3 : x4_1 < a0_0
   ·rw [if_pos c3] at H;have c3b0 : decide (x4_1 < a0_0) = true:=decide_eq_true c3;clear c3;have H':=A_ H;clear H;have hcz4_0 : wr.cell? ⟨Ab,0,none⟩ = some (.int .i64 a0_0):=blk_cell Aa.out 0;have hcz4_1 : wr.cell? ⟨Ab,1,none⟩ = some (.slice A0_1 l0_1.length c0_1):=blk_cell Aa.out 1;have hfz4_0:=blk_frozen Aa.out 0;have hfz4_1:=blk_frozen Aa.out 1;go_wp2
    go_loopg [5] k1 (fun kq v5 w'=>∃ (x5_2 : Int),v5 = .int .i64 x5_2 ∧ Aside0 (Aam.l1 kq x4_1 x5_2 a0_0 l0_1 = some (r1,r2)) ∧ Aside0 (kq ≤ k1) ∧ Aside0 (w'.heap[Ab]? = some (.cells #[.int .i64 a0_0,(.slice A0_1 l0_1.length c0_1)] 28 (0,0))) ∧ Aside0 (Below w.heap.size w w'))
    case atStart=>exact ⟨(0),(by first|rfl|(simp;done)|(simp [*];done)),H',⟨Nat.le_refl _⟩,⟨bl_ Aa⟩,⟨bb_⟩⟩
    case round =>
     clear H';try clear c1
     try clear p2
     try clear c3
     try clear c3b0
     try clear hcz4_0
     try clear hcz4_1
     try clear hfz4_0
     try clear hfz4_1
     try clear p2
     obtain ⟨x5_2,rfl,HA,HK2,Aa,HB⟩:=hrel;cases gk with
     | zero=>exact absurd HA.out (by simp [Aam.l1])
     | succ k2 =>
      have H:=HA.out;clear HA;simp only [Aam.l1] at H
      by_cases c5 : x5_2 < a0_0
      ·rw [if_pos c5] at H;have c5b0 : decide (x5_2 < a0_0) = true:=decide_eq_true c5;clear c5;have H':=A_ H;clear H;have hcz6_0 : wr.cell? ⟨Ab,0,none⟩ = some (.int .i64 a0_0):=blk_cell Aa.out 0;have hcz6_1 : wr.cell? ⟨Ab,1,none⟩ = some (.slice A0_1 l0_1.length c0_1):=blk_cell Aa.out 1;have hfz6_0:=blk_frozen Aa.out 0;have hfz6_1:=blk_frozen Aa.out 1;go_wp2
       go_loopg [6] k2 (fun kq v6 w'=>∃ (x6_3 : Int),v6 = .int .i64 x6_3 ∧ Aside0 (Aam.l2 kq x4_1 x5_2 x6_3 a0_0 l0_1 = some (r1,r2)) ∧ Aside0 (kq ≤ k2) ∧ Aside0 (w'.heap[Ab]? = some (.cells #[.int .i64 a0_0,(.slice A0_1 l0_1.length c0_1)] 28 (0,0))) ∧ Aside0 (Below w.heap.size w w'))
       case atStart=>exact ⟨(0),(by first|rfl|(simp;done)|(simp [*];done)),H',⟨Nat.le_refl _⟩,⟨bl_ Aa⟩,⟨bb_⟩⟩
       case round =>
        clear H';try clear c1
        try clear p2
        try clear c3
        try clear c3b0
        try clear c5
        try clear c5b0
        try clear hcz4_0
        try clear hcz4_1
        try clear hcz6_0
        try clear hcz6_1
        try clear hfz4_0
        try clear hfz4_1
        try clear hfz6_0
        try clear hfz6_1
        try clear p2
        obtain ⟨x6_3,rfl,HA,HK3,Aa,HB⟩:=hrel;cases gk with
        | zero=>exact absurd HA.out (by simp [Aam.l2])
        | succ k3 =>
         have H:=HA.out;clear HA;simp only [Aam.l2] at H
         by_cases c7 : x6_3 < a0_0
         ·rw [if_pos c7] at H;have c7b0 : decide (x6_3 < a0_0) = true:=decide_eq_true c7;clear c7;have H':=A_ H;clear H;have hcz8_0 : wr.cell? ⟨Ab,0,none⟩ = some (.int .i64 a0_0):=blk_cell Aa.out 0;have hcz8_1 : wr.cell? ⟨Ab,1,none⟩ = some (.slice A0_1 l0_1.length c0_1):=blk_cell Aa.out 1;have hfz8_0:=blk_frozen Aa.out 0;have hfz8_1:=blk_frozen Aa.out 1;go_wp2
          go_loopg [7] k3 (fun kq v7 w'=>∃ (x7_4 : Int),v7 = .int .i64 x7_4 ∧ Aside0 (Aam.l3 kq x4_1 x5_2 x6_3 x7_4 a0_0 l0_1 = some (r1,r2)) ∧ Aside0 (kq ≤ k3) ∧ Aside0 (w'.heap[Ab]? = some (.cells #[.int .i64 a0_0,(.slice A0_1 l0_1.length c0_1)] 28 (0,0))) ∧ Aside0 (Below w.heap.size w w'))
          case atStart=>exact ⟨(0),(by first|rfl|(simp;done)|(simp [*];done)),H',⟨Nat.le_refl _⟩,⟨bl_ Aa⟩,⟨bb_⟩⟩
          case round =>
           clear H';try clear c1
           try clear p2
           try clear c3
           try clear c3b0
           try clear c5
           try clear c5b0
           try clear c7
           try clear c7b0
           try clear hcz4_0
           try clear hcz4_1
           try clear hcz6_0
           try clear hcz6_1
           try clear hcz8_0
           try clear hcz8_1
           try clear hfz4_0
           try clear hfz4_1
           try clear hfz6_0
           try clear hfz6_1
           try clear hfz8_0
           try clear hfz8_1
           try clear p2
           obtain ⟨x7_4,rfl,HA,HK4,Aa,HB⟩:=hrel;cases gk with
           | zero=>exact absurd HA.out (by simp [Aam.l3])
           | succ k4 =>
            have H:=HA.out;clear HA;simp only [Aam.l3] at H
            by_cases c9 : x7_4 < a0_0
            ·rw [if_pos c9] at H;have c9b0 : decide (x7_4 < a0_0) = true:=decide_eq_true c9;clear c9;replace H:=Option.bind_eq_some_iff.mp H;obtain ⟨Ae,Af,H⟩:=H;replace H : (if Ae = true then (some ((([x4_1,x5_2,x6_3,x7_4] : List Int)),true)) else (Aam.l3 k4 x4_1 x5_2 x6_3 (wrap64 (x7_4 + 1)) a0_0 l0_1)) = some (r1,r2):=H;have A10:=A_ Af;clear Af;by_cases c11 : Ae = true
             ·subst c11;have H1 : (some ((([x4_1,x5_2,x6_3,x7_4] : List Int)),true)) = some (r1,r2):=by rw [if_pos rfl] at H;exact H
              clear H;have H:=H1;clear H1;obtain ⟨Ah,Ac⟩ : ∃ y_ : List Int,y_ = (([x4_1,x5_2,x6_3,x7_4] : List Int)):=⟨_,rfl⟩;replace H : (some (Ah,true)) = some (r1,r2):=by first|(rw [Ac];with_reducible exact H)|(have H2_:=(Option.bind_some _ _).symm.trans H;rw [Ac];with_reducible exact H2_)|(have H2_:=(Option.bind_some _ _).symm.trans H;with_reducible exact H2_)|with_reducible exact H|(rw [Ac];exact H)|exact H
              have Ad:=A_ Ac;clear Ac;simp only [Option.some.injEq,Prod.mk.injEq] at H
              obtain ⟨rfl,rfl⟩:=H;have hcz12_0 : wr.cell? ⟨Ab,0,none⟩ = some (.int .i64 a0_0):=blk_cell Aa.out 0;have hcz12_1 : wr.cell? ⟨Ab,1,none⟩ = some (.slice A0_1 l0_1.length c0_1):=blk_cell Aa.out 1;have hfz12_0:=blk_frozen Aa.out 0;have hfz12_1:=blk_frozen Aa.out 1;go_wp2_with (first|((with_reducible refine gate_callee (f:=208) rfl ?_);refine goesL_ (some 37) rfl rfl Tryd.func208 (by kernel_rfl) rfl #[.agg #[.int .i64 a0_0,.slice A0_1 l0_1.length c0_1],.int .i64 x4_1,.int .i64 x5_2,.int .i64 x6_3,.int .i64 x7_4] rfl au_ ?_;(with_reducible refine (Abz.calls a0_0 _ _ l0_1 x4_1 x5_2 x6_3 x7_4 true _ ?side1 ?side2 A10.out).mono ?_);(case side1=>exact cl_ (Kd.C_below HR0_1.out HB.out));(case side2=>exact HC0_1.out);rintro e w13 ⟨rfl,hb⟩;refine ⟨_,rfl,?_⟩;replace Aa:=bz Aa hb;replace HB:=A_ (below_step bb_ hb);(try clear hb);(try clear hb2);(try clear hk);(try clear hi))|((with_reducible refine gate_dst (N:=42) rfl ?_);refine Kd.R_lit (Kd.int .i64) _ 3 ?hg (N:=42) ?hd (xs:=([x4_1,x5_2,x6_3,x7_4] : List Int)) (inner:=[.int .i64 x4_1,.int .i64 x5_2,.int .i64 x6_3,.int .i64 x7_4]) (ok:=fun _=>True) (okp:=fun _=>True) ?hr ?hp (fun _ hk=>hk) trivial (Below.refl _ _) (Nat.le_refl _) (by simp) ?_;(case hd=>rfl);(case hg=>rfl);(case hr=>go_simp;try rfl);(case hp=>exact (Reps.one (show Kd.M (Kd.int .i64) _ _ _ x4_1 [.int .i64 x4_1] from rfl) (Reps.one (show Kd.M (Kd.int .i64) _ _ _ x5_2 [.int .i64 x5_2] from rfl) (Reps.one (show Kd.M (Kd.int .i64) _ _ _ x6_3 [.int .i64 x6_3] from rfl) (Reps.one (show Kd.M (Kd.int .i64) _ _ _ x7_4 [.int .i64 x7_4] from rfl) (Reps.none _ _))))));intro Ak w14 ho15 hb hg_ hnew_;clear hg_ hnew_;(first|rw [← Ad.out] at ho15|(simp only [Int.reduceToNat] at ho15;rw [← Ad.out] at ho15));have Ag:=A_ (Kd.R_lower ho15 (below_size bb_));replace Aa:=bz Aa hb;replace HB:=A_ (below_step bb_ hb);clear hb ho15))
              go_ret2
              exact ⟨_,by first|rfl|(simp [errW_none,errW_some] <;> rfl)|(simp [*,errW_none,errW_some] <;> rfl),rl_ Ag,bb_⟩
             ·replace c11:=Bool.eq_false_iff.mpr c11;subst c11;have H1 : (Aam.l3 k4 x4_1 x5_2 x6_3 (wrap64 (x7_4 + 1)) a0_0 l0_1) = some (r1,r2):=by rw [if_neg (show ¬ (false = true) by decide)] at H;exact H
              clear H;have H:=H1;clear H1;have H':=A_ H;clear H;have hcz16_0 : wr.cell? ⟨Ab,0,none⟩ = some (.int .i64 a0_0):=blk_cell Aa.out 0;have hcz16_1 : wr.cell? ⟨Ab,1,none⟩ = some (.slice A0_1 l0_1.length c0_1):=blk_cell Aa.out 1;have hfz16_0:=blk_frozen Aa.out 0;have hfz16_1:=blk_frozen Aa.out 1;go_wp2_with (first|((with_reducible refine gate_callee (f:=208) rfl ?_);refine goesL_ (some 37) rfl rfl Tryd.func208 (by kernel_rfl) rfl #[.agg #[.int .i64 a0_0,.slice A0_1 l0_1.length c0_1],.int .i64 x4_1,.int .i64 x5_2,.int .i64 x6_3,.int .i64 x7_4] rfl au_ ?_;(with_reducible refine (Abz.calls a0_0 _ _ l0_1 x4_1 x5_2 x6_3 x7_4 false _ ?side1 ?side2 A10.out).mono ?_);(case side1=>exact cl_ (Kd.C_below HR0_1.out HB.out));(case side2=>exact HC0_1.out);rintro e w17 ⟨rfl,hb⟩;refine ⟨_,rfl,?_⟩;replace Aa:=bz Aa hb;replace HB:=A_ (below_step bb_ hb);(try clear hb);(try clear hb2);(try clear hk);(try clear hi)))
              go_roundg k4
              case measure=>have:=HK1.out;have:=HK2.out;have:=HK3.out;have:=HK4.out;omega
              case rel=>exact ⟨(wrap64 (x7_4 + 1)),(by first|rfl|(simp;done)|(simp [*];done)),H',⟨by have:=HK1.out;have:=HK2.out;have:=HK3.out;have:=HK4.out;omega⟩,⟨bl_ Aa⟩,⟨bb_⟩⟩
            ·rw [if_neg c9] at H;have c9b0 : decide (x7_4 < a0_0) = false:=decide_eq_false c9;clear c9;have H':=A_ H;clear H;have hcz18_0 : wr.cell? ⟨Ab,0,none⟩ = some (.int .i64 a0_0):=blk_cell Aa.out 0;have hcz18_1 : wr.cell? ⟨Ab,1,none⟩ = some (.slice A0_1 l0_1.length c0_1):=blk_cell Aa.out 1;have hfz18_0:=blk_frozen Aa.out 0;have hfz18_1:=blk_frozen Aa.out 1;go_wp2
             go_roundg k4
             case measure=>have:=HK1.out;have:=HK2.out;have:=HK3.out;have:=HK4.out;omega
             case rel=>exact ⟨(wrap64 (x6_3 + 1)),(by first|rfl|(simp;done)|(simp [*];done)),H',⟨by have:=HK1.out;have:=HK2.out;have:=HK3.out;have:=HK4.out;omega⟩,⟨bl_ Aa⟩,⟨bb_⟩⟩
         ·rw [if_neg c7] at H;have c7b0 : decide (x6_3 < a0_0) = false:=decide_eq_false c7;clear c7;have H':=A_ H;clear H;have hcz19_0 : wr.cell? ⟨Ab,0,none⟩ = some (.int .i64 a0_0):=blk_cell Aa.out 0;have hcz19_1 : wr.cell? ⟨Ab,1,none⟩ = some (.slice A0_1 l0_1.length c0_1):=blk_cell Aa.out 1;have hfz19_0:=blk_frozen Aa.out 0;have hfz19_1:=blk_frozen Aa.out 1;go_wp2
          go_roundg k3
          case measure=>have:=HK1.out;have:=HK2.out;have:=HK3.out;omega
          case rel=>exact ⟨(wrap64 (x5_2 + 1)),(by first|rfl|(simp;done)|(simp [*];done)),H',⟨by have:=HK1.out;have:=HK2.out;have:=HK3.out;omega⟩,⟨bl_ Aa⟩,⟨bb_⟩⟩
      ·rw [if_neg c5] at H;have c5b0 : decide (x5_2 < a0_0) = false:=decide_eq_false c5;clear c5;have H':=A_ H;clear H;have hcz20_0 : wr.cell? ⟨Ab,0,none⟩ = some (.int .i64 a0_0):=blk_cell Aa.out 0;have hcz20_1 : wr.cell? ⟨Ab,1,none⟩ = some (.slice A0_1 l0_1.length c0_1):=blk_cell Aa.out 1;have hfz20_0:=blk_frozen Aa.out 0;have hfz20_1:=blk_frozen Aa.out 1;go_wp2
       go_roundg k2
       case measure=>have:=HK1.out;have:=HK2.out;omega
       case rel=>exact ⟨(wrap64 (x4_1 + 1)),(by first|rfl|(simp;done)|(simp [*];done)),H',⟨by have:=HK1.out;have:=HK2.out;omega⟩,⟨bl_ Aa⟩,⟨bb_⟩⟩
   ·rw [if_neg c3] at H;have c3b0 : decide (x4_1 < a0_0) = false:=decide_eq_false c3;clear c3;simp only [Option.some.injEq,Prod.mk.injEq] at H
    obtain ⟨rfl,rfl⟩:=H;have hcz21_0 : wr.cell? ⟨Ab,0,none⟩ = some (.int .i64 a0_0):=blk_cell Aa.out 0;have hcz21_1 : wr.cell? ⟨Ab,1,none⟩ = some (.slice A0_1 l0_1.length c0_1):=blk_cell Aa.out 1;have hfz21_0:=blk_frozen Aa.out 0;have hfz21_1:=blk_frozen Aa.out 1;go_wp2
    go_ret2
    exact ⟨_,by first|rfl|(simp [errW_none,errW_some] <;> rfl)|(simp [*,errW_none,errW_some] <;> rfl),by first|exact Kd.R_nil _ _ _ _ _|exact Kd.N_nil _ _ _ _ _|exact Kd.V_nil _ _ _ _ _|exact Kd.Q_nil _ _ _ _ _|exact Kd.S_nil _ _ _ _ _,bb_⟩
def Ab4.f (k : Nat) (a0_0 : Int) (l0_1 : List Int) : Option (Bool) := (Aam.f k a0_0 l0_1).bind fun bt1250 => (some (!bt1250.2))
set_option maxHeartbeats 8000000 in
set_option maxRecDepth 100000 in
theorem Ab4.calls (k : Nat) (a0_0 : Int) (A0_1 : Option Addr) (c0_1 : Nat) (l0_1 : List Int) (r : Bool) (w : World) (hr0_1 : Kd.C (Kd.int .i64) w A0_1 l0_1.length l0_1) (hc0_1 : l0_1.length ≤ c0_1) (h : Ab4.f k a0_0 l0_1 = some r) :
 Calls Tryd.prog 204 #[.agg #[.int .i64 a0_0,.slice A0_1 l0_1.length c0_1]] w fun e w'=>e = .returned (.bool r) ∧ Below w.heap.size w w':=by
 have hu28:=Tryd.underlying28;have HR0_1:=A_ hr0_1;have HC0_1:=A_ hc0_1;clear hr0_1 hc0_1;have HB:=A_ (Below.refl w.heap.size w);have H : ((Aam.f k a0_0 l0_1).bind fun Ad=>(some (!Ad.2))) = some r:=h;clear h;replace H:=Option.bind_eq_some_iff.mp H;obtain ⟨⟨Ae,Ac⟩,A20,H⟩:=H;replace H : (some (!Ac)) = some r:=H;have A2:=A_ A20;clear A20;obtain rfl:=Option.some.inj H;go_enter Tryd.func204,Tryd.ntmps204
 go_wp2_with (first|((with_reducible refine gate_dst (N:=1) rfl ?_);refine box_event ?hg (N:=1) ?hd (cs:=#[.int .i64 a0_0,.slice A0_1 l0_1.length c0_1]) (t:=28) ?hr ?_;(case hd=>rfl);(case hg=>rfl);(case hr=>go_simp;try rfl);intro Ab hg w3 hbox hb;have Aa:=A_ (hbox);have Af:=A_ (gw_ (w:=w) hg bb_);have Ag:=A_ (gw_ (w:=w) hg bb_);replace HB:=A_ (below_step bb_ hb);clear hb hbox hg;have hcz4_0 : w3.cell? ⟨Ab,0,none⟩ = some (.int .i64 a0_0):=blk_cell Aa.out 0;have hcz4_1 : w3.cell? ⟨Ab,1,none⟩ = some (.slice A0_1 l0_1.length c0_1):=blk_cell Aa.out 1;have hfz4_0:=blk_frozen Aa.out 0;have hfz4_1:=blk_frozen Aa.out 1)|((with_reducible refine gate_callee (f:=143) rfl ?_);refine goesL_ (some 7) rfl rfl Tryd.func143 (by kernel_rfl) rfl #[.agg #[.int .i64 a0_0,.slice A0_1 l0_1.length c0_1]] rfl au_ ?_;(with_reducible refine (Aam.calls k a0_0 _ _ l0_1 Ae Ac _ ?side1 ?side2 A2.out).mono ?_);(case side1=>exact cl_ (Kd.C_below HR0_1.out HB.out));(case side2=>exact HC0_1.out);rintro e w5 ⟨Ai,rfl,ho0,hb⟩;refine ⟨_,rfl,?_⟩;have Ah:=A_ (Kd.R_lower ho0 (below_size bb_));replace Aa:=bz Aa hb;replace HB:=A_ (below_step bb_ hb);(try clear hb);(try clear hb2);(try clear hk);(try clear hi);(try clear ho0)))
 go_ret
 exact ⟨by first|rfl|(simp [errW_none,errW_some] <;> rfl)|(simp [*,errW_none,errW_some] <;> rfl),bb_⟩
def Abs.f (k : Nat) (a0_0 : Int) (l0_1 : List Int) : Option (Bool) := (Aaw.f k a0_0 l0_1).bind fun t1255 => (if t1255 = true then ((Ab4.f k a0_0 l0_1).bind fun t1256 => (some t1256)) else (some false))
set_option maxHeartbeats 8000000 in
set_option maxRecDepth 100000 in
theorem Abs.calls (k : Nat) (a0_0 : Int) (A0_1 : Option Addr) (c0_1 : Nat) (l0_1 : List Int) (r : Bool) (w : World) (hr0_1 : Kd.C (Kd.int .i64) w A0_1 l0_1.length l0_1) (hc0_1 : l0_1.length ≤ c0_1) (h : Abs.f k a0_0 l0_1 = some r) :
 Calls Tryd.prog 136 #[.agg #[.int .i64 a0_0,.slice A0_1 l0_1.length c0_1]] w fun e w'=>e = .returned (.bool r) ∧ Below w.heap.size w w':=by
 have hu28:=Tryd.underlying28;have HR0_1:=A_ hr0_1;have HC0_1:=A_ hc0_1;clear hr0_1 hc0_1;have HB:=A_ (Below.refl w.heap.size w);have H : ((Aaw.f k a0_0 l0_1).bind fun Ad=>(if Ad = true then ((Ab4.f k a0_0 l0_1).bind fun Ac=>(some Ac)) else (some false))) = some r:=h;clear h;replace H:=Option.bind_eq_some_iff.mp H;obtain ⟨Ad,A20,H⟩:=H;replace H : (if Ad = true then ((Ab4.f k a0_0 l0_1).bind fun Ac=>(some Ac)) else (some false)) = some r:=H;have A2:=A_ A20;clear A20;by_cases c3 : Ad = true
 ·subst c3;have H1 : ((Ab4.f k a0_0 l0_1).bind fun Ac=>(some Ac)) = some r:=by rw [if_pos rfl] at H;exact H
  clear H;have H:=H1;clear H1;replace H:=Option.bind_eq_some_iff.mp H;obtain ⟨Ac,A40,H⟩:=H;replace H : (some Ac) = some r:=H;have A4:=A_ A40;clear A40;obtain rfl:=Option.some.inj H;go_enter Tryd.func136,Tryd.ntmps136
  go_wp2_with (first|((with_reducible refine gate_dst (N:=1) rfl ?_);refine box_event ?hg (N:=1) ?hd (cs:=#[.int .i64 a0_0,.slice A0_1 l0_1.length c0_1]) (t:=28) ?hr ?_;(case hd=>rfl);(case hg=>rfl);(case hr=>go_simp;try rfl);intro Ab hg w5 hbox hb;have Aa:=A_ (hbox);have Ae:=A_ (gw_ (w:=w) hg bb_);have Af:=A_ (gw_ (w:=w) hg bb_);replace HB:=A_ (below_step bb_ hb);clear hb hbox hg;have hcz6_0 : w5.cell? ⟨Ab,0,none⟩ = some (.int .i64 a0_0):=blk_cell Aa.out 0;have hcz6_1 : w5.cell? ⟨Ab,1,none⟩ = some (.slice A0_1 l0_1.length c0_1):=blk_cell Aa.out 1;have hfz6_0:=blk_frozen Aa.out 0;have hfz6_1:=blk_frozen Aa.out 1)|((with_reducible refine gate_callee (f:=142) rfl ?_);refine goesL_ (some 4) rfl rfl Tryd.func142 (by kernel_rfl) rfl #[.agg #[.int .i64 a0_0,.slice A0_1 l0_1.length c0_1]] rfl au_ ?_;(with_reducible refine (Aaw.calls k a0_0 _ _ l0_1 true _ ?side1 ?side2 A2.out).mono ?_);(case side1=>exact cl_ (Kd.C_below HR0_1.out HB.out));(case side2=>exact HC0_1.out);rintro e w7 ⟨rfl,hb⟩;refine ⟨_,rfl,?_⟩;replace Aa:=bz Aa hb;replace HB:=A_ (below_step bb_ hb);(try clear hb);(try clear hb2);(try clear hk);(try clear hi);have hcz8_0 : w7.cell? ⟨Ab,0,none⟩ = some (.int .i64 a0_0):=blk_cell Aa.out 0;have hcz8_1 : w7.cell? ⟨Ab,1,none⟩ = some (.slice A0_1 l0_1.length c0_1):=blk_cell Aa.out 1;have hfz8_0:=blk_frozen Aa.out 0;have hfz8_1:=blk_frozen Aa.out 1)|(go_at_call 204;(with_reducible refine (Ab4.calls k a0_0 _ _ l0_1 Ac _ ?side1 ?side2 A4.out).mono ?_);(case side1=>exact cl_ (Kd.C_below HR0_1.out HB.out));(case side2=>exact HC0_1.out);rintro e w9 ⟨rfl,hb⟩;replace Aa:=bz Aa hb;replace HB:=A_ (below_step bb_ hb);(try clear hb);(try clear hb2);(try clear hk);(try clear hi)))
  go_ret
  exact ⟨by first|rfl|(simp [errW_none,errW_some] <;> rfl)|(simp [*,errW_none,errW_some] <;> rfl),bb_⟩
 ·replace c3:=Bool.eq_false_iff.mpr c3;subst c3;have H1 : (some false) = some r:=by rw [if_neg (show ¬ (false = true) by decide)] at H;exact H
  clear H;have H:=H1;clear H1;obtain rfl:=Option.some.inj H;go_enter Tryd.func136,Tryd.ntmps136
  go_wp2_with (first|((with_reducible refine gate_dst (N:=1) rfl ?_);refine box_event ?hg (N:=1) ?hd (cs:=#[.int .i64 a0_0,.slice A0_1 l0_1.length c0_1]) (t:=28) ?hr ?_;(case hd=>rfl);(case hg=>rfl);(case hr=>go_simp;try rfl);intro Ab hg w10 hbox hb;have Aa:=A_ (hbox);have Ae:=A_ (gw_ (w:=w) hg bb_);have Af:=A_ (gw_ (w:=w) hg bb_);replace HB:=A_ (below_step bb_ hb);clear hb hbox hg;have hcz11_0 : w10.cell? ⟨Ab,0,none⟩ = some (.int .i64 a0_0):=blk_cell Aa.out 0;have hcz11_1 : w10.cell? ⟨Ab,1,none⟩ = some (.slice A0_1 l0_1.length c0_1):=blk_cell Aa.out 1;have hfz11_0:=blk_frozen Aa.out 0;have hfz11_1:=blk_frozen Aa.out 1)|((with_reducible refine gate_callee (f:=142) rfl ?_);refine goesL_ (some 4) rfl rfl Tryd.func142 (by kernel_rfl) rfl #[.agg #[.int .i64 a0_0,.slice A0_1 l0_1.length c0_1]] rfl au_ ?_;(with_reducible refine (Aaw.calls k a0_0 _ _ l0_1 false _ ?side1 ?side2 A2.out).mono ?_);(case side1=>exact cl_ (Kd.C_below HR0_1.out HB.out));(case side2=>exact HC0_1.out);rintro e w12 ⟨rfl,hb⟩;refine ⟨_,rfl,?_⟩;replace Aa:=bz Aa hb;replace HB:=A_ (below_step bb_ hb);(try clear hb);(try clear hb2);(try clear hk);(try clear hi)))
  go_ret
  exact ⟨by first|rfl|(simp [errW_none,errW_some] <;> rfl)|(simp [*,errW_none,errW_some] <;> rfl),bb_⟩
def Ab2.f (a0 : Int) (a1 : Int) : Option (Int) := if a0 > a1 then (some a0) else (some a1)
set_option maxHeartbeats 8000000 in
set_option maxRecDepth 100000 in
theorem Ab2.calls (a0 : Int) (a1 : Int) (r : Int) (w : World) (h : Ab2.f a0 a1 = some r) :
 Calls Tryd.prog 149 #[.int .i64 a0,.int .i64 a1] w fun e w'=>e = .returned (.int .i64 r) ∧ Drawn0 w w':=by
 have H : (if a0 > a1 then (some a0) else (some a1)) = some r:=h;clear h;by_cases c3 : a0 > a1
 ·rw [if_pos c3] at H;have c3b0 : decide (a1 < a0) = true:=decide_eq_true c3;clear c3;obtain rfl:=Option.some.inj H;go_enter Tryd.func149,Tryd.ntmps149
  go_wp2
  go_ret
  exact ⟨by first|rfl|(simp;done)|(simp [*];done),by repeat (first|exact Drawn0.refl _|apply Drawn0.step)⟩
 ·rw [if_neg c3] at H;have c3b0 : decide (a1 < a0) = false:=decide_eq_false c3;clear c3;obtain rfl:=Option.some.inj H;go_enter Tryd.func149,Tryd.ntmps149
  go_wp2
  go_ret
  exact ⟨by first|rfl|(simp;done)|(simp [*];done),by repeat (first|exact Drawn0.refl _|apply Drawn0.step)⟩
def Aaz.l0 : Nat → Int → Int → List Int → Int → Int → Option (Int)
 | 0,_,_,_,_,_=>none
 | k + 1,x1,x5,x9,x10,x11=>if x11 < x10 then (if 0 ≤ x11 then (if x11 < (x9.length : Int) then ((Aap.f (rd x9 x11) x1).bind fun t123=>(if t123 = true then (Aaz.l0 k x1 (Go.bits .or .i64 x5 (shl .i64 1 x11)) x9 x10 (wrap64 (x11 + 1))) else (Aaz.l0 k x1 x5 x9 x10 (wrap64 (x11 + 1))))) else (none)) else (none)) else (some x5)
def Aaz.f (k : Nat) (a0_0 : Int) (l0_1 : List Int) (a1 : Int) : Option (Int) := Aaz.l0 k a1 0 l0_1 (l0_1.length : Int) 0
set_option maxHeartbeats 8000000 in
set_option maxRecDepth 100000 in
theorem Aaz.calls (k : Nat) (a0_0 : Int) (A0_1 : Option Addr) (c0_1 : Nat) (l0_1 : List Int) (a1 : Int) (r : Int) (w : World) (hr0_1 : Kd.C (Kd.int .i64) w A0_1 l0_1.length l0_1) (hc0_1 : l0_1.length ≤ c0_1) (h : Aaz.f k a0_0 l0_1 a1 = some r) :
 Calls Tryd.prog 111 #[.agg #[.int .i64 a0_0,.slice A0_1 l0_1.length c0_1],.int .i64 a1] w fun e w'=>e = .returned (.int .i64 r) ∧ Below w.heap.size w w':=by
 have hu28:=Tryd.underlying28;have HR0_1:=A_ hr0_1;have HC0_1:=A_ hc0_1;clear hr0_1 hc0_1;have HB:=A_ (Below.refl w.heap.size w);have H : (Aaz.l0 k a1 0 l0_1 (l0_1.length : Int) 0) = some r:=h;clear h;have H':=A_ H;clear H;go_enter Tryd.func111,Tryd.ntmps111
 go_wp2_with (first|((with_reducible refine gate_dst (N:=2) rfl ?_);refine box_event ?hg (N:=2) ?hd (cs:=#[.int .i64 a0_0,.slice A0_1 l0_1.length c0_1]) (t:=28) ?hr ?_;(case hd=>rfl);(case hg=>rfl);(case hr=>go_simp;try rfl);intro Ae hg w3 hbox hb;have Ab:=A_ (hbox);have Ai:=A_ (gw_ (w:=w) hg bb_);have Aj:=A_ (gw_ (w:=w) hg bb_);replace HB:=A_ (below_step bb_ hb);clear hb hbox hg;have hcz4_0 : w3.cell? ⟨Ae,0,none⟩ = some (.int .i64 a0_0):=blk_cell Ab.out 0;have hcz4_1 : w3.cell? ⟨Ae,1,none⟩ = some (.slice A0_1 l0_1.length c0_1):=blk_cell Ab.out 1;have hfz4_0:=blk_frozen Ab.out 0;have hfz4_1:=blk_frozen Ab.out 1))
 go_loopg [5,11] k (fun kq v5 v11 w'=>∃ (x5_1 : Int) (x11_1 : Int),v5 = .int .i64 x5_1 ∧ v11 = .int .i64 x11_1 ∧ Aside0 (Aaz.l0 kq a1 x5_1 l0_1 (l0_1.length : Int) x11_1 = some r) ∧ Aside0 (kq ≤ k) ∧ Aside0 (w'.heap[Ae]? = some (.cells #[.int .i64 a0_0,(.slice A0_1 l0_1.length c0_1)] 28 (0,0))) ∧ Aside0 (Below w.heap.size w w'))
 case atStart=>exact ⟨(0),(0),(by first|rfl|(simp;done)|(simp [*];done)),(by first|rfl|(simp;done)|(simp [*];done)),H',⟨Nat.le_refl _⟩,⟨bl_ Ab⟩,⟨bb_⟩⟩
 case round =>
  clear H';try clear c1
  try clear p2
  try clear hcz4_0
  try clear hcz4_1
  try clear hfz4_0
  try clear hfz4_1
  obtain ⟨x5_1,x11_1,rfl,rfl,HA,HK1,Ab,HB⟩:=hrel;cases gk with
  | zero => exact absurd HA.out (by simp [Aaz.l0])
  | succ k1 =>
   have H:=HA.out;clear HA;simp only [Aaz.l0] at H
   by_cases c5 : x11_1 < (l0_1.length : Int)
   ·rw [if_pos c5] at H;have c5b0 : decide (x11_1 < (l0_1.length : Int)) = true:=decide_eq_true c5;clear c5;by_cases c6 : 0 ≤ x11_1
    ·rw [if_pos c6] at H;have c6b0 : decide (0 ≤ x11_1) = true:=decide_eq_true c6;clear c6;by_cases c7 : x11_1 < (l0_1.length : Int)
     ·rw [if_pos c7] at H;have c7b0 : decide (x11_1 < (l0_1.length : Int)) = true:=decide_eq_true c7;clear c7;replace H:=Option.bind_eq_some_iff.mp H;obtain ⟨Ag,A80,H⟩:=H;replace H : (if Ag = true then (Aaz.l0 k1 a1 (Go.bits .or .i64 x5_1 (shl .i64 1 x11_1)) l0_1 (l0_1.length : Int) (wrap64 (x11_1 + 1))) else (Aaz.l0 k1 a1 x5_1 l0_1 (l0_1.length : Int) (wrap64 (x11_1 + 1)))) = some r:=H;have A8:=A_ A80;clear A80;by_cases c9 : Ag = true
      ·subst c9;have H1 : (Aaz.l0 k1 a1 (Go.bits .or .i64 x5_1 (shl .i64 1 x11_1)) l0_1 (l0_1.length : Int) (wrap64 (x11_1 + 1))) = some r:=by rw [if_pos rfl] at H;exact H
       clear H;have H:=H1;clear H1;have c10b0:=eq_true (of_decide_eq_true (by first|(with_reducible assumption)|assumption) : 0 ≤ x11_1);obtain ⟨ji11,hji11⟩ : ∃ j_ : Int,(shl .i64 1 x11_1) = j_:=⟨_,rfl⟩;replace H : (Aaz.l0 k1 a1 (Go.bits .or .i64 x5_1 (ji11)) l0_1 (l0_1.length : Int) (wrap64 (x11_1 + 1))) = some r:=by first|(rw [hji11] at H;exact H)|(simp only [hji11] at H ⊢;exact H)
       (try rw [hji11] at A8);have hji11_ : (IntKind.i64.wrap (1 * 2 ^ min x11_1.toNat 64)) = ji11:=hji11;have hji11z : x11_1 ≤ 64 → (IntKind.i64.wrap (1 * 2 ^ x11_1.toNat)) = ji11:=shl_small hji11;have hji11u : (IntKind.i64.wrap (2 ^ min x11_1.toNat 64)) = ji11:=by have h_:=hji11_;rw [Int.one_mul] at h_;exact h_
       have hji11v : x11_1 ≤ 64 → (IntKind.i64.wrap (2 ^ x11_1.toNat)) = ji11:=fun hle_=>by have h_:=hji11z hle_;rw [Int.one_mul] at h_;exact h_
       have hji11y : (wrap64 (1 * 2 ^ min x11_1.toNat 64)) = ji11:=(i64_w _).symm.trans hji11_;have hji11x : x11_1 ≤ 64 → (wrap64 (1 * 2 ^ x11_1.toNat)) = ji11:=fun h_=>(i64_w _).symm.trans (hji11z h_)
       have H':=A_ H;clear H;have Ac : 0 ≤ (x11_1 : Int):=of_decide_eq_true (by first|(with_reducible assumption)|assumption);have Ad : x11_1 < (l0_1.length : Int):=of_decide_eq_true (by first|(with_reducible assumption)|assumption);obtain ⟨Ah,Af,Aa⟩:=Kd.at_int HR0_1.out x11_1 Ac Ad;cases Af
       (try replace Aa:=(HB.out.cell (World.block_lt_of_cell? w _ Aa)).trans Aa);replace Ac:=eq_true Ac;replace Ad:=eq_true Ad;go_wp2_with (first|((with_reducible refine gate_callee (f:=192) rfl ?_);refine goesL_ (some 18) rfl rfl Tryd.func192 (by kernel_rfl) rfl #[.int .i64 (rd l0_1 x11_1),.int .i64 a1] rfl au_ ?_;(with_reducible refine (Aap.calls (rd l0_1 x11_1) a1 true _ A8.out).mono ?_);rintro e w' ⟨rfl,⟨nd,rfl⟩⟩;refine ⟨_,rfl,?_⟩))
       go_roundg k1
       case measure=>have:=HK1.out;omega
       case rel=>exact ⟨(Go.bits .or .i64 x5_1 (ji11)),(wrap64 (x11_1 + 1)),(by first|rfl|(simp;done)|(simp only [← hji11] <;> (first|rfl|simp))|(simp [*];done)),(by first|rfl|(simp;done)|(simp [*];done)),H',⟨by have:=HK1.out;omega⟩,⟨bl_ Ab⟩,⟨bb_⟩⟩
      ·replace c9:=Bool.eq_false_iff.mpr c9;subst c9;have H1 : (Aaz.l0 k1 a1 x5_1 l0_1 (l0_1.length : Int) (wrap64 (x11_1 + 1))) = some r:=by rw [if_neg (show ¬ (false = true) by decide)] at H;exact H
       clear H;have H:=H1;clear H1;have H':=A_ H;clear H;have Ac : 0 ≤ (x11_1 : Int):=of_decide_eq_true (by first|(with_reducible assumption)|assumption);have Ad : x11_1 < (l0_1.length : Int):=of_decide_eq_true (by first|(with_reducible assumption)|assumption);obtain ⟨Ah,Af,Aa⟩:=Kd.at_int HR0_1.out x11_1 Ac Ad;cases Af
       (try replace Aa:=(HB.out.cell (World.block_lt_of_cell? w _ Aa)).trans Aa);replace Ac:=eq_true Ac;replace Ad:=eq_true Ad;go_wp2_with (first|((with_reducible refine gate_callee (f:=192) rfl ?_);refine goesL_ (some 18) rfl rfl Tryd.func192 (by kernel_rfl) rfl #[.int .i64 (rd l0_1 x11_1),.int .i64 a1] rfl au_ ?_;(with_reducible refine (Aap.calls (rd l0_1 x11_1) a1 false _ A8.out).mono ?_);rintro e w' ⟨rfl,⟨nd,rfl⟩⟩;refine ⟨_,rfl,?_⟩))
       go_roundg k1
       case measure=>have:=HK1.out;omega
       case rel=>exact ⟨(x5_1),(wrap64 (x11_1 + 1)),(by first|rfl|(simp;done)|(simp [*];done)),(by first|rfl|(simp;done)|(simp [*];done)),H',⟨by have:=HK1.out;omega⟩,⟨bl_ Ab⟩,⟨bb_⟩⟩
     ·rw [if_neg c7] at H;exact absurd H (by simp)
    ·rw [if_neg c6] at H;exact absurd H (by simp)
   ·rw [if_neg c5] at H;have c5b0 : decide (x11_1 < (l0_1.length : Int)) = false:=decide_eq_false c5;clear c5;obtain rfl:=Option.some.inj H;go_wp2
    go_ret
    exact ⟨by first|rfl|(simp [errW_none,errW_some] <;> rfl)|(simp [*,errW_none,errW_some] <;> rfl),bb_⟩
def Abf.l0 : Nat → List Int → Int → Int → Option (List Int)
 | 0,_,_,_=>none
 | k + 1,x0,x1,x5=>if x5 < (x0.length : Int) then (if 0 ≤ x5 then (if (rd x0 x5) < x1 then (Abf.l0 k x0 x1 (wrap64 (x5 + 1))) else (if (rd x0 x5) = x1 then (some x0) else ((some (([] : List Int) : List Int)).bind fun y539=>(if x5 ≤ (x0.length : Int) then ((some (x0.take (x5 : Int).toNat : List Int)).bind fun y542=>(if y539.length + y542.length < 17592186044416 then ((some (y539 ++ y542 : List Int)).bind fun y546=>(if y546.length < 17592186044416 then ((some (y546 ++ [x1] : List Int)).bind fun y549=>((some (x0.drop (x5 : Int).toNat : List Int)).bind fun y552=>(if y549.length + y552.length < 17592186044416 then (some (y549 ++ y552)) else (none)))) else (none))) else (none))) else (none))))) else (none)) else ((some (([] : List Int) : List Int)).bind fun y559=>(if 0 ≤ x5 then (if x5 ≤ (x0.length : Int) then ((some (x0.take (x5 : Int).toNat : List Int)).bind fun y562=>(if y559.length + y562.length < 17592186044416 then ((some (y559 ++ y562 : List Int)).bind fun y566=>(if y566.length < 17592186044416 then ((some (y566 ++ [x1] : List Int)).bind fun y569=>((some (x0.drop (x5 : Int).toNat : List Int)).bind fun y572=>(if y569.length + y572.length < 17592186044416 then (some (y569 ++ y572)) else (none)))) else (none))) else (none))) else (none)) else (none)))
def Abf.f (k : Nat) (l0 : List Int) (a1 : Int) : Option (List Int) := Abf.l0 k l0 a1 0
set_option maxHeartbeats 8000000 in
set_option maxRecDepth 100000 in
theorem Abf.calls (k : Nat) (P0_ : Nat → Prop) (Ap : Value) (l0 : List Int) (a1 : Int) (r : List Int) (w0 w : World) (hB : Below w0.heap.size w0 w) (ho0 : Kd.R (Kd.int .i64) 3 w w0.heap.size P0_ Ap l0) (h : Abf.f k l0 a1 = some r) :
 Calls Tryd.prog 193 #[Ap,.int .i64 a1] w fun e w'=>∃ v0_ : Value,e = .returned (v0_) ∧ Kd.R (Kd.int .i64) 3 w' w0.heap.size (fun k_=>(P0_ k_ ∨ w.heap.size ≤ k_)) v0_ r ∧ Below w0.heap.size w0 w' ∧ Kept w w' (fun k_=>P0_ k_):=by
 have HO0:=A_ (show Kd.R (Kd.int .i64) 3 w w0.heap.size (fun k_=>(P0_ k_ ∨ w.heap.size ≤ k_)) Ap l0 from Kd.R_mono ho0 (fun k_ hk=>(.inl hk)));have HK:=A_ (Kept.refl w (fun k_=>P0_ k_));have HW0:=A_ hB.size;have HB:=A_ hB;clear hB;have H : (Abf.l0 k l0 a1 0) = some r:=h;clear h;have H':=A_ H;clear H;go_enter Tryd.func193,Tryd.ntmps193
 go_wp2
 go_loopg [5] k (fun kq v5 w'=>∃ (x5_1 : Int),v5 = .int .i64 x5_1 ∧ Aside0 (Abf.l0 kq l0 a1 x5_1 = some r) ∧ Aside0 (kq ≤ k) ∧ Aside0 (Kd.R (Kd.int .i64) 3 w' w0.heap.size (fun k_=>(P0_ k_ ∨ w.heap.size ≤ k_)) Ap l0) ∧ Aside0 (Kept w w' (fun k_=>P0_ k_)) ∧ Aside0 (Below w0.heap.size w0 w'))
 case atStart=>exact ⟨(0),(by first|rfl|(simp;done)|(simp [*];done)),H',⟨Nat.le_refl _⟩,⟨rl_ HO0⟩,⟨by repeat (first|(with_reducible first|exact HK.out|apply Kept.alloc|apply Kept.drewN|apply Kept.drew)|exact HK.out)⟩,⟨bb_⟩⟩
 case round =>
  clear H';try clear c1
  try clear p2
  obtain ⟨x5_1,rfl,HA,HK1,HO_0,HK,HB⟩:=hrel;cases gk with
  | zero => exact absurd HA.out (by simp [Abf.l0])
  | succ k1 =>
   have H:=HA.out;clear HA;simp only [Abf.l0] at H
   by_cases c3 : x5_1 < (l0.length : Int)
   ·rw [if_pos c3] at H;have c3b0 : decide (x5_1 < (l0.length : Int)) = true:=decide_eq_true c3;clear c3;by_cases c4 : 0 ≤ x5_1
    ·rw [if_pos c4] at H;have c4b0 : decide (0 ≤ x5_1) = true:=decide_eq_true c4;clear c4;by_cases c5 : (rd l0 x5_1) < a1
     ·rw [if_pos c5] at H;have c5b0 : decide ((rd l0 x5_1) < a1) = true:=decide_eq_true c5;clear c5;have H':=A_ H;clear H;obtain ⟨Ao6,co6,eo6⟩:=Kd.R_slice HO_0.out;subst eo6;have Ah : 0 ≤ (x5_1 : Int):=of_decide_eq_true (by first|(with_reducible assumption)|assumption);have Ai : x5_1 < (l0.length : Int):=of_decide_eq_true (by first|(with_reducible assumption)|assumption);obtain ⟨Ac,Bg,Bh⟩:=Kd.at_int (Kd.R_reads' HO_0.out).2.2 x5_1 Ah Ai;cases Bg
      replace Ah:=eq_true Ah;replace Ai:=eq_true Ai;go_wp2
      go_roundg k1
      case measure=>have:=HK1.out;omega
      case rel=>exact ⟨(wrap64 (x5_1 + 1)),(by first|rfl|(simp;done)|(simp [*];done)),H',⟨by have:=HK1.out;omega⟩,⟨rl_ HO_0⟩,⟨by repeat (first|(with_reducible first|exact HK.out|apply Kept.alloc|apply Kept.drewN|apply Kept.drew)|exact HK.out)⟩,⟨bb_⟩⟩
     ·rw [if_neg c5] at H;have c5b0 : decide ((rd l0 x5_1) < a1) = false:=decide_eq_false c5;clear c5;by_cases c7 : (rd l0 x5_1) = a1
      ·rw [if_pos c7] at H;have c7b0 : ((rd l0 x5_1) == a1) = true:=beq_iff_eq.mpr c7;have c7b1 : ((rd l0 x5_1) != a1) = false:=bne_eq_false_iff_eq.mpr c7;clear c7;obtain rfl:=Option.some.inj H;obtain ⟨Ao8,co8,eo8⟩:=Kd.R_slice HO_0.out;subst eo8;have Ah : 0 ≤ (x5_1 : Int):=of_decide_eq_true (by first|(with_reducible assumption)|assumption);have Ai : x5_1 < (l0.length : Int):=of_decide_eq_true (by first|(with_reducible assumption)|assumption);obtain ⟨Ac,Bg,Bh⟩:=Kd.at_int (Kd.R_reads' HO_0.out).2.2 x5_1 Ah Ai;cases Bg
       replace Ah:=eq_true Ah;replace Ai:=eq_true Ai;have Al : 0 ≤ (x5_1 : Int):=of_decide_eq_true (by first|(with_reducible assumption)|assumption);have Am : x5_1 < (l0.length : Int):=of_decide_eq_true (by first|(with_reducible assumption)|assumption);obtain ⟨Bi,Bu,B4⟩:=Kd.at_int (Kd.R_reads' HO_0.out).2.2 x5_1 Al Am;obtain rfl : Ac = Bi:=(by injection Bu);replace Al:=eq_true Al;replace Am:=eq_true Am;go_wp2
       go_ret
       exact ⟨_,by first|rfl|(simp [errW_none,errW_some] <;> rfl)|(simp [*,errW_none,errW_some] <;> rfl),rl_ HO_0,bb_,by repeat (first|(with_reducible first|exact HK.out|apply Kept.alloc|apply Kept.drewN|apply Kept.drew)|exact HK.out)⟩
      ·rw [if_neg c7] at H;have c7b0 : ((rd l0 x5_1) == a1) = false:=beq_eq_false_iff_ne.mpr c7;have c7b1 : ((rd l0 x5_1) != a1) = true:=bne_iff_ne.mpr c7;obtain ⟨An,Aq⟩ : ∃ y_ : List Int,y_ = (([] : List Int)):=⟨_,rfl⟩;replace H : (if x5_1 ≤ (l0.length : Int) then ((some (l0.take (x5_1 : Int).toNat : List Int)).bind fun Ad=>(if An.length + Ad.length < 17592186044416 then ((some (An ++ Ad : List Int)).bind fun Aj=>(if Aj.length < 17592186044416 then ((some (Aj ++ [a1] : List Int)).bind fun Ae=>((some (l0.drop (x5_1 : Int).toNat : List Int)).bind fun Aa=>(if Ae.length + Aa.length < 17592186044416 then (some (Ae ++ Aa)) else (none)))) else (none))) else (none))) else (none)) = some r:=by first|(rw [Aq];with_reducible exact H)|(have H2_:=(Option.bind_some _ _).symm.trans H;rw [Aq];with_reducible exact H2_)|(have H2_:=(Option.bind_some _ _).symm.trans H;with_reducible exact H2_)|with_reducible exact H|(rw [Aq];exact H)|exact H
       have Bw:=A_ Aq;clear Aq;have c9b0:=eq_true (of_decide_eq_true (by first|(with_reducible assumption)|assumption) : 0 ≤ x5_1);by_cases c10 : x5_1 ≤ (l0.length : Int)
       ·rw [if_pos c10] at H;have c10b0:=eq_true c10;have c10b1 : decide (x5_1 ≤ (l0.length : Int)) = true:=decide_eq_true c10;clear c10;obtain ⟨Ad,Ar⟩ : ∃ y_ : List Int,y_ = (l0.take (x5_1 : Int).toNat):=⟨_,rfl⟩;replace H : (if An.length + Ad.length < 17592186044416 then ((some (An ++ Ad : List Int)).bind fun Aj=>(if Aj.length < 17592186044416 then ((some (Aj ++ [a1] : List Int)).bind fun Ae=>((some (l0.drop (x5_1 : Int).toNat : List Int)).bind fun Aa=>(if Ae.length + Aa.length < 17592186044416 then (some (Ae ++ Aa)) else (none)))) else (none))) else (none)) = some r:=by first|(rw [Ar];with_reducible exact H)|(have H2_:=(Option.bind_some _ _).symm.trans H;rw [Ar];with_reducible exact H2_)|(have H2_:=(Option.bind_some _ _).symm.trans H;with_reducible exact H2_)|with_reducible exact H|(rw [Ar];exact H)|exact H
        have As:=A_ Ar;clear Ar;by_cases c11 : An.length + Ad.length < 17592186044416
        ·rw [if_pos c11] at H;have LMc11:=A_ c11;clear c11;obtain ⟨Aj,At⟩ : ∃ y_ : List Int,y_ = (An ++ Ad):=⟨_,rfl⟩;replace H : (if Aj.length < 17592186044416 then ((some (Aj ++ [a1] : List Int)).bind fun Ae=>((some (l0.drop (x5_1 : Int).toNat : List Int)).bind fun Aa=>(if Ae.length + Aa.length < 17592186044416 then (some (Ae ++ Aa)) else (none)))) else (none)) = some r:=by first|(rw [At];with_reducible exact H)|(have H2_:=(Option.bind_some _ _).symm.trans H;rw [At];with_reducible exact H2_)|(have H2_:=(Option.bind_some _ _).symm.trans H;with_reducible exact H2_)|with_reducible exact H|(rw [At];exact H)|exact H
         have B5:=A_ At;clear At;by_cases c12 : Aj.length < 17592186044416
         ·rw [if_pos c12] at H;have LMc12:=A_ c12;clear c12;obtain ⟨Ae,Au⟩ : ∃ y_ : List Int,y_ = (Aj ++ [a1]):=⟨_,rfl⟩;replace H : ((some (l0.drop (x5_1 : Int).toNat : List Int)).bind fun Aa=>(if Ae.length + Aa.length < 17592186044416 then (some (Ae ++ Aa)) else (none))) = some r:=by first|(rw [Au];with_reducible exact H)|(have H2_:=(Option.bind_some _ _).symm.trans H;rw [Au];with_reducible exact H2_)|(have H2_:=(Option.bind_some _ _).symm.trans H;with_reducible exact H2_)|with_reducible exact H|(rw [Au];exact H)|exact H
          have B6:=A_ Au;clear Au;have c13b0:=eq_true (of_decide_eq_true (by first|(with_reducible assumption)|assumption) : 0 ≤ x5_1);have c14b0:=eq_true (of_decide_eq_true (by first|(with_reducible assumption)|assumption) : x5_1 ≤ (l0.length : Int));obtain ⟨Aa,Av⟩ : ∃ y_ : List Int,y_ = (l0.drop (x5_1 : Int).toNat):=⟨_,rfl⟩;replace H : (if Ae.length + Aa.length < 17592186044416 then (some (Ae ++ Aa)) else (none)) = some r:=by first|(rw [Av];with_reducible exact H)|(have H2_:=(Option.bind_some _ _).symm.trans H;rw [Av];with_reducible exact H2_)|(have H2_:=(Option.bind_some _ _).symm.trans H;with_reducible exact H2_)|with_reducible exact H|(rw [Av];exact H)|exact H
          have Bj:=A_ Av;clear Av;by_cases c15 : Ae.length + Aa.length < 17592186044416
          ·rw [if_pos c15] at H;have LMc15:=A_ c15;clear c15;obtain ⟨Ce,Aw⟩ : ∃ y_ : List Int,y_ = (Ae ++ Aa):=⟨_,rfl⟩;replace H : (some Ce) = some r:=by first|(rw [Aw];with_reducible exact H)|(have H2_:=(Option.bind_some _ _).symm.trans H;rw [Aw];with_reducible exact H2_)|(have H2_:=(Option.bind_some _ _).symm.trans H;with_reducible exact H2_)|with_reducible exact H|(rw [Aw];exact H)|exact H
           have B7:=A_ Aw;clear Aw;obtain rfl:=Option.some.inj H;obtain ⟨Ao16,co16,eo16⟩:=Kd.R_slice HO_0.out;subst eo16;have Ah : 0 ≤ (x5_1 : Int):=of_decide_eq_true (by first|(with_reducible assumption)|assumption);have Ai : x5_1 < (l0.length : Int):=of_decide_eq_true (by first|(with_reducible assumption)|assumption);obtain ⟨Ac,Bg,Bh⟩:=Kd.at_int (Kd.R_reads' HO_0.out).2.2 x5_1 Ah Ai;cases Bg
           replace Ah:=eq_true Ah;replace Ai:=eq_true Ai;have Al : 0 ≤ (x5_1 : Int):=of_decide_eq_true (by first|(with_reducible assumption)|assumption);have Am : x5_1 < (l0.length : Int):=of_decide_eq_true (by first|(with_reducible assumption)|assumption);obtain ⟨Bi,Bu,B4⟩:=Kd.at_int (Kd.R_reads' HO_0.out).2.2 x5_1 Al Am;obtain rfl : Ac = Bi:=(by injection Bu);replace Al:=eq_true Al;replace Am:=eq_true Am;go_wp2_with (first|((with_reducible refine gate_dst (N:=34) rfl ?_);refine Kd.R_lit (Kd.int .i64) _ 3 ?hg (N:=34) ?hd (xs:=([] : List Int)) (inner:=[]) (ok:=fun _=>True) (okp:=fun _=>True) ?hr ?hp (fun _ hk=>hk) trivial (Below.refl _ _) (Nat.le_refl _) (by simp) ?_;(case hd=>rfl);(case hg=>rfl);(case hr=>go_simp;try rfl);(case hp=>exact (Reps.none _ _));intro Cf w17 ho18 hb hg_ hnew_;clear hg_ hnew_;(first|rw [← Bw.out] at ho18|(simp only [Int.reduceToNat] at ho18;rw [← Bw.out] at ho18));have Bk:=A_ (Kd.R_lower (Kd.R_new' (Kd.R_newM (M:=fun k_=>(P0_ k_ ∨ w.heap.size ≤ k_)) ho18 (by first|exact HK.out.1|exact (show Kept w _ (fun k_=>P0_ k_) from by repeat (first|(with_reducible first|exact HK.out|apply Kept.alloc|apply Kept.drewN|apply Kept.drew)|exact HK.out)).1) (fun k_ h_=>.inr h_)) (Kd.R_lt (rl_ HO_0))) (below_size bb_));replace HO_0:=A_ (Kd.R_elder' (rl_ HO_0) (Kd.R_base ho18) hb);replace HK:=A_ (Kept.below (S:=(fun k_=>P0_ k_)) (by repeat (with_reducible first|exact HK.out|apply Kept.alloc|apply Kept.drewN|apply Kept.drew)) hb);replace HB:=A_ (below_step bb_ hb);clear hb ho18;have q19 : (x5_1 : Int) ≤ ((l0.length : Int) : Int):=of_decide_eq_true (by first|(with_reducible assumption)|assumption);obtain ⟨Cs,Bx,_,hsz19,_⟩:=info_parts info3;have hroom19 : l0.length ≤ co16:=(Kd.R_reads' HO_0.out).2.1;have hC19 : Kd.C (Kd.int .i64) _ (some Ac) l0.length l0:=(Kd.R_reads' HO_0.out).2.2;have hcut19:=cut_to (P:=Tryd.prog) 22 3 .i64 Tryd.underlying22 Bx (some Ac) l0.length co16 x5_1 (of_decide_eq_true (by first|(with_reducible assumption)|assumption)) q19 hroom19;have hr19:=Kd.C_take (m:=(x5_1 : Int).toNat) hC19 (by omega);have hy19 : Ad.length = (x5_1 : Int).toNat:=(by rw [As.out,U_];omega);rw [← As.out] at hr19;rw [← hy19] at hcut19;have Ax:=A_ hr19;have Co:=A_ (show Ad.length ≤ co16 from by omega);clear hr19 hC19 hroom19 Bx hsz19;have KY19:=A_ hy19;clear hy19;have KL19:=A_ (show (x5_1 : Int).toNat ≤ l0.length from by omega);replace q19:=eq_true q19)|((with_reducible refine gate_builtin (b:=.append) (xs:=#[.tmp 34,.tmp 37]) rfl ?_);at_builtin;refine Kd.R_append_rows (Kd.int .i64) (w0:=w0) w0.heap.size rfl (.tmp 34) (.tmp 37) 22 3 (.int .i64 0) 8 rfl Tryd.underlying22 info3 rfl (by decide) (by omega) Cf An Ad _ _ _ (fun k_=>(P0_ k_ ∨ w.heap.size ≤ k_) ∧ some k_ ≠ (.slice (some Ac) l0.length co16 : Value).ownBlock) (fun _=>False) rfl rfl ?aO ?aR (fun _ _ h=>h) (fun _ h=>h.elim) ?aF ?aB ?aS ?aL ?_;(case aR=>repeat (first|exact (by repeat (first|(with_reducible exact Ax.out)|(with_reducible refine Kd.C_alloc ?_ _)|(with_reducible refine Kd.C_drewN ?_ _)|(with_reducible refine Kd.C_drew ?_)|exact Ax.out))|(with_reducible refine Kd.C_alloc ?_ _)|(with_reducible refine Kd.C_drewN ?_ _)|(with_reducible refine Kd.C_drew ?_)));(case aB=>exact bb_);(case aF=>exact (fun k_ hk=>⟨(.inr (Nat.le_trans (by first|exact HK.out.1|exact (show Kept w _ (fun k_=>P0_ k_) from by repeat (first|(with_reducible first|exact HK.out|apply Kept.alloc|apply Kept.drewN|apply Kept.drew)|exact HK.out)).1) hk)),Kd.fresh' (Kd.R_lt (rl_ HO_0)) k_ hk⟩));(case aO=>exact (rq_ (Kd.R_mono Bk.out (fun _ hk=>⟨hk.1.1,hk.2⟩))));(case aS=>exact (below_size bb_));(case aL=>have:=LMc11.out;omega);intro Cg w20 ho hb hg hat;rw [← B5.out] at ho;replace HB:=A_ (hb);replace HK:=A_ (Kept.of_grown (S:=(fun k_=>P0_ k_)) hg (by repeat (with_reducible first|exact HK.out|apply Kept.alloc|apply Kept.drewN|apply Kept.drew)) (fun k_ e_=>(Bk.out.1 k_ e_).1.1));replace Ax:=A_ ((show Kd.C (Kd.int .i64) w20 (some Ac) Ad.length Ad from by rw [As.out];exact Kd.C_take (m:=(x5_1 : Int).toNat) ((Kd.R_reads' (Kd.R_after (ok:=(fun k_=>(P0_ k_ ∨ w.heap.size ≤ k_))) (rl_ HO_0) hg hat)).2.2) KL19.out));replace HO_0:=A_ (Kd.R_after (ok:=(fun k_=>(P0_ k_ ∨ w.heap.size ≤ k_))) (rl_ HO_0) hg hat);have Bl:=A_ (ho);clear Bk;clear ho hb hg hat)|((with_reducible refine gate_builtin (b:=.append) (xs:=#[.tmp 39,.tmp 41]) rfl ?_);at_builtin;refine Kd.R_append (Kd.int .i64) (w0:=w0) w0.heap.size rfl (.tmp 39) (.tmp 41) 22 3 (.int .i64 0) 8 rfl Tryd.underlying22 info3 rfl (by decide) (by omega) Cg Aj a1 [.int .i64 a1] (fun k_=>(P0_ k_ ∨ w.heap.size ≤ k_) ∧ some k_ ≠ (.slice (some Ac) l0.length co16 : Value).ownBlock) (fun _=>False) rfl rfl ?aP (fun _ hk=>hk.elim) ?aF ?aO ?aB ?aS ?aL ?_;(case aP=>exact rfl);(case aB=>exact bb_);(case aF=>exact (fun k_ hk=>⟨(.inr (Nat.le_trans (by first|exact HK.out.1|exact (show Kept w _ (fun k_=>P0_ k_) from by repeat (first|(with_reducible first|exact HK.out|apply Kept.alloc|apply Kept.drewN|apply Kept.drew)|exact HK.out)).1) hk)),Kd.fresh' (Kd.R_lt (rl_ HO_0)) k_ hk⟩));(case aO=>exact (rl_ Bl));(case aS=>exact (below_size bb_));(case aL=>have:=LMc12.out;omega);intro Ch w21 ho hb hg hat;rw [← B6.out] at ho;replace HB:=A_ (hb);replace HK:=A_ (Kept.of_grown (S:=(fun k_=>P0_ k_)) hg (by repeat (with_reducible first|exact HK.out|apply Kept.alloc|apply Kept.drewN|apply Kept.drew)) (fun k_ e_=>(Bl.out.1 k_ e_).1));replace Ax:=A_ ((show Kd.C (Kd.int .i64) w21 (some Ac) Ad.length Ad from by rw [As.out];exact Kd.C_take (m:=(x5_1 : Int).toNat) ((Kd.R_reads' (Kd.R_after (ok:=(fun k_=>(P0_ k_ ∨ w.heap.size ≤ k_))) (rl_ HO_0) hg hat)).2.2) KL19.out));replace HO_0:=A_ (Kd.R_after (ok:=(fun k_=>(P0_ k_ ∨ w.heap.size ≤ k_))) (rl_ HO_0) hg hat);have Bm:=A_ (ho);clear Bl;clear ho hb hg hat;have q22 : (x5_1 : Int) ≤ ((l0.length : Int) : Int):=of_decide_eq_true (by first|(with_reducible assumption)|assumption);obtain ⟨Ct,Bz,_,hsz22,_⟩:=info_parts info3;have hroom22 : l0.length ≤ co16:=(Kd.R_reads' HO_0.out).2.1;have hC22 : Kd.C (Kd.int .i64) _ (some Ac) l0.length l0:=(Kd.R_reads' HO_0.out).2.2;have Ci : (0 : Int) ≤ (x5_1 : Int):=of_decide_eq_true (by first|(with_reducible assumption)|assumption);have hcut22:=cut_from (P:=Tryd.prog) 22 3 .i64 Tryd.underlying22 Bz 1 hsz22 (some Ac) l0.length co16 x5_1 Ci q22;have hr22:=Kd.C_drop (m:=(x5_1 : Int).toNat) (c:=co16) hC22 (by omega) hroom22;obtain ⟨A22,hA22⟩ : ∃ A1,A1 = (if co16 = (x5_1 : Int).toNat then (some Ac) else ((some Ac) : Option Addr).map (·.add ((x5_1 : Int).toNat * 1))):=⟨_,rfl⟩;obtain ⟨c22,hc22⟩ : ∃ c1,c1 = co16 - (x5_1 : Int).toNat:=⟨_,rfl⟩;have hy22 : Aa.length = l0.length - (x5_1 : Int).toNat:=(by rw [Bj.out,S_] <;> omega);rw [show (l0).drop (x5_1 : Int).toNat = Aa from Bj.out.symm] at hr22;replace hr22 : Kd.C (Kd.int .i64) _ A22 Aa.length Aa:=(by rw [hA22];exact hr22);rw [← hy22,← hA22,← hc22] at hcut22;have Bn:=A_ hr22;have Cp:=A_ (show Aa.length ≤ c22 from by rw [hy22,hc22];exact Nat.sub_le_sub_right hroom22 _);clear hr22 hC22 hroom22 Bz hsz22 hc22;have KY22:=A_ hy22;have KA22:=A_ hA22;clear hy22 hA22;have KL22:=A_ (show (x5_1 : Int).toNat ≤ l0.length from by omega);replace q22:=eq_true q22)|((with_reducible refine gate_builtin (b:=.append) (xs:=#[.tmp 43,.tmp 46]) rfl ?_);at_builtin;refine Kd.R_append_rows (Kd.int .i64) (w0:=w0) w0.heap.size rfl (.tmp 43) (.tmp 46) 22 3 (.int .i64 0) 8 rfl Tryd.underlying22 info3 rfl (by decide) (by omega) Ch Ae Aa _ _ _ (fun k_=>(P0_ k_ ∨ w.heap.size ≤ k_) ∧ some k_ ≠ (.slice (some Ac) l0.length co16 : Value).ownBlock) (fun _=>False) rfl rfl ?aO ?aR (fun _ _ h=>h) (fun _ h=>h.elim) ?aF ?aB ?aS ?aL ?_;(case aR=>repeat (first|exact (by repeat (first|(with_reducible exact Bn.out)|(with_reducible refine Kd.C_alloc ?_ _)|(with_reducible refine Kd.C_drewN ?_ _)|(with_reducible refine Kd.C_drew ?_)|exact Bn.out))|(with_reducible refine Kd.C_alloc ?_ _)|(with_reducible refine Kd.C_drewN ?_ _)|(with_reducible refine Kd.C_drew ?_)));(case aB=>exact bb_);(case aF=>exact (fun k_ hk=>⟨(.inr (Nat.le_trans (by first|exact HK.out.1|exact (show Kept w _ (fun k_=>P0_ k_) from by repeat (first|(with_reducible first|exact HK.out|apply Kept.alloc|apply Kept.drewN|apply Kept.drew)|exact HK.out)).1) hk)),Kd.fresh' (Kd.R_lt (rl_ HO_0)) k_ hk⟩));(case aO=>exact (rl_ Bm));(case aS=>exact (below_size bb_));(case aL=>have:=LMc15.out;omega);intro Cu w23 ho hb hg hat;rw [← B7.out] at ho;replace HB:=A_ (hb);replace HK:=A_ (Kept.of_grown (S:=(fun k_=>P0_ k_)) hg (by repeat (with_reducible first|exact HK.out|apply Kept.alloc|apply Kept.drewN|apply Kept.drew)) (fun k_ e_=>(Bm.out.1 k_ e_).1));replace Ax:=A_ ((show Kd.C (Kd.int .i64) w23 (some Ac) Ad.length Ad from by rw [As.out];exact Kd.C_take (m:=(x5_1 : Int).toNat) ((Kd.R_reads' (Kd.R_after (ok:=(fun k_=>(P0_ k_ ∨ w.heap.size ≤ k_))) (rl_ HO_0) hg hat)).2.2) KL19.out));replace Bn:=A_ ((show Kd.C (Kd.int .i64) w23 A22 Aa.length Aa from by rw [Bj.out,KA22.out];exact Kd.C_drop (m:=(x5_1 : Int).toNat) (c:=co16) ((Kd.R_reads' (Kd.R_after (ok:=(fun k_=>(P0_ k_ ∨ w.heap.size ≤ k_))) (rl_ HO_0) hg hat)).2.2) KL22.out ((Kd.R_reads' (Kd.R_after (ok:=(fun k_=>(P0_ k_ ∨ w.heap.size ≤ k_))) (rl_ HO_0) hg hat)).2.1)));replace HO_0:=A_ (Kd.R_after (ok:=(fun k_=>(P0_ k_ ∨ w.heap.size ≤ k_))) (rl_ HO_0) hg hat);have B8:=A_ (ho);clear Bm;clear ho hb hg hat))
           go_ret
           exact ⟨_,by first|rfl|(simp [errW_none,errW_some] <;> rfl)|(simp [*,errW_none,errW_some] <;> rfl),rq_ (Kd.R_mono B8.out (fun _ hk=>hk.1)),bb_,by repeat (first|(with_reducible first|exact HK.out|apply Kept.alloc|apply Kept.drewN|apply Kept.drew)|exact HK.out)⟩
          ·rw [if_neg c15] at H;exact absurd H (by simp)
         ·rw [if_neg c12] at H;exact absurd H (by simp)
        ·rw [if_neg c11] at H;exact absurd H (by simp)
       ·rw [if_neg c10] at H;exact absurd H (by simp)
    ·rw [if_neg c4] at H;exact absurd H (by simp)
   ·rw [if_neg c3] at H;have c3b0 : decide (x5_1 < (l0.length : Int)) = false:=decide_eq_false c3;clear c3;obtain ⟨Ao,Ay⟩ : ∃ y_ : List Int,y_ = (([] : List Int)):=⟨_,rfl⟩;replace H : (if 0 ≤ x5_1 then (if x5_1 ≤ (l0.length : Int) then ((some (l0.take (x5_1 : Int).toNat : List Int)).bind fun Af=>(if Ao.length + Af.length < 17592186044416 then ((some (Ao ++ Af : List Int)).bind fun Ak=>(if Ak.length < 17592186044416 then ((some (Ak ++ [a1] : List Int)).bind fun Ag=>((some (l0.drop (x5_1 : Int).toNat : List Int)).bind fun Ab=>(if Ag.length + Ab.length < 17592186044416 then (some (Ag ++ Ab)) else (none)))) else (none))) else (none))) else (none)) else (none)) = some r:=by first|(rw [Ay];with_reducible exact H)|(have H2_:=(Option.bind_some _ _).symm.trans H;rw [Ay];with_reducible exact H2_)|(have H2_:=(Option.bind_some _ _).symm.trans H;with_reducible exact H2_)|with_reducible exact H|(rw [Ay];exact H)|exact H
    have B0:=A_ Ay;clear Ay;by_cases c24 : 0 ≤ x5_1
    ·rw [if_pos c24] at H;have c24b0:=eq_true c24;have c24b1 : decide (0 ≤ x5_1) = true:=decide_eq_true c24;clear c24;by_cases c25 : x5_1 ≤ (l0.length : Int)
     ·rw [if_pos c25] at H;have c25b0:=eq_true c25;have c25b1 : decide (x5_1 ≤ (l0.length : Int)) = true:=decide_eq_true c25;clear c25;obtain ⟨Af,Az⟩ : ∃ y_ : List Int,y_ = (l0.take (x5_1 : Int).toNat):=⟨_,rfl⟩;replace H : (if Ao.length + Af.length < 17592186044416 then ((some (Ao ++ Af : List Int)).bind fun Ak=>(if Ak.length < 17592186044416 then ((some (Ak ++ [a1] : List Int)).bind fun Ag=>((some (l0.drop (x5_1 : Int).toNat : List Int)).bind fun Ab=>(if Ag.length + Ab.length < 17592186044416 then (some (Ag ++ Ab)) else (none)))) else (none))) else (none)) = some r:=by first|(rw [Az];with_reducible exact H)|(have H2_:=(Option.bind_some _ _).symm.trans H;rw [Az];with_reducible exact H2_)|(have H2_:=(Option.bind_some _ _).symm.trans H;with_reducible exact H2_)|with_reducible exact H|(rw [Az];exact H)|exact H
      have Ba:=A_ Az;clear Az;by_cases c26 : Ao.length + Af.length < 17592186044416
      ·rw [if_pos c26] at H;have LMc26:=A_ c26;clear c26;obtain ⟨Ak,Bb⟩ : ∃ y_ : List Int,y_ = (Ao ++ Af):=⟨_,rfl⟩;replace H : (if Ak.length < 17592186044416 then ((some (Ak ++ [a1] : List Int)).bind fun Ag=>((some (l0.drop (x5_1 : Int).toNat : List Int)).bind fun Ab=>(if Ag.length + Ab.length < 17592186044416 then (some (Ag ++ Ab)) else (none)))) else (none)) = some r:=by first|(rw [Bb];with_reducible exact H)|(have H2_:=(Option.bind_some _ _).symm.trans H;rw [Bb];with_reducible exact H2_)|(have H2_:=(Option.bind_some _ _).symm.trans H;with_reducible exact H2_)|with_reducible exact H|(rw [Bb];exact H)|exact H
       have Ca:=A_ Bb;clear Bb;by_cases c27 : Ak.length < 17592186044416
       ·rw [if_pos c27] at H;have LMc27:=A_ c27;clear c27;obtain ⟨Ag,Bc⟩ : ∃ y_ : List Int,y_ = (Ak ++ [a1]):=⟨_,rfl⟩;replace H : ((some (l0.drop (x5_1 : Int).toNat : List Int)).bind fun Ab=>(if Ag.length + Ab.length < 17592186044416 then (some (Ag ++ Ab)) else (none))) = some r:=by first|(rw [Bc];with_reducible exact H)|(have H2_:=(Option.bind_some _ _).symm.trans H;rw [Bc];with_reducible exact H2_)|(have H2_:=(Option.bind_some _ _).symm.trans H;with_reducible exact H2_)|with_reducible exact H|(rw [Bc];exact H)|exact H
        have Cb:=A_ Bc;clear Bc;have c28b0:=eq_true (of_decide_eq_true (by first|(with_reducible assumption)|assumption) : 0 ≤ x5_1);have c29b0:=eq_true (of_decide_eq_true (by first|(with_reducible assumption)|assumption) : x5_1 ≤ (l0.length : Int));obtain ⟨Ab,Bd⟩ : ∃ y_ : List Int,y_ = (l0.drop (x5_1 : Int).toNat):=⟨_,rfl⟩;replace H : (if Ag.length + Ab.length < 17592186044416 then (some (Ag ++ Ab)) else (none)) = some r:=by first|(rw [Bd];with_reducible exact H)|(have H2_:=(Option.bind_some _ _).symm.trans H;rw [Bd];with_reducible exact H2_)|(have H2_:=(Option.bind_some _ _).symm.trans H;with_reducible exact H2_)|with_reducible exact H|(rw [Bd];exact H)|exact H
        have Bo:=A_ Bd;clear Bd;by_cases c30 : Ag.length + Ab.length < 17592186044416
        ·rw [if_pos c30] at H;have LMc30:=A_ c30;clear c30;obtain ⟨Cj,Be⟩ : ∃ y_ : List Int,y_ = (Ag ++ Ab):=⟨_,rfl⟩;replace H : (some Cj) = some r:=by first|(rw [Be];with_reducible exact H)|(have H2_:=(Option.bind_some _ _).symm.trans H;rw [Be];with_reducible exact H2_)|(have H2_:=(Option.bind_some _ _).symm.trans H;with_reducible exact H2_)|with_reducible exact H|(rw [Be];exact H)|exact H
         have Cc:=A_ Be;clear Be;obtain rfl:=Option.some.inj H;obtain ⟨Ao31,co31,eo31⟩:=Kd.R_slice HO_0.out;subst eo31;go_wp2_with (first|((with_reducible refine gate_dst (N:=34) rfl ?_);refine Kd.R_lit (Kd.int .i64) _ 3 ?hg (N:=34) ?hd (xs:=([] : List Int)) (inner:=[]) (ok:=fun _=>True) (okp:=fun _=>True) ?hr ?hp (fun _ hk=>hk) trivial (Below.refl _ _) (Nat.le_refl _) (by simp) ?_;(case hd=>rfl);(case hg=>rfl);(case hr=>go_simp;try rfl);(case hp=>exact (Reps.none _ _));intro Ck w32 ho33 hb hg_ hnew_;clear hg_ hnew_;(first|rw [← B0.out] at ho33|(simp only [Int.reduceToNat] at ho33;rw [← B0.out] at ho33));have Bp:=A_ (Kd.R_lower (Kd.R_new' (Kd.R_newM (M:=fun k_=>(P0_ k_ ∨ w.heap.size ≤ k_)) ho33 (by first|exact HK.out.1|exact (show Kept w _ (fun k_=>P0_ k_) from by repeat (first|(with_reducible first|exact HK.out|apply Kept.alloc|apply Kept.drewN|apply Kept.drew)|exact HK.out)).1) (fun k_ h_=>.inr h_)) (Kd.R_lt (rl_ HO_0))) (below_size bb_));replace HO_0:=A_ (Kd.R_elder' (rl_ HO_0) (Kd.R_base ho33) hb);replace HK:=A_ (Kept.below (S:=(fun k_=>P0_ k_)) (by repeat (with_reducible first|exact HK.out|apply Kept.alloc|apply Kept.drewN|apply Kept.drew)) hb);replace HB:=A_ (below_step bb_ hb);clear hb ho33;have q34 : (x5_1 : Int) ≤ ((l0.length : Int) : Int):=of_decide_eq_true (by first|(with_reducible assumption)|assumption);obtain ⟨Cv,B1,_,hsz34,_⟩:=info_parts info3;have hroom34 : l0.length ≤ co31:=(Kd.R_reads' HO_0.out).2.1;have hC34 : Kd.C (Kd.int .i64) _ Ao31 l0.length l0:=(Kd.R_reads' HO_0.out).2.2;have hcut34:=cut_to (P:=Tryd.prog) 22 3 .i64 Tryd.underlying22 B1 Ao31 l0.length co31 x5_1 (of_decide_eq_true (by first|(with_reducible assumption)|assumption)) q34 hroom34;have hr34:=Kd.C_take (m:=(x5_1 : Int).toNat) hC34 (by omega);have hy34 : Af.length = (x5_1 : Int).toNat:=(by rw [Ba.out,U_];omega);rw [← Ba.out] at hr34;rw [← hy34] at hcut34;have Bf:=A_ hr34;have Cq:=A_ (show Af.length ≤ co31 from by omega);clear hr34 hC34 hroom34 B1 hsz34;have KY34:=A_ hy34;clear hy34;have KL34:=A_ (show (x5_1 : Int).toNat ≤ l0.length from by omega);replace q34:=eq_true q34)|((with_reducible refine gate_builtin (b:=.append) (xs:=#[.tmp 34,.tmp 37]) rfl ?_);at_builtin;refine Kd.R_append_rows (Kd.int .i64) (w0:=w0) w0.heap.size rfl (.tmp 34) (.tmp 37) 22 3 (.int .i64 0) 8 rfl Tryd.underlying22 info3 rfl (by decide) (by omega) Ck Ao Af _ _ _ (fun k_=>(P0_ k_ ∨ w.heap.size ≤ k_) ∧ some k_ ≠ (.slice Ao31 l0.length co31 : Value).ownBlock) (fun _=>False) rfl rfl ?aO ?aR (fun _ _ h=>h) (fun _ h=>h.elim) ?aF ?aB ?aS ?aL ?_;(case aR=>repeat (first|exact (by repeat (first|(with_reducible exact Bf.out)|(with_reducible refine Kd.C_alloc ?_ _)|(with_reducible refine Kd.C_drewN ?_ _)|(with_reducible refine Kd.C_drew ?_)|exact Bf.out))|(with_reducible refine Kd.C_alloc ?_ _)|(with_reducible refine Kd.C_drewN ?_ _)|(with_reducible refine Kd.C_drew ?_)));(case aB=>exact bb_);(case aF=>exact (fun k_ hk=>⟨(.inr (Nat.le_trans (by first|exact HK.out.1|exact (show Kept w _ (fun k_=>P0_ k_) from by repeat (first|(with_reducible first|exact HK.out|apply Kept.alloc|apply Kept.drewN|apply Kept.drew)|exact HK.out)).1) hk)),Kd.fresh' (Kd.R_lt (rl_ HO_0)) k_ hk⟩));(case aO=>exact (rq_ (Kd.R_mono Bp.out (fun _ hk=>⟨hk.1.1,hk.2⟩))));(case aS=>exact (below_size bb_));(case aL=>have:=LMc26.out;omega);intro Cl w35 ho hb hg hat;rw [← Ca.out] at ho;replace HB:=A_ (hb);replace HK:=A_ (Kept.of_grown (S:=(fun k_=>P0_ k_)) hg (by repeat (with_reducible first|exact HK.out|apply Kept.alloc|apply Kept.drewN|apply Kept.drew)) (fun k_ e_=>(Bp.out.1 k_ e_).1.1));replace Bf:=A_ ((show Kd.C (Kd.int .i64) w35 Ao31 Af.length Af from by rw [Ba.out];exact Kd.C_take (m:=(x5_1 : Int).toNat) ((Kd.R_reads' (Kd.R_after (ok:=(fun k_=>(P0_ k_ ∨ w.heap.size ≤ k_))) (rl_ HO_0) hg hat)).2.2) KL34.out));replace HO_0:=A_ (Kd.R_after (ok:=(fun k_=>(P0_ k_ ∨ w.heap.size ≤ k_))) (rl_ HO_0) hg hat);have Bq:=A_ (ho);clear Bp;clear ho hb hg hat)|((with_reducible refine gate_builtin (b:=.append) (xs:=#[.tmp 39,.tmp 41]) rfl ?_);at_builtin;refine Kd.R_append (Kd.int .i64) (w0:=w0) w0.heap.size rfl (.tmp 39) (.tmp 41) 22 3 (.int .i64 0) 8 rfl Tryd.underlying22 info3 rfl (by decide) (by omega) Cl Ak a1 [.int .i64 a1] (fun k_=>(P0_ k_ ∨ w.heap.size ≤ k_) ∧ some k_ ≠ (.slice Ao31 l0.length co31 : Value).ownBlock) (fun _=>False) rfl rfl ?aP (fun _ hk=>hk.elim) ?aF ?aO ?aB ?aS ?aL ?_;(case aP=>exact rfl);(case aB=>exact bb_);(case aF=>exact (fun k_ hk=>⟨(.inr (Nat.le_trans (by first|exact HK.out.1|exact (show Kept w _ (fun k_=>P0_ k_) from by repeat (first|(with_reducible first|exact HK.out|apply Kept.alloc|apply Kept.drewN|apply Kept.drew)|exact HK.out)).1) hk)),Kd.fresh' (Kd.R_lt (rl_ HO_0)) k_ hk⟩));(case aO=>exact (rl_ Bq));(case aS=>exact (below_size bb_));(case aL=>have:=LMc27.out;omega);intro Cm w36 ho hb hg hat;rw [← Cb.out] at ho;replace HB:=A_ (hb);replace HK:=A_ (Kept.of_grown (S:=(fun k_=>P0_ k_)) hg (by repeat (with_reducible first|exact HK.out|apply Kept.alloc|apply Kept.drewN|apply Kept.drew)) (fun k_ e_=>(Bq.out.1 k_ e_).1));replace Bf:=A_ ((show Kd.C (Kd.int .i64) w36 Ao31 Af.length Af from by rw [Ba.out];exact Kd.C_take (m:=(x5_1 : Int).toNat) ((Kd.R_reads' (Kd.R_after (ok:=(fun k_=>(P0_ k_ ∨ w.heap.size ≤ k_))) (rl_ HO_0) hg hat)).2.2) KL34.out));replace HO_0:=A_ (Kd.R_after (ok:=(fun k_=>(P0_ k_ ∨ w.heap.size ≤ k_))) (rl_ HO_0) hg hat);have Br:=A_ (ho);clear Bq;clear ho hb hg hat;have q37 : (x5_1 : Int) ≤ ((l0.length : Int) : Int):=of_decide_eq_true (by first|(with_reducible assumption)|assumption);obtain ⟨Cw,B2,_,hsz37,_⟩:=info_parts info3;have hroom37 : l0.length ≤ co31:=(Kd.R_reads' HO_0.out).2.1;have hC37 : Kd.C (Kd.int .i64) _ Ao31 l0.length l0:=(Kd.R_reads' HO_0.out).2.2;have Cn : (0 : Int) ≤ (x5_1 : Int):=of_decide_eq_true (by first|(with_reducible assumption)|assumption);have hcut37:=cut_from (P:=Tryd.prog) 22 3 .i64 Tryd.underlying22 B2 1 hsz37 Ao31 l0.length co31 x5_1 Cn q37;have hr37:=Kd.C_drop (m:=(x5_1 : Int).toNat) (c:=co31) hC37 (by omega) hroom37;obtain ⟨A37,hA37⟩ : ∃ A1,A1 = (if co31 = (x5_1 : Int).toNat then Ao31 else (Ao31 : Option Addr).map (·.add ((x5_1 : Int).toNat * 1))):=⟨_,rfl⟩;obtain ⟨c37,hc37⟩ : ∃ c1,c1 = co31 - (x5_1 : Int).toNat:=⟨_,rfl⟩;have hy37 : Ab.length = l0.length - (x5_1 : Int).toNat:=(by rw [Bo.out,S_] <;> omega);rw [show (l0).drop (x5_1 : Int).toNat = Ab from Bo.out.symm] at hr37;replace hr37 : Kd.C (Kd.int .i64) _ A37 Ab.length Ab:=(by rw [hA37];exact hr37);rw [← hy37,← hA37,← hc37] at hcut37;have Bt:=A_ hr37;have Cr:=A_ (show Ab.length ≤ c37 from by rw [hy37,hc37];exact Nat.sub_le_sub_right hroom37 _);clear hr37 hC37 hroom37 B2 hsz37 hc37;have KY37:=A_ hy37;have KA37:=A_ hA37;clear hy37 hA37;have KL37:=A_ (show (x5_1 : Int).toNat ≤ l0.length from by omega);replace q37:=eq_true q37)|((with_reducible refine gate_builtin (b:=.append) (xs:=#[.tmp 43,.tmp 46]) rfl ?_);at_builtin;refine Kd.R_append_rows (Kd.int .i64) (w0:=w0) w0.heap.size rfl (.tmp 43) (.tmp 46) 22 3 (.int .i64 0) 8 rfl Tryd.underlying22 info3 rfl (by decide) (by omega) Cm Ag Ab _ _ _ (fun k_=>(P0_ k_ ∨ w.heap.size ≤ k_) ∧ some k_ ≠ (.slice Ao31 l0.length co31 : Value).ownBlock) (fun _=>False) rfl rfl ?aO ?aR (fun _ _ h=>h) (fun _ h=>h.elim) ?aF ?aB ?aS ?aL ?_;(case aR=>repeat (first|exact (by repeat (first|(with_reducible exact Bt.out)|(with_reducible refine Kd.C_alloc ?_ _)|(with_reducible refine Kd.C_drewN ?_ _)|(with_reducible refine Kd.C_drew ?_)|exact Bt.out))|(with_reducible refine Kd.C_alloc ?_ _)|(with_reducible refine Kd.C_drewN ?_ _)|(with_reducible refine Kd.C_drew ?_)));(case aB=>exact bb_);(case aF=>exact (fun k_ hk=>⟨(.inr (Nat.le_trans (by first|exact HK.out.1|exact (show Kept w _ (fun k_=>P0_ k_) from by repeat (first|(with_reducible first|exact HK.out|apply Kept.alloc|apply Kept.drewN|apply Kept.drew)|exact HK.out)).1) hk)),Kd.fresh' (Kd.R_lt (rl_ HO_0)) k_ hk⟩));(case aO=>exact (rl_ Br));(case aS=>exact (below_size bb_));(case aL=>have:=LMc30.out;omega);intro Cx w38 ho hb hg hat;rw [← Cc.out] at ho;replace HB:=A_ (hb);replace HK:=A_ (Kept.of_grown (S:=(fun k_=>P0_ k_)) hg (by repeat (with_reducible first|exact HK.out|apply Kept.alloc|apply Kept.drewN|apply Kept.drew)) (fun k_ e_=>(Br.out.1 k_ e_).1));replace Bf:=A_ ((show Kd.C (Kd.int .i64) w38 Ao31 Af.length Af from by rw [Ba.out];exact Kd.C_take (m:=(x5_1 : Int).toNat) ((Kd.R_reads' (Kd.R_after (ok:=(fun k_=>(P0_ k_ ∨ w.heap.size ≤ k_))) (rl_ HO_0) hg hat)).2.2) KL34.out));replace Bt:=A_ ((show Kd.C (Kd.int .i64) w38 A37 Ab.length Ab from by rw [Bo.out,KA37.out];exact Kd.C_drop (m:=(x5_1 : Int).toNat) (c:=co31) ((Kd.R_reads' (Kd.R_after (ok:=(fun k_=>(P0_ k_ ∨ w.heap.size ≤ k_))) (rl_ HO_0) hg hat)).2.2) KL37.out ((Kd.R_reads' (Kd.R_after (ok:=(fun k_=>(P0_ k_ ∨ w.heap.size ≤ k_))) (rl_ HO_0) hg hat)).2.1)));replace HO_0:=A_ (Kd.R_after (ok:=(fun k_=>(P0_ k_ ∨ w.heap.size ≤ k_))) (rl_ HO_0) hg hat);have Cd:=A_ (ho);clear Br;clear ho hb hg hat))
         go_ret
         exact ⟨_,by first|rfl|(simp [errW_none,errW_some] <;> rfl)|(simp [*,errW_none,errW_some] <;> rfl),rq_ (Kd.R_mono Cd.out (fun _ hk=>hk.1)),bb_,by repeat (first|(with_reducible first|exact HK.out|apply Kept.alloc|apply Kept.drewN|apply Kept.drew)|exact HK.out)⟩
        ·rw [if_neg c30] at H;exact absurd H (by simp)
       ·rw [if_neg c27] at H;exact absurd H (by simp)
      ·rw [if_neg c26] at H;exact absurd H (by simp)
     ·rw [if_neg c25] at H;exact absurd H (by simp)
    ·rw [if_neg c24] at H;exact absurd H (by simp)
mutual
def Aal.l0 : Nat → List Int → Int → Int → Int → List Int → Option (List Int)
 | 0,_,_,_,_,_=>none
 | k + 1,x3,x12,x13,x1258000,x1258001=>if x13 < x12 then ((Aaz.f k x1258000 x1258001 x13).bind fun t1258=>((Abf.f k x3 t1258).bind fun t1259=>(Aal.l0 k t1259 x12 (wrap64 (x13 + 1)) x1258000 x1258001))) else (Aal.l1 k x3 ([] : List Int) (x1258001.length : Int) 0 x1258000 x1258001)
def Aal.l1 : Nat → List Int → List Int → Int → Int → Int → List Int → Option (List Int)
 | 0,_,_,_,_,_,_=>none
 | k + 1,x3,x5,x24,x25,x1258000,x1258001=>if x25 < x24 then (Aal.l2 k x3 x5 x25 0 x24 x25 x3 (x3.length : Int) 0 x1258000 x1258001) else (some x5)
def Aal.l2 : Nat → List Int → List Int → Int → Int → Int → Int → List Int → Int → Int → Int → List Int → Option (List Int)
 | 0,_,_,_,_,_,_,_,_,_,_,_=>none
 | k + 1,x3,x5,x6,x7,x24,x25,x28,x29,x30,x1258000,x1258001=>if x30 < x29 then (if 0 ≤ x30 then (if x30 < (x28.length : Int) then ((Aaz.f k x1258000 x1258001 x6).bind fun t1266=>(if (rd x28 x30) = t1266 then (Aal.l2 k x3 x5 x6 x7 x24 x25 x28 x29 (wrap64 (x30 + 1)) x1258000 x1258001) else ((Aaz.f k x1258000 x1258001 x6).bind fun t1267=>(if (Go.bits .andNot .i64 (rd x28 x30) t1267) = 0 then (Aal.l2 k x3 x5 x6 (wrap64 (x7 + 1)) x24 x25 x28 x29 (wrap64 (x30 + 1)) x1258000 x1258001) else (Aal.l2 k x3 x5 x6 x7 x24 x25 x28 x29 (wrap64 (x30 + 1)) x1258000 x1258001))))) else (none)) else (none)) else (if x5.length < 17592186044416 then (Aal.l1 k x3 (x5 ++ [x7]) x24 (wrap64 (x25 + 1)) x1258000 x1258001) else (none))
end
def Aal.f (k : Nat) (a0_0 : Int) (l0_1 : List Int) : Option (List Int) := Aal.l0 k ([] : List Int) (l0_1.length : Int) 0 a0_0 l0_1
set_option maxHeartbeats 8000000 in
set_option maxRecDepth 100000 in
theorem Aal.calls (k : Nat) (a0_0 : Int) (A0_1 : Option Addr) (c0_1 : Nat) (l0_1 : List Int) (r : List Int) (w : World) (hr0_1 : Kd.C (Kd.int .i64) w A0_1 l0_1.length l0_1) (hc0_1 : l0_1.length ≤ c0_1) (h : Aal.f k a0_0 l0_1 = some r) :
 Calls Tryd.prog 182 #[.agg #[.int .i64 a0_0,.slice A0_1 l0_1.length c0_1]] w fun e w'=>∃ v0_ : Value,e = .returned (v0_) ∧ Kd.R (Kd.int .i64) 3 w' w.heap.size (fun _=>True) v0_ r ∧ Below w.heap.size w w':=by
 have hu28:=Tryd.underlying28;have HR0_1:=A_ hr0_1;have HC0_1:=A_ hc0_1;clear hr0_1 hc0_1;have HB:=A_ (Below.refl w.heap.size w);have H : (Aal.l0 k ([] : List Int) (l0_1.length : Int) 0 a0_0 l0_1) = some r:=h;clear h;have H':=A_ H;clear H;go_enter Tryd.func182,Tryd.ntmps182
 go_wp2_with (first|((with_reducible refine gate_dst (N:=1) rfl ?_);refine box_event ?hg (N:=1) ?hd (cs:=#[.int .i64 a0_0,.slice A0_1 l0_1.length c0_1]) (t:=28) ?hr ?_;(case hd=>rfl);(case hg=>rfl);(case hr=>go_simp;try rfl);intro Ab hg w2 hbox hb;have Aa:=A_ (hbox);have As:=A_ (gw_ (w:=w) hg bb_);have At:=A_ (gw_ (w:=w) hg bb_);replace HB:=A_ (below_step bb_ hb);clear hb hbox hg;have hcz3_0 : w2.cell? ⟨Ab,0,none⟩ = some (.int .i64 a0_0):=blk_cell Aa.out 0;have hcz3_1 : w2.cell? ⟨Ab,1,none⟩ = some (.slice A0_1 l0_1.length c0_1):=blk_cell Aa.out 1;have hfz3_0:=blk_frozen Aa.out 0;have hfz3_1:=blk_frozen Aa.out 1))
 go_loopg [3,13] k (fun kq v3 v13 w'=>∃ (x3_1 : List Int) (x13_1 : Int),v13 = .int .i64 x13_1 ∧ Aside0 (Aal.l0 kq x3_1 (l0_1.length : Int) x13_1 a0_0 l0_1 = some r) ∧ Aside0 (kq ≤ k) ∧ Aside0 (Kd.R (Kd.int .i64) 3 w' w.heap.size (fun _=>True) v3 x3_1) ∧ Aside0 (w'.heap[Ab]? = some (.cells #[.int .i64 a0_0,(.slice A0_1 l0_1.length c0_1)] 28 (0,0))) ∧ Aside0 (Below w.heap.size w w'))
 case atStart=>exact ⟨(([] : List Int)),(0),(by first|rfl|(simp;done)|(simp [*];done)),H',⟨Nat.le_refl _⟩,⟨by first|exact Kd.R_nil _ _ _ _ _|exact Kd.N_nil _ _ _ _ _|exact Kd.V_nil _ _ _ _ _|exact Kd.Q_nil _ _ _ _ _|exact Kd.S_nil _ _ _ _ _⟩,⟨bl_ Aa⟩,⟨bb_⟩⟩
 case round =>
  clear H';try clear c1
  try clear p2
  try clear hcz3_0
  try clear hcz3_1
  try clear hfz3_0
  try clear hfz3_1
  obtain ⟨x3_1,x13_1,rfl,HA,HK1,HO_3,Aa,HB⟩:=hrel;cases gk with
  | zero => exact absurd HA.out (by simp [Aal.l0])
  | succ k1 =>
   have H:=HA.out;clear HA;simp only [Aal.l0] at H
   by_cases c4 : x13_1 < (l0_1.length : Int)
   ·rw [if_pos c4] at H;have c4b0 : decide (x13_1 < (l0_1.length : Int)) = true:=decide_eq_true c4;clear c4;replace H:=Option.bind_eq_some_iff.mp H;obtain ⟨Aj,A50,H⟩:=H;replace H : ((Abf.f k1 x3_1 Aj).bind fun Ah=>(Aal.l0 k1 Ah (l0_1.length : Int) (wrap64 (x13_1 + 1)) a0_0 l0_1)) = some r:=H;have A5:=A_ A50;clear A50;replace H:=Option.bind_eq_some_iff.mp H;obtain ⟨Ah,A60,H⟩:=H;replace H : (Aal.l0 k1 Ah (l0_1.length : Int) (wrap64 (x13_1 + 1)) a0_0 l0_1) = some r:=H;have A6:=A_ A60;clear A60;have H':=A_ H;clear H;have hcz7_0 : wr.cell? ⟨Ab,0,none⟩ = some (.int .i64 a0_0):=blk_cell Aa.out 0;have hcz7_1 : wr.cell? ⟨Ab,1,none⟩ = some (.slice A0_1 l0_1.length c0_1):=blk_cell Aa.out 1;have hfz7_0:=blk_frozen Aa.out 0;have hfz7_1:=blk_frozen Aa.out 1;go_wp2_with (first|((with_reducible refine gate_callee (f:=111) rfl ?_);refine goesL_ (some 19) rfl rfl Tryd.func111 (by kernel_rfl) rfl #[.agg #[.int .i64 a0_0,.slice A0_1 l0_1.length c0_1],.int .i64 x13_1] rfl au_ ?_;(with_reducible refine (Aaz.calls k1 a0_0 _ _ l0_1 x13_1 Aj _ ?side1 ?side2 A5.out).mono ?_);(case side1=>exact cl_ (Kd.C_below HR0_1.out HB.out));(case side2=>exact HC0_1.out);rintro e w8 ⟨rfl,hb⟩;refine ⟨_,rfl,?_⟩;replace HO_3:=rb_ HO_3 hb;replace Aa:=bz Aa hb;replace HB:=A_ (below_step bb_ hb);(try clear hb);(try clear hb2);(try clear hk);(try clear hi);obtain ⟨Ao9,co9,eo9⟩:=Kd.R_slice HO_3.out;subst eo9)|((with_reducible refine gate_callee (f:=193) rfl ?_);refine goesL_ (some 20) rfl rfl Tryd.func193 (by kernel_rfl) rfl #[.slice Ao9 x3_1.length co9,.int .i64 Aj] rfl au_ ?_;(with_reducible refine (Abf.calls k1 (fun k_=>some k_ = (.slice Ao9 x3_1.length co9 : Value).ownBlock) (.slice Ao9 x3_1.length co9) x3_1 Aj Ah w _ ?side1 ?side2 A6.out).mono ?_);(case side1=>repeat (first|(with_reducible first|exact HB.out|apply below_alloc|apply pw_below_drewN|apply below_drew1|refine below_set ?_ (Aside0.out (by assumption)))|exact HB.out));(case side2=>exact Kd.R_tight rfl HO_3.out);rintro e w10 ⟨Au,rfl,ho0,hb,hkp⟩;refine ⟨_,rfl,?_⟩;replace Aa:=A_ (blk_kept (bl_ Aa) hkp (fun hs_=>(fun e_=>(Kd.R_ne HO_3.out Aa.out (by decide)) e_) hs_));have An:=A_ (Kd.R_mono (ok':=fun k_=>True) ho0 (fun k_ hk_=>trivial));replace HB:=A_ (hb);clear HO_3;(try clear hb);(try clear hkp);(try clear ho0)))
    go_roundg k1
    case measure=>have:=HK1.out;omega
    case rel=>exact ⟨(Ah),(wrap64 (x13_1 + 1)),(by first|rfl|(simp;done)|(simp [*];done)),H',⟨by have:=HK1.out;omega⟩,⟨rl_ An⟩,⟨bl_ Aa⟩,⟨bb_⟩⟩
   ·rw [if_neg c4] at H;have c4b0 : decide (x13_1 < (l0_1.length : Int)) = false:=decide_eq_false c4;clear c4;have H':=A_ H;clear H;have hcz11_0 : wr.cell? ⟨Ab,0,none⟩ = some (.int .i64 a0_0):=blk_cell Aa.out 0;have hcz11_1 : wr.cell? ⟨Ab,1,none⟩ = some (.slice A0_1 l0_1.length c0_1):=blk_cell Aa.out 1;have hfz11_0:=blk_frozen Aa.out 0;have hfz11_1:=blk_frozen Aa.out 1;go_wp2
    go_loopg [5,25] k1 (fun kq v5 v25 w'=>∃ (x5_2 : List Int) (x25_2 : Int),v25 = .int .i64 x25_2 ∧ Aside0 (Aal.l1 kq x3_1 x5_2 (l0_1.length : Int) x25_2 a0_0 l0_1 = some r) ∧ Aside0 (kq ≤ k1) ∧ Aside0 (Kd.R (Kd.int .i64) 3 w' w.heap.size (fun k_=>some k_ ≠ (v5 : Value).ownBlock) u3 x3_1) ∧ Aside0 (Kd.R (Kd.int .i64) 3 w' w.heap.size (fun k_=>some k_ ≠ (u3 : Value).ownBlock) v5 x5_2) ∧ Aside0 (w'.heap[Ab]? = some (.cells #[.int .i64 a0_0,(.slice A0_1 l0_1.length c0_1)] 28 (0,0))) ∧ Aside0 (Below w.heap.size w w'))
    case atStart=>exact ⟨(([] : List Int)),(0),(by first|rfl|(simp;done)|(simp [*];done)),H',⟨Nat.le_refl _⟩,⟨rq_ (Kd.R_mono HO_3.out (fun _ hk=>(by simp [Value.ownBlock])))⟩,⟨by first|exact Kd.R_nil _ _ _ _ _|exact Kd.N_nil _ _ _ _ _|exact Kd.V_nil _ _ _ _ _|exact Kd.Q_nil _ _ _ _ _|exact Kd.S_nil _ _ _ _ _⟩,⟨bl_ Aa⟩,⟨bb_⟩⟩
    case round =>
     clear H';try clear c1
     try clear p2
     try clear c4
     try clear c4b0
     try clear p6
     try clear c11
     try clear hcz11_0
     try clear hcz11_1
     try clear hcz3_0
     try clear hcz3_1
     try clear hcz7_0
     try clear hcz7_1
     try clear hfz11_0
     try clear hfz11_1
     try clear hfz3_0
     try clear hfz3_1
     try clear hfz7_0
     try clear hfz7_1
     try clear p2
     obtain ⟨x5_2,x25_2,rfl,HA,HK2,HO_3,HO_5,Aa,HB⟩:=hrel;cases gk with
     | zero=>exact absurd HA.out (by simp [Aal.l1])
     | succ k2 =>
      have H:=HA.out;clear HA;simp only [Aal.l1] at H
      by_cases c12 : x25_2 < (l0_1.length : Int)
      ·rw [if_pos c12] at H;have c12b0 : decide (x25_2 < (l0_1.length : Int)) = true:=decide_eq_true c12;clear c12;have H':=A_ H;clear H;obtain ⟨Ao13,co13,eo13⟩:=Kd.R_slice HO_3.out;subst eo13;go_wp2
       go_loopg [7,30] k2 (fun kq v7 v30 w'=>∃ (x7_3 : Int) (x30_3 : Int),v7 = .int .i64 x7_3 ∧ v30 = .int .i64 x30_3 ∧ Aside0 (Aal.l2 kq x3_1 x5_2 x25_2 x7_3 (l0_1.length : Int) x25_2 x3_1 (x3_1.length : Int) x30_3 a0_0 l0_1 = some r) ∧ Aside0 (kq ≤ k2) ∧ Aside0 (Kd.R (Kd.int .i64) 3 w' w.heap.size (fun k_=>some k_ ≠ (u5 : Value).ownBlock) (.slice Ao13 x3_1.length co13) x3_1) ∧ Aside0 (Kd.R (Kd.int .i64) 3 w' w.heap.size (fun k_=>some k_ ≠ ((.slice Ao13 x3_1.length co13) : Value).ownBlock ∧ some k_ ≠ ((.slice Ao13 x3_1.length co13) : Value).ownBlock) u5 x5_2) ∧ Aside0 (Kd.R (Kd.int .i64) 3 w' w.heap.size (fun k_=>some k_ ≠ (u5 : Value).ownBlock) (.slice Ao13 x3_1.length co13) x3_1) ∧ Aside0 (w'.heap[Ab]? = some (.cells #[.int .i64 a0_0,(.slice A0_1 l0_1.length c0_1)] 28 (0,0))) ∧ Aside0 (Below w.heap.size w w'))
       case atStart=>exact ⟨(0),(0),(by first|rfl|(simp;done)|(simp [*];done)),(by first|rfl|(simp;done)|(simp [*];done)),H',⟨Nat.le_refl _⟩,⟨rl_ HO_3⟩,⟨rq_ (Kd.R_mono HO_5.out (fun _ hk=>⟨hk,hk⟩))⟩,⟨rl_ HO_3⟩,⟨bl_ Aa⟩,⟨bb_⟩⟩
       case round =>
        clear H';try clear c1
        try clear p2
        try clear c4
        try clear c4b0
        try clear p6
        try clear c11
        try clear c12
        try clear c12b0
        try clear hcz11_0
        try clear hcz11_1
        try clear hcz3_0
        try clear hcz3_1
        try clear hcz7_0
        try clear hcz7_1
        try clear hfz11_0
        try clear hfz11_1
        try clear hfz3_0
        try clear hfz3_1
        try clear hfz7_0
        try clear hfz7_1
        try clear p2
        try clear p6
        obtain ⟨x7_3,x30_3,rfl,rfl,HA,HK3,HO_3,HO_5,HO_28,Aa,HB⟩:=hrel;cases gk with
        | zero=>exact absurd HA.out (by simp [Aal.l2])
        | succ k3 =>
         have H:=HA.out;clear HA;simp only [Aal.l2] at H
         by_cases c14 : x30_3 < (x3_1.length : Int)
         ·rw [if_pos c14] at H;have c14b0 : decide (x30_3 < (x3_1.length : Int)) = true:=decide_eq_true c14;clear c14;by_cases c15 : 0 ≤ x30_3
          ·rw [if_pos c15] at H;have c15b0 : decide (0 ≤ x30_3) = true:=decide_eq_true c15;clear c15;by_cases c16 : x30_3 < (x3_1.length : Int)
           ·rw [if_pos c16] at H;have c16b0 : decide (x30_3 < (x3_1.length : Int)) = true:=decide_eq_true c16;clear c16;replace H:=Option.bind_eq_some_iff.mp H;obtain ⟨Af,Ao,H⟩:=H;replace H : (if (rd x3_1 x30_3) = Af then (Aal.l2 k3 x3_1 x5_2 x25_2 x7_3 (l0_1.length : Int) x25_2 x3_1 (x3_1.length : Int) (wrap64 (x30_3 + 1)) a0_0 l0_1) else ((Aaz.f k3 a0_0 l0_1 x25_2).bind fun Ae=>(if (Go.bits .andNot .i64 (rd x3_1 x30_3) Ae) = 0 then (Aal.l2 k3 x3_1 x5_2 x25_2 (wrap64 (x7_3 + 1)) (l0_1.length : Int) x25_2 x3_1 (x3_1.length : Int) (wrap64 (x30_3 + 1)) a0_0 l0_1) else (Aal.l2 k3 x3_1 x5_2 x25_2 x7_3 (l0_1.length : Int) x25_2 x3_1 (x3_1.length : Int) (wrap64 (x30_3 + 1)) a0_0 l0_1)))) = some r:=H;have A17:=A_ Ao;clear Ao;by_cases c18 : (rd x3_1 x30_3) = Af
            ·rw [if_pos c18] at H;have c18b0 : ((rd x3_1 x30_3) == Af) = true:=beq_iff_eq.mpr c18;have c18b1 : ((rd x3_1 x30_3) != Af) = false:=bne_eq_false_iff_eq.mpr c18;clear c18;have H':=A_ H;clear H;have Ac : 0 ≤ (x30_3 : Int):=of_decide_eq_true (by first|(with_reducible assumption)|assumption);have Ad : x30_3 < (x3_1.length : Int):=of_decide_eq_true (by first|(with_reducible assumption)|assumption);obtain ⟨Al,Ai,Ak⟩:=Kd.at_int (Kd.R_reads' HO_28.out).2.2 x30_3 Ac Ad;cases Ai
             replace Ac:=eq_true Ac;replace Ad:=eq_true Ad;have hcz19_0 : wr.cell? ⟨Ab,0,none⟩ = some (.int .i64 a0_0):=blk_cell Aa.out 0;have hcz19_1 : wr.cell? ⟨Ab,1,none⟩ = some (.slice A0_1 l0_1.length c0_1):=blk_cell Aa.out 1;have hfz19_0:=blk_frozen Aa.out 0;have hfz19_1:=blk_frozen Aa.out 1;go_wp2_with (first|((with_reducible refine gate_callee (f:=111) rfl ?_);refine goesL_ (some 37) rfl rfl Tryd.func111 (by kernel_rfl) rfl #[.agg #[.int .i64 a0_0,.slice A0_1 l0_1.length c0_1],.int .i64 x25_2] rfl au_ ?_;(with_reducible refine (Aaz.calls k3 a0_0 _ _ l0_1 x25_2 Af _ ?side1 ?side2 A17.out).mono ?_);(case side1=>exact cl_ (Kd.C_below HR0_1.out HB.out));(case side2=>exact HC0_1.out);rintro e w20 ⟨rfl,hb⟩;refine ⟨_,rfl,?_⟩;replace HO_3:=rb_ HO_3 hb;replace HO_5:=rb_ HO_5 hb;replace HO_28:=rb_ HO_28 hb;replace Aa:=bz Aa hb;replace HB:=A_ (below_step bb_ hb);(try clear hb);(try clear hb2);(try clear hk);(try clear hi)))
             go_roundg k3
             case measure=>have:=HK1.out;have:=HK2.out;have:=HK3.out;omega
             case rel=>exact ⟨(x7_3),(wrap64 (x30_3 + 1)),(by first|rfl|(simp;done)|(simp [*];done)),(by first|rfl|(simp;done)|(simp [*];done)),H',⟨by have:=HK1.out;have:=HK2.out;have:=HK3.out;omega⟩,⟨rl_ HO_3⟩,⟨rl_ HO_5⟩,⟨rl_ HO_28⟩,⟨bl_ Aa⟩,⟨bb_⟩⟩
            ·rw [if_neg c18] at H;have c18b0 : ((rd x3_1 x30_3) == Af) = false:=beq_eq_false_iff_ne.mpr c18;have c18b1 : ((rd x3_1 x30_3) != Af) = true:=bne_iff_ne.mpr c18;replace H:=Option.bind_eq_some_iff.mp H;obtain ⟨Ae,Ap,H⟩:=H;replace H : (if (Go.bits .andNot .i64 (rd x3_1 x30_3) Ae) = 0 then (Aal.l2 k3 x3_1 x5_2 x25_2 (wrap64 (x7_3 + 1)) (l0_1.length : Int) x25_2 x3_1 (x3_1.length : Int) (wrap64 (x30_3 + 1)) a0_0 l0_1) else (Aal.l2 k3 x3_1 x5_2 x25_2 x7_3 (l0_1.length : Int) x25_2 x3_1 (x3_1.length : Int) (wrap64 (x30_3 + 1)) a0_0 l0_1)) = some r:=H;have A21:=A_ Ap;clear Ap;by_cases c22 : (Go.bits .andNot .i64 (rd x3_1 x30_3) Ae) = 0
             ·rw [if_pos c22] at H;have c22b0 : ((Go.bits .andNot .i64 (rd x3_1 x30_3) Ae) == 0) = true:=beq_iff_eq.mpr c22;have c22b1 : ((Go.bits .andNot .i64 (rd x3_1 x30_3) Ae) != 0) = false:=bne_eq_false_iff_eq.mpr c22;clear c22;have H':=A_ H;clear H;have Ac : 0 ≤ (x30_3 : Int):=of_decide_eq_true (by first|(with_reducible assumption)|assumption);have Ad : x30_3 < (x3_1.length : Int):=of_decide_eq_true (by first|(with_reducible assumption)|assumption);obtain ⟨Al,Ai,Ak⟩:=Kd.at_int (Kd.R_reads' HO_28.out).2.2 x30_3 Ac Ad;cases Ai
              replace Ac:=eq_true Ac;replace Ad:=eq_true Ad;have hcz23_0 : wr.cell? ⟨Ab,0,none⟩ = some (.int .i64 a0_0):=blk_cell Aa.out 0;have hcz23_1 : wr.cell? ⟨Ab,1,none⟩ = some (.slice A0_1 l0_1.length c0_1):=blk_cell Aa.out 1;have hfz23_0:=blk_frozen Aa.out 0;have hfz23_1:=blk_frozen Aa.out 1;go_wp2_with (first|((with_reducible refine gate_callee (f:=111) rfl ?_);refine goesL_ (some 37) rfl rfl Tryd.func111 (by kernel_rfl) rfl #[.agg #[.int .i64 a0_0,.slice A0_1 l0_1.length c0_1],.int .i64 x25_2] rfl au_ ?_;(with_reducible refine (Aaz.calls k3 a0_0 _ _ l0_1 x25_2 Af _ ?side1 ?side2 A17.out).mono ?_);(case side1=>exact cl_ (Kd.C_below HR0_1.out HB.out));(case side2=>exact HC0_1.out);rintro e w24 ⟨rfl,hb⟩;refine ⟨_,rfl,?_⟩;replace HO_3:=rb_ HO_3 hb;replace HO_5:=rb_ HO_5 hb;replace HO_28:=rb_ HO_28 hb;replace Aa:=bz Aa hb;replace HB:=A_ (below_step bb_ hb);(try clear hb);(try clear hb2);(try clear hk);(try clear hi);have hcz25_0 : w24.cell? ⟨Ab,0,none⟩ = some (.int .i64 a0_0):=blk_cell Aa.out 0;have hcz25_1 : w24.cell? ⟨Ab,1,none⟩ = some (.slice A0_1 l0_1.length c0_1):=blk_cell Aa.out 1;have hfz25_0:=blk_frozen Aa.out 0;have hfz25_1:=blk_frozen Aa.out 1)|(go_at_call 111;(with_reducible refine (Aaz.calls k3 a0_0 _ _ l0_1 x25_2 Ae _ ?side1 ?side2 A21.out).mono ?_);(case side1=>exact cl_ (Kd.C_below HR0_1.out HB.out));(case side2=>exact HC0_1.out);rintro e w26 ⟨rfl,hb⟩;replace HO_3:=rb_ HO_3 hb;replace HO_5:=rb_ HO_5 hb;replace HO_28:=rb_ HO_28 hb;replace Aa:=bz Aa hb;replace HB:=A_ (below_step bb_ hb);(try clear hb);(try clear hb2);(try clear hk);(try clear hi)))
              go_roundg k3
              case measure=>have:=HK1.out;have:=HK2.out;have:=HK3.out;omega
              case rel=>exact ⟨(wrap64 (x7_3 + 1)),(wrap64 (x30_3 + 1)),(by first|rfl|(simp;done)|(simp [*];done)),(by first|rfl|(simp;done)|(simp [*];done)),H',⟨by have:=HK1.out;have:=HK2.out;have:=HK3.out;omega⟩,⟨rl_ HO_3⟩,⟨rl_ HO_5⟩,⟨rl_ HO_28⟩,⟨bl_ Aa⟩,⟨bb_⟩⟩
             ·rw [if_neg c22] at H;have c22b0 : ((Go.bits .andNot .i64 (rd x3_1 x30_3) Ae) == 0) = false:=beq_eq_false_iff_ne.mpr c22;have c22b1 : ((Go.bits .andNot .i64 (rd x3_1 x30_3) Ae) != 0) = true:=bne_iff_ne.mpr c22;have H':=A_ H;clear H;have Ac : 0 ≤ (x30_3 : Int):=of_decide_eq_true (by first|(with_reducible assumption)|assumption);have Ad : x30_3 < (x3_1.length : Int):=of_decide_eq_true (by first|(with_reducible assumption)|assumption);obtain ⟨Al,Ai,Ak⟩:=Kd.at_int (Kd.R_reads' HO_28.out).2.2 x30_3 Ac Ad;cases Ai
              replace Ac:=eq_true Ac;replace Ad:=eq_true Ad;have hcz27_0 : wr.cell? ⟨Ab,0,none⟩ = some (.int .i64 a0_0):=blk_cell Aa.out 0;have hcz27_1 : wr.cell? ⟨Ab,1,none⟩ = some (.slice A0_1 l0_1.length c0_1):=blk_cell Aa.out 1;have hfz27_0:=blk_frozen Aa.out 0;have hfz27_1:=blk_frozen Aa.out 1;go_wp2_with (first|((with_reducible refine gate_callee (f:=111) rfl ?_);refine goesL_ (some 37) rfl rfl Tryd.func111 (by kernel_rfl) rfl #[.agg #[.int .i64 a0_0,.slice A0_1 l0_1.length c0_1],.int .i64 x25_2] rfl au_ ?_;(with_reducible refine (Aaz.calls k3 a0_0 _ _ l0_1 x25_2 Af _ ?side1 ?side2 A17.out).mono ?_);(case side1=>exact cl_ (Kd.C_below HR0_1.out HB.out));(case side2=>exact HC0_1.out);rintro e w28 ⟨rfl,hb⟩;refine ⟨_,rfl,?_⟩;replace HO_3:=rb_ HO_3 hb;replace HO_5:=rb_ HO_5 hb;replace HO_28:=rb_ HO_28 hb;replace Aa:=bz Aa hb;replace HB:=A_ (below_step bb_ hb);(try clear hb);(try clear hb2);(try clear hk);(try clear hi);have hcz29_0 : w28.cell? ⟨Ab,0,none⟩ = some (.int .i64 a0_0):=blk_cell Aa.out 0;have hcz29_1 : w28.cell? ⟨Ab,1,none⟩ = some (.slice A0_1 l0_1.length c0_1):=blk_cell Aa.out 1;have hfz29_0:=blk_frozen Aa.out 0;have hfz29_1:=blk_frozen Aa.out 1)|(go_at_call 111;(with_reducible refine (Aaz.calls k3 a0_0 _ _ l0_1 x25_2 Ae _ ?side1 ?side2 A21.out).mono ?_);(case side1=>exact cl_ (Kd.C_below HR0_1.out HB.out));(case side2=>exact HC0_1.out);rintro e w30 ⟨rfl,hb⟩;replace HO_3:=rb_ HO_3 hb;replace HO_5:=rb_ HO_5 hb;replace HO_28:=rb_ HO_28 hb;replace Aa:=bz Aa hb;replace HB:=A_ (below_step bb_ hb);(try clear hb);(try clear hb2);(try clear hk);(try clear hi)))
              go_roundg k3
              case measure=>have:=HK1.out;have:=HK2.out;have:=HK3.out;omega
              case rel=>exact ⟨(x7_3),(wrap64 (x30_3 + 1)),(by first|rfl|(simp;done)|(simp [*];done)),(by first|rfl|(simp;done)|(simp [*];done)),H',⟨by have:=HK1.out;have:=HK2.out;have:=HK3.out;omega⟩,⟨rl_ HO_3⟩,⟨rl_ HO_5⟩,⟨rl_ HO_28⟩,⟨bl_ Aa⟩,⟨bb_⟩⟩
           ·rw [if_neg c16] at H;exact absurd H (by simp)
          ·rw [if_neg c15] at H;exact absurd H (by simp)
         ·rw [if_neg c14] at H;have c14b0 : decide (x30_3 < (x3_1.length : Int)) = false:=decide_eq_false c14;clear c14;by_cases c31 : x5_2.length < 17592186044416
          ·rw [if_pos c31] at H;have LMc31:=A_ c31;clear c31;obtain ⟨Am,Ag⟩ : ∃ y_ : List Int,y_ = (x5_2 ++ [x7_3]):=⟨_,rfl⟩;replace H : (Aal.l1 k3 x3_1 Am (l0_1.length : Int) (wrap64 (x25_2 + 1)) a0_0 l0_1) = some r:=by first|(rw [Ag];with_reducible exact H)|(have H2_:=(Option.bind_some _ _).symm.trans H;rw [Ag];with_reducible exact H2_)|(have H2_:=(Option.bind_some _ _).symm.trans H;with_reducible exact H2_)|with_reducible exact H|(rw [Ag];exact H)|exact H
           have Aq:=A_ Ag;clear Ag;have H':=A_ H;clear H;go_wp2_with (first|((with_reducible refine gate_builtin (b:=.append) (xs:=#[.tmp 50,.tmp 52]) rfl ?_);at_builtin;refine Kd.R_append (Kd.int .i64) (w0:=w) w.heap.size rfl (.tmp 50) (.tmp 52) 22 3 (.int .i64 0) 8 rfl Tryd.underlying22 info3 rfl (by decide) (by omega) u5 x5_2 x7_3 [.int .i64 x7_3] (fun k_=>some k_ ≠ (.slice Ao13 x3_1.length co13 : Value).ownBlock ∧ some k_ ≠ (.slice Ao13 x3_1.length co13 : Value).ownBlock) (fun _=>False) rfl rfl ?aP (fun _ hk=>hk.elim) ?aF ?aO ?aB ?aS ?aL ?_;(case aP=>exact rfl);(case aB=>exact bb_);(case aF=>exact (fun k_ hk=>⟨Kd.fresh' (Kd.R_lt (rl_ HO_3)) k_ hk,Kd.fresh' (Kd.R_lt (rl_ HO_28)) k_ hk⟩));(case aO=>exact (rl_ HO_5));(case aS=>exact (below_size bb_));(case aL=>have:=LMc31.out;omega);intro Av w32 ho hb hg hat;rw [← Aq.out] at ho;replace HO_3:=A_ (Kd.R_after (ok:=(fun _=>True)) (rq_ (Kd.R_mono HO_3.out (fun _ hk=>⟨trivial,hk⟩))) hg hat);replace HO_28:=A_ (Kd.R_after (ok:=(fun _=>True)) (rq_ (Kd.R_mono HO_28.out (fun _ hk=>⟨trivial,hk⟩))) hg hat);replace Aa:=A_ (blk_grown (g:=Ab) (o:=.cells #[.int .i64 a0_0,.slice A0_1 l0_1.length c0_1] 28 (0,0)) (bl_ Aa) hg (Kd.R_ne HO_5.out Aa.out (by decide)));replace HB:=A_ (hb);have Ar:=A_ (ho);clear HO_5;clear ho hb hg hat))
           go_roundg k3
           case measure=>have:=HK1.out;have:=HK2.out;have:=HK3.out;omega
           case rel=>exact ⟨(Am),(wrap64 (x25_2 + 1)),(by first|rfl|(simp;done)|(simp [*];done)),H',⟨by have:=HK1.out;have:=HK2.out;have:=HK3.out;omega⟩,⟨rq_ (Kd.R_mono HO_3.out (fun _ hk=>hk.2))⟩,⟨rq_ (Kd.R_mono Ar.out (fun _ hk=>hk.1))⟩,⟨bl_ Aa⟩,⟨bb_⟩⟩
          ·rw [if_neg c31] at H;exact absurd H (by simp)
      ·rw [if_neg c12] at H;have c12b0 : decide (x25_2 < (l0_1.length : Int)) = false:=decide_eq_false c12;clear c12;obtain rfl:=Option.some.inj H;go_wp2
       go_ret
       exact ⟨_,by first|rfl|(simp [errW_none,errW_some] <;> rfl)|(simp [*,errW_none,errW_some] <;> rfl),rq_ (Kd.R_mono HO_5.out (fun _ hk=>trivial)),bb_⟩
mutual
def Aax.l0 : Nat → List Int → List (S62) → List Int → Int → Int → Int → List Int → Option ((List (S62)))
 | 0,_,_,_,_,_,_,_=>none
 | k + 1,x3,x4,x12,x13,x14,x1269000,x1269001=>if x14 < x13 then (if 0 ≤ x14 then (if x14 < (x12.length : Int) then (Aax.l1 k x3 x4 x14 x12 x13 x14 x3 (x3.length : Int) 0 x1269000 x1269001 (rd x12 x14) (rd x12 x14)) else (none)) else (none)) else (some x4)
def Aax.l1 : Nat → List Int → List (S62) → Int → List Int → Int → Int → List Int → Int → Int → Int → List Int → Int → Int → Option ((List (S62)))
 | 0,_,_,_,_,_,_,_,_,_,_,_,_,_=>none
 | k + 1,x3,x4,x5,x12,x13,x14,x22,x23,x24,x1269000,x1269001,x1274000,x1274001=>if x24 < x23 then (if 0 ≤ x24 then (if x24 < (x22.length : Int) then (if 0 ≤ x5 then (if x5 < (x1269001.length : Int) then ((Aap.f (rd x1269001 x5) x24).bind fun t1279=>(if t1279 = true then (Aax.l1 k x3 x4 x5 x12 x13 x14 x22 x23 (wrap64 (x24 + 1)) x1269000 x1269001 x1274000 x1274001) else ((Ab2.f x1274001 (rd x22 x24)).bind fun t1280=>(Aax.l1 k x3 x4 x5 x12 x13 x14 x22 x23 (wrap64 (x24 + 1)) x1269000 x1269001 x1274000 t1280)))) else (none)) else (none)) else (none)) else (none)) else (if x4.length < 8796093022208 then (Aax.l0 k x3 (x4 ++ [(⟨x1274000,x1274001⟩ : S62)]) x12 x13 (wrap64 (x14 + 1)) x1269000 x1269001) else (none))
end
def Aax.f (k : Nat) (a0_0 : Int) (l0_1 : List Int) : Option ((List (S62))) := (Aal.f k a0_0 l0_1).bind fun t1269 => (Aax.l0 k t1269 ([] : List (S62)) t1269 (t1269.length : Int) 0 a0_0 l0_1)
set_option maxHeartbeats 8000000 in
set_option maxRecDepth 100000 in
theorem Aax.calls (k : Nat) (a0_0 : Int) (A0_1 : Option Addr) (c0_1 : Nat) (l0_1 : List Int) (r : List (S62)) (w : World) (hr0_1 : Kd.C (Kd.int .i64) w A0_1 l0_1.length l0_1) (hc0_1 : l0_1.length ≤ c0_1) (h : Aax.f k a0_0 l0_1 = some r) :
 Calls Tryd.prog 137 #[.agg #[.int .i64 a0_0,.slice A0_1 l0_1.length c0_1]] w fun e w'=>∃ v0_ : Value,e = .returned (v0_) ∧ Kd.R k62 62 w' w.heap.size (fun _=>True) v0_ r ∧ Below w.heap.size w w':=by
 have hu28:=Tryd.underlying28;have hu62:=Tryd.underlying62;have HR0_1:=A_ hr0_1;have HC0_1:=A_ hc0_1;clear hr0_1 hc0_1;have HB:=A_ (Below.refl w.heap.size w);have H : ((Aal.f k a0_0 l0_1).bind fun Aa=>(Aax.l0 k Aa ([] : List (S62)) Aa (Aa.length : Int) 0 a0_0 l0_1)) = some r:=h;clear h;replace H:=Option.bind_eq_some_iff.mp H;obtain ⟨Aa,A20,H⟩:=H;replace H : (Aax.l0 k Aa ([] : List (S62)) Aa (Aa.length : Int) 0 a0_0 l0_1) = some r:=H;have A2:=A_ A20;clear A20;have H':=A_ H;clear H;go_enter Tryd.func137,Tryd.ntmps137
 go_wp2_with (first|((with_reducible refine gate_dst (N:=1) rfl ?_);refine box_event ?hg (N:=1) ?hd (cs:=#[.int .i64 a0_0,.slice A0_1 l0_1.length c0_1]) (t:=28) ?hr ?_;(case hd=>rfl);(case hg=>rfl);(case hr=>go_simp;try rfl);intro Af hg w3 hbox hb;have Ab:=A_ (hbox);have Bo:=A_ (gw_ (w:=w) hg bb_);have Bp:=A_ (gw_ (w:=w) hg bb_);replace HB:=A_ (below_step bb_ hb);clear hb hbox hg;have hcz4_0 : w3.cell? ⟨Af,0,none⟩ = some (.int .i64 a0_0):=blk_cell Ab.out 0;have hcz4_1 : w3.cell? ⟨Af,1,none⟩ = some (.slice A0_1 l0_1.length c0_1):=blk_cell Ab.out 1;have hfz4_0:=blk_frozen Ab.out 0;have hfz4_1:=blk_frozen Ab.out 1)|((with_reducible refine gate_callee (f:=182) rfl ?_);refine goesL_ (some 11) rfl rfl Tryd.func182 (by kernel_rfl) rfl #[.agg #[.int .i64 a0_0,.slice A0_1 l0_1.length c0_1]] rfl au_ ?_;(with_reducible refine (Aal.calls k a0_0 _ _ l0_1 Aa _ ?side1 ?side2 A2.out).mono ?_);(case side1=>exact cl_ (Kd.C_below HR0_1.out HB.out));(case side2=>exact HC0_1.out);rintro e w5 ⟨Bt,rfl,ho0,hb⟩;refine ⟨_,rfl,?_⟩;have At:=A_ (Kd.R_lower ho0 (below_size bb_));replace Ab:=bz Ab hb;replace HB:=A_ (below_step bb_ hb);(try clear hb);(try clear hb2);(try clear hk);(try clear hi);(try clear ho0);obtain ⟨Ao6,co6,eo6⟩:=Kd.R_slice At.out;subst eo6))
 go_loopg [4,14] k (fun kq v4 v14 w'=>∃ (x4_1 : List (S62)) (x14_1 : Int),v14 = .int .i64 x14_1 ∧ Aside0 (Aax.l0 kq Aa x4_1 Aa (Aa.length : Int) x14_1 a0_0 l0_1 = some r) ∧ Aside0 (kq ≤ k) ∧ Aside0 (Kd.R (Kd.int .i64) 3 w' w.heap.size (fun _=>True) (.slice Ao6 Aa.length co6) Aa) ∧ Aside0 (Kd.R k62 62 w' w.heap.size (fun _=>True) v4 x4_1) ∧ Aside0 (Kd.R (Kd.int .i64) 3 w' w.heap.size (fun _=>True) (.slice Ao6 Aa.length co6) Aa) ∧ Aside0 (w'.heap[Af]? = some (.cells #[.int .i64 a0_0,(.slice A0_1 l0_1.length c0_1)] 28 (0,0))) ∧ Aside0 (Below w.heap.size w w'))
 case atStart=>exact ⟨(([] : List (S62))),(0),(by first|rfl|(simp;done)|(simp [*];done)),H',⟨Nat.le_refl _⟩,⟨rl_ At⟩,⟨by first|exact Kd.R_nil _ _ _ _ _|exact Kd.N_nil _ _ _ _ _|exact Kd.V_nil _ _ _ _ _|exact Kd.Q_nil _ _ _ _ _|exact Kd.S_nil _ _ _ _ _⟩,⟨rl_ At⟩,⟨bl_ Ab⟩,⟨bb_⟩⟩
 case round =>
  clear H';try clear c1
  try clear p2
  try clear hcz4_0
  try clear hcz4_1
  try clear hfz4_0
  try clear hfz4_1
  obtain ⟨x4_1,x14_1,rfl,HA,HK1,HO_3,HO_4,HO_12,Ab,HB⟩:=hrel;cases gk with
  | zero => exact absurd HA.out (by simp [Aax.l0])
  | succ k1 =>
   have H:=HA.out;clear HA;simp only [Aax.l0] at H
   by_cases c7 : x14_1 < (Aa.length : Int)
   ·rw [if_pos c7] at H;have c7b0 : decide (x14_1 < (Aa.length : Int)) = true:=decide_eq_true c7;clear c7;by_cases c8 : 0 ≤ x14_1
    ·rw [if_pos c8] at H;have c8b0 : decide (0 ≤ x14_1) = true:=decide_eq_true c8;clear c8;by_cases c9 : x14_1 < (Aa.length : Int)
     ·rw [if_pos c9] at H;have c9b0 : decide (x14_1 < (Aa.length : Int)) = true:=decide_eq_true c9;clear c9;have H':=A_ H;clear H;have Ar : 0 ≤ (x14_1 : Int):=of_decide_eq_true (by first|(with_reducible assumption)|assumption);have As : x14_1 < (Aa.length : Int):=of_decide_eq_true (by first|(with_reducible assumption)|assumption);obtain ⟨Ah,Bn,Bf⟩:=Kd.at_int (Kd.R_reads' HO_12.out).2.2 x14_1 Ar As;cases Bn
      replace Ar:=eq_true Ar;replace As:=eq_true As;go_wp2_with (first|((with_reducible refine gate_dst (N:=7) rfl ?_);refine box_event ?hg (N:=7) ?hd (cs:=#[.int .i64 0,.int .i64 0]) (t:=62) ?hr ?_;(case hd=>rfl);(case hg=>rfl);(case hr=>go_simp;try rfl);intro Ae hg w10 hbox hb;replace HO_3:=rb_ HO_3 hb;replace HO_4:=A_ (Kd.R_below (Kd.R_elderB (rl_ HO_4) Ae (Nat.le_of_eq hg.symm)) hb);replace HO_12:=rb_ HO_12 hb;have Ac:=A_ (hbox);have Bq:=A_ (gw_ (w:=w) hg bb_);have Br:=A_ (gw_ (w:=w) hg bb_);replace HB:=A_ (below_step bb_ hb);have Ag:=A_ (nl_ hg Ab);have Ak:=A_ (ng_ hg Ab);replace Ab:=bz Ab hb;clear hb hbox hg;have hnb11:=Ak.out;have hnc11:=Ag.out;have hcz12_0 : w10.cell? ⟨Ae,0,none⟩ = some (.int .i64 0):=blk_cell Ac.out 0;have hcz12_1 : w10.cell? ⟨Ae,1,none⟩ = some (.int .i64 0):=blk_cell Ac.out 1;have hfz12_0:=blk_frozen Ac.out 0;have hfz12_1:=blk_frozen Ac.out 1))
      go_loopg [24] k1 (fun kq v24 w'=>∃ (x24_2 : Int) (Ad : Int),v24 = .int .i64 x24_2 ∧ Aside0 (Aax.l1 kq Aa x4_1 x14_1 Aa (Aa.length : Int) x14_1 Aa (Aa.length : Int) x24_2 a0_0 l0_1 (rd Aa x14_1) Ad = some r) ∧ Aside0 (kq ≤ k1) ∧ Aside0 (Kd.R (Kd.int .i64) 3 w' w.heap.size (fun _=>True) (.slice (some Ah) Aa.length co6) Aa) ∧ Aside0 (Kd.R k62 62 w' w.heap.size (fun k_=>k_ ≠ Ae) u4 x4_1) ∧ Aside0 (Kd.R (Kd.int .i64) 3 w' w.heap.size (fun _=>True) (.slice (some Ah) Aa.length co6) Aa) ∧ Aside0 (Kd.R (Kd.int .i64) 3 w' w.heap.size (fun _=>True) (.slice (some Ah) Aa.length co6) Aa) ∧ Aside0 (w'.heap[Af]? = some (.cells #[.int .i64 a0_0,(.slice A0_1 l0_1.length c0_1)] 28 (0,0))) ∧ Aside0 (w'.heap[Ae]? = some (.cells #[.int .i64 (rd Aa x14_1),.int .i64 Ad] 62 (0,0))) ∧ Aside0 (Below w.heap.size w w'))
      case atStart=>exact ⟨(0),(rd Aa x14_1),(by first|rfl|(simp;done)|(simp [*];done)),H',⟨Nat.le_refl _⟩,⟨rq_ (Kd.R_mono (Kd.R_far (p:=⟨Ae,1,none⟩) (Kd.R_far (p:=⟨Ae,0,none⟩) (Kd.R_types HO_3.out Ac.out (by decide)) (fun _ hk=>hk.2) (.int .i64 (rd Aa x14_1))) (fun _ hk=>hk.2) (.int .i64 (rd Aa x14_1))) (fun _ hk=>trivial))⟩,⟨rq_ (Kd.R_mono (Kd.R_far (p:=⟨Ae,1,none⟩) (Kd.R_far (p:=⟨Ae,0,none⟩) (Kd.R_mono HO_4.out (fun k_ hk=>(⟨hk,hk.2⟩ : _ ∧ k_ ≠ Ae))) (fun _ hk=>hk.2) (.int .i64 (rd Aa x14_1))) (fun _ hk=>hk.2) (.int .i64 (rd Aa x14_1))) (fun _ hk=>hk.1.2))⟩,⟨rq_ (Kd.R_mono (Kd.R_far (p:=⟨Ae,1,none⟩) (Kd.R_far (p:=⟨Ae,0,none⟩) (Kd.R_types HO_12.out Ac.out (by decide)) (fun _ hk=>hk.2) (.int .i64 (rd Aa x14_1))) (fun _ hk=>hk.2) (.int .i64 (rd Aa x14_1))) (fun _ hk=>trivial))⟩,⟨rq_ (Kd.R_mono (Kd.R_far (p:=⟨Ae,1,none⟩) (Kd.R_far (p:=⟨Ae,0,none⟩) (Kd.R_types HO_3.out Ac.out (by decide)) (fun _ hk=>hk.2) (.int .i64 (rd Aa x14_1))) (fun _ hk=>hk.2) (.int .i64 (rd Aa x14_1))) (fun _ hk=>trivial))⟩,⟨by (with_reducible repeat (first|refine blk_drewN ?_ _|refine blk_drew ?_|refine blk_alloc ?_ _));refine blk_far ?_ Ag.out _;(with_reducible repeat (first|refine blk_drewN ?_ _|refine blk_drew ?_|refine blk_alloc ?_ _));refine blk_far ?_ Ag.out _;(with_reducible repeat (first|refine blk_drewN ?_ _|refine blk_drew ?_|refine blk_alloc ?_ _));exact Ab.out⟩,⟨by (with_reducible repeat (first|refine blk_drewN ?_ _|refine blk_drew ?_|refine blk_alloc ?_ _));refine blk_put (cs:=#[.int .i64 (rd Aa x14_1),.int .i64 0]) ?_ 1 _ rfl;(with_reducible repeat (first|refine blk_drewN ?_ _|refine blk_drew ?_|refine blk_alloc ?_ _));refine blk_put (cs:=#[.int .i64 0,.int .i64 0]) ?_ 0 _ rfl;(with_reducible repeat (first|refine blk_drewN ?_ _|refine blk_drew ?_|refine blk_alloc ?_ _));exact Ac.out⟩,⟨bb_⟩⟩
      case round =>
       clear H';try clear c1
       try clear p1
       try clear q1
       try clear hx1
       try clear p2
       try clear c7
       try clear c7b0
       try clear c8
       try clear c8b0
       try clear c9
       try clear c9b0
       try clear c11
       try clear p12
       try clear q12
       try clear hx12
       try clear hcz12_0
       try clear hcz12_1
       try clear hcz4_0
       try clear hcz4_1
       try clear hfz12_0
       try clear hfz12_1
       try clear hfz4_0
       try clear hfz4_1
       try clear Bf
       try clear Ar
       try clear p2
       try clear As
       obtain ⟨x24_2,Ad,rfl,HA,HK2,HO_3,HO_4,HO_12,HO_22,Ab,Ac,HB⟩:=hrel;cases gk with
       | zero=>exact absurd HA.out (by simp [Aax.l1])
       | succ k2 =>
        have H:=HA.out;clear HA;simp only [Aax.l1] at H
        by_cases c13 : x24_2 < (Aa.length : Int)
        ·rw [if_pos c13] at H;have c13b0 : decide (x24_2 < (Aa.length : Int)) = true:=decide_eq_true c13;clear c13;by_cases c14 : 0 ≤ x24_2
         ·rw [if_pos c14] at H;have c14b0 : decide (0 ≤ x24_2) = true:=decide_eq_true c14;clear c14;by_cases c15 : x24_2 < (Aa.length : Int)
          ·rw [if_pos c15] at H;have c15b0 : decide (x24_2 < (Aa.length : Int)) = true:=decide_eq_true c15;clear c15;by_cases c16 : 0 ≤ x14_1
           ·rw [if_pos c16] at H;have c16b0 : decide (0 ≤ x14_1) = true:=decide_eq_true c16;clear c16;by_cases c17 : x14_1 < (l0_1.length : Int)
            ·rw [if_pos c17] at H;have c17b0 : decide (x14_1 < (l0_1.length : Int)) = true:=decide_eq_true c17;clear c17;replace H:=Option.bind_eq_some_iff.mp H;obtain ⟨Bh,Bj,H⟩:=H;replace H : (if Bh = true then (Aax.l1 k2 Aa x4_1 x14_1 Aa (Aa.length : Int) x14_1 Aa (Aa.length : Int) (wrap64 (x24_2 + 1)) a0_0 l0_1 (rd Aa x14_1) Ad) else ((Ab2.f Ad (rd Aa x24_2)).bind fun Aj=>(Aax.l1 k2 Aa x4_1 x14_1 Aa (Aa.length : Int) x14_1 Aa (Aa.length : Int) (wrap64 (x24_2 + 1)) a0_0 l0_1 (rd Aa x14_1) Aj))) = some r:=H;have A18:=A_ Bj;clear Bj;by_cases c19 : Bh = true
             ·subst c19;have H1 : (Aax.l1 k2 Aa x4_1 x14_1 Aa (Aa.length : Int) x14_1 Aa (Aa.length : Int) (wrap64 (x24_2 + 1)) a0_0 l0_1 (rd Aa x14_1) Ad) = some r:=by rw [if_pos rfl] at H;exact H
              clear H;have H:=H1;clear H1;have H':=A_ H;clear H;have Al : 0 ≤ (x24_2 : Int):=of_decide_eq_true (by first|(with_reducible assumption)|assumption);have Am : x24_2 < (Aa.length : Int):=of_decide_eq_true (by first|(with_reducible assumption)|assumption);obtain ⟨Au,Av,Bg⟩:=Kd.at_int (Kd.R_reads' HO_22.out).2.2 x24_2 Al Am;obtain rfl : Ah = Au:=(by injection Av);replace Al:=eq_true Al;replace Am:=eq_true Am;have hnb20:=Ag.out;have hnc20:=Ak.out;have hcz21_0 : wr.cell? ⟨Af,0,none⟩ = some (.int .i64 a0_0):=blk_cell Ab.out 0;have hcz21_1 : wr.cell? ⟨Af,1,none⟩ = some (.slice A0_1 l0_1.length c0_1):=blk_cell Ab.out 1;have hfz21_0:=blk_frozen Ab.out 0;have hfz21_1:=blk_frozen Ab.out 1;have An : 0 ≤ (x14_1 : Int):=of_decide_eq_true (by first|(with_reducible assumption)|assumption);have Ao : x14_1 < (l0_1.length : Int):=of_decide_eq_true (by first|(with_reducible assumption)|assumption);obtain ⟨Ap,Aw,Ai⟩:=Kd.at_int HR0_1.out x14_1 An Ao;cases Aw
              (try replace Ai:=(HB.out.cell (World.block_lt_of_cell? w _ Ai)).trans Ai);replace An:=eq_true An;replace Ao:=eq_true Ao;go_wp2_with (first|((with_reducible refine gate_callee (f:=192) rfl ?_);refine goesL_ (some 35) rfl rfl Tryd.func192 (by kernel_rfl) rfl #[.int .i64 (rd l0_1 x14_1),.int .i64 x24_2] rfl au_ ?_;(with_reducible refine (Aap.calls (rd l0_1 x14_1) x24_2 true _ A18.out).mono ?_);rintro e w' ⟨rfl,⟨nd,rfl⟩⟩;refine ⟨_,rfl,?_⟩))
              go_roundg k2
              case measure=>have:=HK1.out;have:=HK2.out;omega
              case rel=>exact ⟨(wrap64 (x24_2 + 1)),(Ad),(by first|rfl|(simp;done)|(simp [*];done)),H',⟨by have:=HK1.out;have:=HK2.out;omega⟩,⟨rl_ HO_3⟩,⟨rl_ HO_4⟩,⟨rl_ HO_12⟩,⟨rl_ HO_22⟩,⟨bl_ Ab⟩,⟨bl_ Ac⟩,⟨bb_⟩⟩
             ·replace c19:=Bool.eq_false_iff.mpr c19;subst c19;have H1 : ((Ab2.f Ad (rd Aa x24_2)).bind fun Aj=>(Aax.l1 k2 Aa x4_1 x14_1 Aa (Aa.length : Int) x14_1 Aa (Aa.length : Int) (wrap64 (x24_2 + 1)) a0_0 l0_1 (rd Aa x14_1) Aj)) = some r:=by rw [if_neg (show ¬ (false = true) by decide)] at H;exact H
              clear H;have H:=H1;clear H1;replace H:=Option.bind_eq_some_iff.mp H;obtain ⟨Aj,Bk,H⟩:=H;replace H : (Aax.l1 k2 Aa x4_1 x14_1 Aa (Aa.length : Int) x14_1 Aa (Aa.length : Int) (wrap64 (x24_2 + 1)) a0_0 l0_1 (rd Aa x14_1) Aj) = some r:=H;have A22:=A_ Bk;clear Bk;have H':=A_ H;clear H;have Al : 0 ≤ (x24_2 : Int):=of_decide_eq_true (by first|(with_reducible assumption)|assumption);have Am : x24_2 < (Aa.length : Int):=of_decide_eq_true (by first|(with_reducible assumption)|assumption);obtain ⟨Au,Av,Bg⟩:=Kd.at_int (Kd.R_reads' HO_22.out).2.2 x24_2 Al Am;obtain rfl : Ah = Au:=(by injection Av);replace Al:=eq_true Al;replace Am:=eq_true Am;have hnb23:=Ag.out;have hnc23:=Ak.out;have hcz24_0 : wr.cell? ⟨Af,0,none⟩ = some (.int .i64 a0_0):=blk_cell Ab.out 0;have hcz24_1 : wr.cell? ⟨Af,1,none⟩ = some (.slice A0_1 l0_1.length c0_1):=blk_cell Ab.out 1;have hfz24_0:=blk_frozen Ab.out 0;have hfz24_1:=blk_frozen Ab.out 1;have An : 0 ≤ (x14_1 : Int):=of_decide_eq_true (by first|(with_reducible assumption)|assumption);have Ao : x14_1 < (l0_1.length : Int):=of_decide_eq_true (by first|(with_reducible assumption)|assumption);obtain ⟨Ap,Aw,Ai⟩:=Kd.at_int HR0_1.out x14_1 An Ao;cases Aw
              (try replace Ai:=(HB.out.cell (World.block_lt_of_cell? w _ Ai)).trans Ai);replace An:=eq_true An;replace Ao:=eq_true Ao;go_wp2_with (first|((with_reducible refine gate_callee (f:=192) rfl ?_);refine goesL_ (some 35) rfl rfl Tryd.func192 (by kernel_rfl) rfl #[.int .i64 (rd l0_1 x14_1),.int .i64 x24_2] rfl au_ ?_;(with_reducible refine (Aap.calls (rd l0_1 x14_1) x24_2 false _ A18.out).mono ?_);rintro e w' ⟨rfl,⟨nd,rfl⟩⟩;refine ⟨_,rfl,?_⟩;(try (rw [drewN_self wr];generalize hq_ : World.drewN wr _ = wr;have n0_ : Aside0 (Kd.R (Kd.int .i64) 3 wr w.heap.size (fun _=>True) (.slice (some Ah) Aa.length co6) Aa):=⟨by rw [← hq_];exact (rl_ HO_12)⟩;have n1_ : Aside0 (Kd.R (Kd.int .i64) 3 wr w.heap.size (fun _=>True) (.slice (some Ah) Aa.length co6) Aa):=⟨by rw [← hq_];exact (rl_ HO_22)⟩;have n2_ : Aside0 (Kd.R (Kd.int .i64) 3 wr w.heap.size (fun _=>True) (.slice (some Ah) Aa.length co6) Aa):=⟨by rw [← hq_];exact (rl_ HO_3)⟩;have n3_ : Aside0 (Kd.R k62 62 wr w.heap.size (fun k_=>k_ ≠ Ae) u4 x4_1):=⟨by rw [← hq_];exact (rl_ HO_4)⟩;have n4_ : Aside0 (wr.heap[Af]? = some (.cells #[.int .i64 a0_0,.slice (some Ap) l0_1.length c0_1] 28 (0,0))):=⟨by rw [← hq_];exact (bl_ Ab)⟩;have n5_ : Aside0 (wr.heap[Ae]? = some (.cells #[.int .i64 (rd Aa x14_1),.int .i64 Ad] 62 (0,0))):=⟨by rw [← hq_];exact (bl_ Ac)⟩;have n6_ : Aside0 (Below w.heap.size w wr):=⟨by rw [← hq_];exact bb_⟩;clear HO_12 HO_22 HO_3 HO_4 Ab Ac HB hq_;have HO_12:=n0_;have HO_22:=n1_;have HO_3:=n2_;have HO_4:=n3_;have Ab:=n4_;have Ac:=n5_;have HB:=n6_;clear n0_ n1_ n2_ n3_ n4_ n5_ n6_;have Ax : wr.cell? ⟨Af,0,none⟩ = some (.int .i64 a0_0):=blk_cell Ab.out 0;have Ay:=blk_frozen Ab.out 0;have Az : wr.cell? ⟨Af,1,none⟩ = some (.slice (some Ap) l0_1.length c0_1):=blk_cell Ab.out 1;have Ba:=blk_frozen Ab.out 1;have Bb : wr.cell? ⟨Ae,0,none⟩ = some (.int .i64 (rd Aa x14_1)):=blk_cell Ac.out 0;have Bc:=blk_frozen Ac.out 0;have Bd : wr.cell? ⟨Ae,1,none⟩ = some (.int .i64 Ad):=blk_cell Ac.out 1;have Be:=blk_frozen Ac.out 1));have hcz25_0 : wr.cell? ⟨Ae,0,none⟩ = some (.int .i64 (rd Aa x14_1)):=blk_cell Ac.out 0;have hcz25_1 : wr.cell? ⟨Ae,1,none⟩ = some (.int .i64 Ad):=blk_cell Ac.out 1;have hfz25_0:=blk_frozen Ac.out 0;have hfz25_1:=blk_frozen Ac.out 1)|((with_reducible refine gate_callee (f:=149) rfl ?_);refine goesL_ (some 40) rfl rfl Tryd.func149 (by kernel_rfl) rfl #[.int .i64 Ad,.int .i64 (rd Aa x24_2)] rfl au_ ?_;(with_reducible refine (Ab2.calls Ad (rd Aa x24_2) Aj _ A22.out).mono ?_);rintro e w' ⟨rfl,⟨nd,rfl⟩⟩;refine ⟨_,rfl,?_⟩;(try (rw [drewN_self wr];generalize hq_ : World.drewN wr _ = wr;have n0_ : Aside0 (Kd.R (Kd.int .i64) 3 wr w.heap.size (fun _=>True) (.slice (some Ah) Aa.length co6) Aa):=⟨by rw [← hq_];exact (rl_ HO_12)⟩;have n1_ : Aside0 (Kd.R (Kd.int .i64) 3 wr w.heap.size (fun _=>True) (.slice (some Ah) Aa.length co6) Aa):=⟨by rw [← hq_];exact (rl_ HO_22)⟩;have n2_ : Aside0 (Kd.R (Kd.int .i64) 3 wr w.heap.size (fun _=>True) (.slice (some Ah) Aa.length co6) Aa):=⟨by rw [← hq_];exact (rl_ HO_3)⟩;have n3_ : Aside0 (Kd.R k62 62 wr w.heap.size (fun k_=>k_ ≠ Ae) u4 x4_1):=⟨by rw [← hq_];exact (rl_ HO_4)⟩;have n4_ : Aside0 (wr.heap[Af]? = some (.cells #[.int .i64 a0_0,.slice (some Ap) l0_1.length c0_1] 28 (0,0))):=⟨by rw [← hq_];exact (bl_ Ab)⟩;have n5_ : Aside0 (wr.heap[Ae]? = some (.cells #[.int .i64 (rd Aa x14_1),.int .i64 Ad] 62 (0,0))):=⟨by rw [← hq_];exact (bl_ Ac)⟩;have n6_ : Aside0 (Below w.heap.size w wr):=⟨by rw [← hq_];exact bb_⟩;clear HO_12 HO_22 HO_3 HO_4 Ab Ac HB hq_;have HO_12:=n0_;have HO_22:=n1_;have HO_3:=n2_;have HO_4:=n3_;have Ab:=n4_;have Ac:=n5_;have HB:=n6_;clear n0_ n1_ n2_ n3_ n4_ n5_ n6_;have Ax : wr.cell? ⟨Af,0,none⟩ = some (.int .i64 a0_0):=blk_cell Ab.out 0;have Ay:=blk_frozen Ab.out 0;have Az : wr.cell? ⟨Af,1,none⟩ = some (.slice (some Ap) l0_1.length c0_1):=blk_cell Ab.out 1;have Ba:=blk_frozen Ab.out 1;have Bb : wr.cell? ⟨Ae,0,none⟩ = some (.int .i64 (rd Aa x14_1)):=blk_cell Ac.out 0;have Bc:=blk_frozen Ac.out 0;have Bd : wr.cell? ⟨Ae,1,none⟩ = some (.int .i64 Ad):=blk_cell Ac.out 1;have Be:=blk_frozen Ac.out 1))))
              go_roundg k2
              case measure=>have:=HK1.out;have:=HK2.out;omega
              case rel=>exact ⟨(wrap64 (x24_2 + 1)),(Aj),(by first|rfl|(simp;done)|(simp [*];done)),H',⟨by have:=HK1.out;have:=HK2.out;omega⟩,⟨rq_ (Kd.R_mono (Kd.R_far (p:=⟨Ae,1,none⟩) (Kd.R_types HO_3.out Ac.out (by decide)) (fun _ hk=>hk.2) (.int .i64 Aj)) (fun _ hk=>trivial))⟩,⟨rq_ (Kd.R_mono (Kd.R_far (p:=⟨Ae,1,none⟩) (Kd.R_mono HO_4.out (fun k_ hk=>(⟨hk,hk⟩ : _ ∧ k_ ≠ Ae))) (fun _ hk=>hk.2) (.int .i64 Aj)) (fun _ hk=>hk.1))⟩,⟨rq_ (Kd.R_mono (Kd.R_far (p:=⟨Ae,1,none⟩) (Kd.R_types HO_12.out Ac.out (by decide)) (fun _ hk=>hk.2) (.int .i64 Aj)) (fun _ hk=>trivial))⟩,⟨rq_ (Kd.R_mono (Kd.R_far (p:=⟨Ae,1,none⟩) (Kd.R_types HO_22.out Ac.out (by decide)) (fun _ hk=>hk.2) (.int .i64 Aj)) (fun _ hk=>trivial))⟩,⟨by (with_reducible repeat (first|refine blk_drewN ?_ _|refine blk_drew ?_|refine blk_alloc ?_ _));refine blk_far ?_ Ag.out _;(with_reducible repeat (first|refine blk_drewN ?_ _|refine blk_drew ?_|refine blk_alloc ?_ _));exact Ab.out⟩,⟨by (with_reducible repeat (first|refine blk_drewN ?_ _|refine blk_drew ?_|refine blk_alloc ?_ _));refine blk_put (cs:=#[.int .i64 (rd Aa x14_1),.int .i64 Ad]) ?_ 1 _ rfl;(with_reducible repeat (first|refine blk_drewN ?_ _|refine blk_drew ?_|refine blk_alloc ?_ _));exact Ac.out⟩,⟨bb_⟩⟩
            ·rw [if_neg c17] at H;exact absurd H (by simp)
           ·rw [if_neg c16] at H;exact absurd H (by simp)
          ·rw [if_neg c15] at H;exact absurd H (by simp)
         ·rw [if_neg c14] at H;exact absurd H (by simp)
        ·rw [if_neg c13] at H;have c13b0 : decide (x24_2 < (Aa.length : Int)) = false:=decide_eq_false c13;clear c13;by_cases c26 : x4_1.length < 8796093022208
         ·rw [if_pos c26] at H;have LMc26:=A_ c26;clear c26;obtain ⟨Bi,Aq⟩ : ∃ y_ : List (S62),y_ = (x4_1 ++ [(⟨(rd Aa x14_1),Ad⟩ : S62)]):=⟨_,rfl⟩;replace H : (Aax.l0 k2 Aa Bi Aa (Aa.length : Int) (wrap64 (x14_1 + 1)) a0_0 l0_1) = some r:=by first|(rw [Aq];with_reducible exact H)|(have H2_:=(Option.bind_some _ _).symm.trans H;rw [Aq];with_reducible exact H2_)|(have H2_:=(Option.bind_some _ _).symm.trans H;with_reducible exact H2_)|with_reducible exact H|(rw [Aq];exact H)|exact H
          have Bl:=A_ Aq;clear Aq;have H':=A_ H;clear H;have hnb27:=Ak.out;have hnc27:=Ag.out;have hcz28_0 : wr.cell? ⟨Ae,0,none⟩ = some (.int .i64 (rd Aa x14_1)):=blk_cell Ac.out 0;have hcz28_1 : wr.cell? ⟨Ae,1,none⟩ = some (.int .i64 Ad):=blk_cell Ac.out 1;have hfz28_0:=blk_frozen Ac.out 0;have hfz28_1:=blk_frozen Ac.out 1;go_wp2_with (first|((with_reducible refine gate_builtin (b:=.append) (xs:=#[.tmp 43,.tmp 45]) rfl ?_);at_builtin;refine Kd.R_append k62 (w0:=w) w.heap.size rfl (.tmp 43) (.tmp 45) 52 62 (.agg #[(.int .i64 0),(.int .i64 0)]) 16 rfl Tryd.underlying52 info62 rfl (by decide) (by omega) u4 x4_1 (⟨(rd Aa x14_1),Ad⟩ : S62) [.int .i64 (rd Aa x14_1),.int .i64 Ad] (fun k_=>k_ ≠ Ae) (fun _=>False) rfl rfl ?aP (fun _ hk=>hk.elim) ?aF ?aO ?aB ?aS ?aL ?_;(case aP=>exact k62_mkM _ _ _ (⟨(rd Aa x14_1),Ad⟩ : S62));(case aB=>exact bb_);(case aF=>exact (fun k_ hk=>Kd.freshB (g:=Ae) (o:=.cells #[.int .i64 (rd Aa x14_1),.int .i64 Ad] 62 (0,0)) (bl_ Ac) k_ hk));(case aO=>exact (rl_ HO_4));(case aS=>exact (below_size bb_));(case aL=>have:=LMc26.out;omega);intro Bu w29 ho hb hg hat;rw [← Bl.out] at ho;replace HO_3:=A_ (Kd.R_over' (rl_ HO_3) (Kd.R_typed (rl_ HO_4)) (by decide) hg);replace HO_12:=A_ (Kd.R_over' (rl_ HO_12) (Kd.R_typed (rl_ HO_4)) (by decide) hg);replace HO_22:=A_ (Kd.R_over' (rl_ HO_22) (Kd.R_typed (rl_ HO_4)) (by decide) hg);replace Ab:=A_ (blk_grown (g:=Af) (o:=.cells #[.int .i64 a0_0,.slice A0_1 l0_1.length c0_1] 28 (0,0)) (bl_ Ab) hg (Kd.R_ne HO_4.out Ab.out (by decide)));replace Ac:=A_ (blk_grown (g:=Ae) (o:=.cells #[.int .i64 (rd Aa x14_1),.int .i64 Ad] 62 (0,0)) (bl_ Ac) hg (Kd.R_away HO_4.out (fun _ hk=>hk)));replace HB:=A_ (hb);have Bm:=A_ (ho);clear HO_4;clear ho hb hg hat))
          go_roundg k2
          case measure=>have:=HK1.out;have:=HK2.out;omega
          case rel=>exact ⟨(Bi),(wrap64 (x14_1 + 1)),(by first|rfl|(simp;done)|(simp [*];done)),H',⟨by have:=HK1.out;have:=HK2.out;omega⟩,⟨rl_ HO_3⟩,⟨rq_ (Kd.R_mono Bm.out (fun _ hk=>trivial))⟩,⟨rl_ HO_12⟩,⟨bl_ Ab⟩,⟨bb_⟩⟩
         ·rw [if_neg c26] at H;exact absurd H (by simp)
     ·rw [if_neg c9] at H;exact absurd H (by simp)
    ·rw [if_neg c8] at H;exact absurd H (by simp)
   ·rw [if_neg c7] at H;have c7b0 : decide (x14_1 < (Aa.length : Int)) = false:=decide_eq_false c7;clear c7;obtain rfl:=Option.some.inj H;go_wp2
    go_ret
    exact ⟨_,by first|rfl|(simp [errW_none,errW_some] <;> rfl)|(simp [*,errW_none,errW_some] <;> rfl),rl_ HO_4,bb_⟩
end Go.Proofs.YtimjblnglhmakaaDoor.P

