/- A part of the proof that the law FnExtensions holds at every input. Written by wip/pack.py: the kit's printed words that are used, the functions' walks as wip/gen.py prints them, and hand proofs. -/
import Derived.Test.YtjdkcafpgebjfaaDoorKFnExtensions3
namespace Go.Proofs.YtjdkcafpgebjfaaDoor.P
open Go.RowKit Go.Proofs.YtjdkcafpgebjfaaDoorW.PrintWords Go.Proofs.YtjdkcafpgebjfaaDoorW.PrintLast Go.Proofs.YtjdkcafpgebjfaaDoorW.PrintMore
open Bool renaming true → T, false → F
open List renaming setIfInBounds_toArray → L_, set_cons_zero → M_, set_cons_succ → N_, map_toArray → P_, map_cons → Q_, map_nil → R_, length_drop → S_, length_take → U_
open Aside0 renaming mk → A_
attribute [local go_sem] max2_int min2_int max_two min_two max_three min_three max_four min_four
set_option linter.unusedVariables false
set_option linter.unusedSimpArgs false
attribute [local go_sem] fldOrder_0 fldOrder_1
mutual
def impl_FirstExtension.l0 : Nat → List Int → Int → Int → List Int → Int → List Int → Option (List Int × Bool)
 | 0,_,_,_,_,_,_=>none
 | k + 1,x4,x5,x955000,x955001,x964000,x964001=>if (x4.length : Int) < x955000 then (impl_FirstExtension.l1 k x4 x5 x955000 0 x955000 x955001 x964000 x964001) else (some (x4,true))
def impl_FirstExtension.l1 : Nat → List Int → Int → Int → Int → Int → List Int → Int → List Int → Option (List Int × Bool)
 | 0,_,_,_,_,_,_,_,_=>none
 | k + 1,x4,x5,x20,x21,x955000,x955001,x964000,x964001=>if x21 < x20 then (if 0 ≤ x21 then (if (Go.bits .and .i64 (shr .i64 x5 x21) 1) = 0 then (if x21 < (x964001.length : Int) then (if (Go.bits .andNot .i64 (rd x964001 x21) x5) = 0 then (if x4.length < 17592186044416 then (impl_FirstExtension.l0 k (x4 ++ [x21]) (Go.bits .or .i64 x5 (shl .i64 1 x21)) x955000 x955001 x964000 x964001) else (none)) else (impl_FirstExtension.l1 k x4 x5 x20 (wrap64 (x21 + 1)) x955000 x955001 x964000 x964001)) else (none)) else (impl_FirstExtension.l1 k x4 x5 x20 (wrap64 (x21 + 1)) x955000 x955001 x964000 x964001)) else (none)) else (impl_FirstExtension.l0 k x4 x5 x955000 x955001 x964000 x964001)
end
def impl_FirstExtension.f (k : Nat) (a0_0 : Int) (l0_1 : List Int) : Option (List Int × Bool) := (impl_IsOrder.f k a0_0 l0_1).bind fun t955 => (if t955 = true then ((impl_Order_mirror.f k a0_0 l0_1).bind fun bt959 => (impl_FirstExtension.l0 k (([] : List Int)) 0 a0_0 l0_1 bt959.1 bt959.2)) else (some (([] : List Int), false)))
def impl_FirstExtension.T9 : Bool × List (List Nat × List Nat) := (true, [([], []), ([], []), ([1], [1]), ([0, 2], [0, 2]), ([], []), ([], []), ([5], [5]), ([4, 6], [4, 6]), ([3, 3, 0, 1, 2, 3], [0, 3]), ([7, 8, 0, 1, 2, 3, 4, 5, 6, 7, 8], [4, 7])])
def impl_FirstExtension.B9 : List Nat := [0, 0, 2, 7, 0, 0, 32, 112, 15, 511]
theorem impl_FirstExtension.tab9 : rtab .any (opsOf Tryd.f49 9) = impl_FirstExtension.T9:=by kernel_rfl
theorem impl_FirstExtension.bits9 : waitsOk impl_FirstExtension.T9.2 impl_FirstExtension.B9 = true:=by kernel_rfl
set_option maxHeartbeats 8000000 in
set_option maxRecDepth 100000 in
theorem impl_FirstExtension.calls (k : Nat) (a0_0 : Int) (A0_1 : Option Addr) (c0_1 : Nat) (l0_1 : List Int) (r1 : List Int) (r2 : Bool) (w : World) (hr0_1 : Kd.C (Kd.int .i64) w A0_1 l0_1.length l0_1) (hc0_1 : l0_1.length ≤ c0_1) (hT : TabOK w) (h : impl_FirstExtension.f k a0_0 l0_1 = some (r1,r2)) :
 Calls Tryd.prog 49 #[.agg #[.int .i64 a0_0,.slice A0_1 l0_1.length c0_1]] w fun e w'=>∃ v0_ : Value,e = .returned (.tuple #[v0_,.bool r2]) ∧ Kd.R (Kd.int .i64) 3 w' w.heap.size (fun _=>True) v0_ r1 ∧ Below w.heap.size w w':=by
 have hu26:=Tryd.underlying26;have HT:=A_ hT;clear hT;have HR0_1:=A_ hr0_1;have HC0_1:=A_ hc0_1;clear hr0_1 hc0_1;have HB:=A_ (Below.refl w.heap.size w);have H : ((impl_IsOrder.f k a0_0 l0_1).bind fun t955=>(if t955 = true then ((impl_Order_mirror.f k a0_0 l0_1).bind fun bt959=>(impl_FirstExtension.l0 k (([] : List Int)) 0 a0_0 l0_1 bt959.1 bt959.2)) else (some (([] : List Int),false)))) = some (r1,r2):=h;clear h;replace H:=Option.bind_eq_some_iff.mp H;obtain ⟨t955,A20,H⟩:=H;replace H : (if t955 = true then ((impl_Order_mirror.f k a0_0 l0_1).bind fun bt959=>(impl_FirstExtension.l0 k (([] : List Int)) 0 a0_0 l0_1 bt959.1 bt959.2)) else (some (([] : List Int),false))) = some (r1,r2):=H;have A2:=A_ A20;clear A20;by_cases c3 : t955 = true
 ·subst c3;have H1 : ((impl_Order_mirror.f k a0_0 l0_1).bind fun bt959=>(impl_FirstExtension.l0 k (([] : List Int)) 0 a0_0 l0_1 bt959.1 bt959.2)) = some (r1,r2):=by rw [if_pos rfl] at H;exact H
  clear H;have H:=H1;clear H1;obtain ⟨y956,hy956⟩ : ∃ y_ : List Int,y_ = (([] : List Int)):=⟨_,rfl⟩;replace H : ((impl_Order_mirror.f k a0_0 l0_1).bind fun bt959=>(impl_FirstExtension.l0 k y956 0 a0_0 l0_1 bt959.1 bt959.2)) = some (r1,r2):=by first|(rw [hy956];with_reducible exact H)|(have H2_:=(Option.bind_some _ _).symm.trans H;rw [hy956];with_reducible exact H2_)|(have H2_:=(Option.bind_some _ _).symm.trans H;with_reducible exact H2_)|with_reducible exact H|(rw [hy956];exact H)|exact H
  have Ny956:=A_ hy956;clear hy956;replace H:=Option.bind_eq_some_iff.mp H;obtain ⟨⟨t959,t960⟩,A40,H⟩:=H;replace H : (impl_FirstExtension.l0 k y956 0 a0_0 l0_1 t959 t960) = some (r1,r2):=H;have A4:=A_ A40;clear A40;have H':=A_ H;clear H;go_enter Tryd.func49,Tryd.ntmps49
  go_wp2_with (first|((with_reducible refine gate_dst (N:=1) rfl ?_);refine box_event ?hg (N:=1) ?hd (cs:=#[.int .i64 a0_0,.slice A0_1 l0_1.length c0_1]) (t:=26) ?hr ?_;(case hd=>rfl);(case hg=>rfl);(case hr=>first|(go_simp;done)|(go_simp;rfl));intro gb954 hg w5 hbox hb;have BK954:=A_ (hbox);have GW954:=A_ ((by rw [hg];exact (below_size bb_) : w.heap.size ≤ gb954));have GE954:=A_ ((by rw [hg];exact (below_size bb_) : w.heap.size ≤ gb954));replace HB:=A_ (below_step bb_ hb);clear hb hbox hg;have hcz6_0 : w5.cell? ⟨gb954,0,none⟩ = some (.int .i64 a0_0):=blk_cell BK954.out 0;have hcz6_1 : w5.cell? ⟨gb954,1,none⟩ = some (.slice A0_1 l0_1.length c0_1):=blk_cell BK954.out 1;have hfz6_0:=blk_frozen BK954.out 0;have hfz6_1:=blk_frozen BK954.out 1)|((with_reducible refine gate_callee (f:=32) rfl ?_);refine goesL_ (some 9) rfl rfl Tryd.func32 (by kernel_rfl) rfl #[.agg #[.int .i64 a0_0,.slice A0_1 l0_1.length c0_1]] rfl au_ ?_;(with_reducible refine (impl_IsOrder.calls k a0_0 _ _ l0_1 true _ ?side1 ?side2 ?side3 A2.out).mono ?_);(case side1=>exact cl_ (Kd.C_below HR0_1.out HB.out));(case side2=>exact HC0_1.out);(case side3=>first|exact HT.out|exact HT.out.below bb_|(repeat (first|exact HT.out|apply TabOK.drewN|apply TabOK.drew|apply TabOK.alloc)));rintro e w7 ⟨rfl,hb⟩;refine ⟨_,rfl,?_⟩;replace BK954:=bz BK954 hb;replace HB:=A_ (below_step bb_ hb);(try clear hb);(try clear hb2);(try clear hk);(try clear hi))|((with_reducible refine gate_dst (N:=11) rfl ?_);refine Kd.R_lit (Kd.int .i64) _ 3 ?hg (N:=11) ?hd (xs:=([] : List Int)) (inner:=[]) (ok:=fun _=>True) (okp:=fun _=>True) ?hr ?hp (fun _ hk=>hk) trivial (Below.refl _ _) (Nat.le_refl _) (by simp) ?_;(case hd=>rfl);(case hg=>rfl);(case hr=>first|(go_simp;done)|(go_simp;rfl));(case hp=>exact (Reps.none _ _));intro v957 w8 ho9 hb hg_ hnew_;clear hg_ hnew_;(first|rw [← Ny956.out] at ho9|(simp only [Int.reduceToNat] at ho9;rw [← Ny956.out] at ho9));have HO958:=A_ (Kd.R_lower ho9 (below_size bb_));replace BK954:=bz BK954 hb;replace HB:=A_ (below_step bb_ hb);clear hb ho9;have hcz10_0 : w8.cell? ⟨gb954,0,none⟩ = some (.int .i64 a0_0):=blk_cell BK954.out 0;have hcz10_1 : w8.cell? ⟨gb954,1,none⟩ = some (.slice A0_1 l0_1.length c0_1):=blk_cell BK954.out 1;have hfz10_0:=blk_frozen BK954.out 0;have hfz10_1:=blk_frozen BK954.out 1)|((with_reducible refine gate_callee (f:=103) rfl ?_);refine goesL_ (some 13) rfl rfl Tryd.func103 (by kernel_rfl) rfl #[.agg #[.int .i64 a0_0,.slice A0_1 l0_1.length c0_1]] rfl au_ ?_;(with_reducible refine (impl_Order_mirror.calls k a0_0 _ _ l0_1 t959 t960 _ ?side1 ?side2 A4.out).mono ?_);(case side1=>exact cl_ (Kd.C_below HR0_1.out HB.out));(case side2=>exact HC0_1.out);rintro e w11 ⟨v961,rfl,ho0,hb⟩;refine ⟨_,rfl,?_⟩;have HO962:=A_ (Kd.R_lower (Kd.R_new' ho0 (Kd.R_lt (rl_ HO958))) (below_size bb_));replace HO958:=A_ (Kd.R_elder' (rl_ HO958) (Kd.R_base ho0) hb);replace BK954:=bz BK954 hb;replace HB:=A_ (below_step bb_ hb);(try clear hb);(try clear hb2);(try clear hk);(try clear hi);(try clear ho0))|((with_reducible refine gate_dst (N:=6) rfl ?_);refine box_event ?hg (N:=6) ?hd (cs:=#[.int .i64 0,.slice none 0 0]) (t:=26) ?hr ?_;(case hd=>rfl);(case hg=>rfl);(case hr=>first|(go_simp;done)|(go_simp;rfl));intro gb963 hg w12 hbox hb;replace HO958:=rb_ HO958 hb;replace HO962:=rb_ HO962 hb;have BK963:=A_ (hbox);have GW963:=A_ ((by rw [hg];exact (below_size bb_) : w.heap.size ≤ gb963));have GE963:=A_ ((by rw [hg];exact (below_size bb_) : w.heap.size ≤ gb963));replace HB:=A_ (below_step bb_ hb);have NB954_963:=A_ ((by rw [hg];exact Nat.ne_of_lt (blk_lt (bl_ BK954)) : gb954 ≠ gb963));have NB963_954:=A_ ((by rw [hg];exact Nat.ne_of_gt (blk_lt (bl_ BK954)) : gb963 ≠ gb954));replace BK954:=bz BK954 hb;clear hb hbox hg;have hnb13:=NB963_954.out;have hnc13:=NB954_963.out;have hcz14_0 : w12.cell? ⟨gb963,0,none⟩ = some (.int .i64 0):=blk_cell BK963.out 0;have hcz14_1 : w12.cell? ⟨gb963,1,none⟩ = some (.slice none 0 0):=blk_cell BK963.out 1;have hfz14_0:=blk_frozen BK963.out 0;have hfz14_1:=blk_frozen BK963.out 1;obtain ⟨Ao15,co15,eo15⟩:=Kd.R_slice HO962.out;subst eo15))
  go_loopg [4,5] k (fun kq v4 v5 w'=>∃ (x4_1 : List Int) (x5_1 : Int),v5 = .int .i64 x5_1 ∧ Aside0 (impl_FirstExtension.l0 kq x4_1 x5_1 a0_0 l0_1 t959 t960 = some (r1,r2)) ∧ Aside0 (kq ≤ k) ∧ Aside0 (Kd.R (Kd.int .i64) 3 w' w.heap.size (fun k_=>some k_ ≠ ((.slice Ao15 t960.length co15) : Value).ownBlock) v4 x4_1) ∧ Aside0 (Kd.R (Kd.int .i64) 3 w' w.heap.size (fun k_=>some k_ ≠ (v4 : Value).ownBlock) (.slice Ao15 t960.length co15) t960) ∧ Aside0 (w'.heap[gb954]? = some (.cells #[.int .i64 a0_0,(.slice A0_1 l0_1.length c0_1)] 26 (0,0))) ∧ Aside0 (w'.heap[gb963]? = some (.cells #[.int .i64 t959,(.slice Ao15 t960.length co15)] 26 (0,0))) ∧ Aside0 (Below w.heap.size w w'))
  case atStart=>exact ⟨(y956),(0),(by first|rfl|(simp;done)|(simp [*];done)),H',⟨Nat.le_refl _⟩,⟨by (with_reducible repeat (first|apply Kd.R_alloc|apply Kd.R_drewN|apply Kd.R_drew));exact Kd.R_mono (Kd.R_far (p:=⟨gb963,1,none⟩) (Kd.R_far (p:=⟨gb963,0,none⟩) (Kd.R_types HO958.out BK963.out (by decide)) (fun _ hk=>hk.2) (.int .i64 t959)) (fun _ hk=>hk.2) (.slice Ao15 t960.length co15)) (fun _ hk=>hk.1.2)⟩,⟨by (with_reducible repeat (first|apply Kd.R_alloc|apply Kd.R_drewN|apply Kd.R_drew));exact Kd.R_mono (Kd.R_far (p:=⟨gb963,1,none⟩) (Kd.R_far (p:=⟨gb963,0,none⟩) (Kd.R_types HO962.out BK963.out (by decide)) (fun _ hk=>hk.2) (.int .i64 t959)) (fun _ hk=>hk.2) (.slice Ao15 t960.length co15)) (fun _ hk=>hk.1.2)⟩,⟨by (with_reducible repeat (first|refine blk_drewN ?_ _|refine blk_drew ?_|refine blk_alloc ?_ _));refine blk_far ?_ NB954_963.out _;(with_reducible repeat (first|refine blk_drewN ?_ _|refine blk_drew ?_|refine blk_alloc ?_ _));refine blk_far ?_ NB954_963.out _;(with_reducible repeat (first|refine blk_drewN ?_ _|refine blk_drew ?_|refine blk_alloc ?_ _));exact BK954.out⟩,⟨by (with_reducible repeat (first|refine blk_drewN ?_ _|refine blk_drew ?_|refine blk_alloc ?_ _));refine blk_put (cs:=#[.int .i64 t959,.slice none 0 0]) ?_ 1 _ rfl;(with_reducible repeat (first|refine blk_drewN ?_ _|refine blk_drew ?_|refine blk_alloc ?_ _));refine blk_put (cs:=#[.int .i64 0,.slice none 0 0]) ?_ 0 _ rfl;(with_reducible repeat (first|refine blk_drewN ?_ _|refine blk_drew ?_|refine blk_alloc ?_ _));exact BK963.out⟩,⟨bb_⟩⟩
  case round =>
   clear H';try clear c1
   try clear p2
   try clear c3
   try clear c4
   try clear c10
   try clear c13
   try clear hcz10_0
   try clear hcz10_1
   try clear hcz14_0
   try clear hcz14_1
   try clear hcz6_0
   try clear hcz6_1
   try clear hfz10_0
   try clear hfz10_1
   try clear hfz14_0
   try clear hfz14_1
   try clear hfz6_0
   try clear hfz6_1
   obtain ⟨x4_1,x5_1,rfl,HA,HK1,HO_4,HO_964001,BK954,BK963,HB⟩:=hrel;cases gk with
   | zero=>exact absurd HA.out (by simp [impl_FirstExtension.l0])
   | succ k1 =>
    have H:=HA.out;clear HA;simp only [impl_FirstExtension.l0] at H
    by_cases c16 : (x4_1.length : Int) < a0_0
    ·rw [if_pos c16] at H;have c16b0 : decide ((x4_1.length : Int) < a0_0) = true:=decide_eq_true c16;clear c16;have H':=A_ H;clear H;obtain ⟨Ao17,co17,eo17⟩:=Kd.R_slice HO_4.out;subst eo17;have hnb18:=NB954_963.out;have hnc18:=NB963_954.out;have hcz19_0 : wr.cell? ⟨gb954,0,none⟩ = some (.int .i64 a0_0):=blk_cell BK954.out 0;have hcz19_1 : wr.cell? ⟨gb954,1,none⟩ = some (.slice A0_1 l0_1.length c0_1):=blk_cell BK954.out 1;have hfz19_0:=blk_frozen BK954.out 0;have hfz19_1:=blk_frozen BK954.out 1;go_wp2
     go_loopg [4,5,21] k1 (fun kq v4 v5 v21 w'=>∃ (x4_2 : List Int) (x5_2 : Int) (x21_2 : Int),v5 = .int .i64 x5_2 ∧ v21 = .int .i64 x21_2 ∧ Aside0 (impl_FirstExtension.l1 kq x4_2 x5_2 a0_0 x21_2 a0_0 l0_1 t959 t960 = some (r1,r2)) ∧ Aside0 (kq ≤ k1) ∧ Aside0 (Kd.R (Kd.int .i64) 3 w' w.heap.size (fun k_=>some k_ ≠ ((.slice Ao15 t960.length co15) : Value).ownBlock) v4 x4_2) ∧ Aside0 (Kd.R (Kd.int .i64) 3 w' w.heap.size (fun k_=>some k_ ≠ (v4 : Value).ownBlock) (.slice Ao15 t960.length co15) t960) ∧ Aside0 (w'.heap[gb954]? = some (.cells #[.int .i64 a0_0,(.slice A0_1 l0_1.length c0_1)] 26 (0,0))) ∧ Aside0 (w'.heap[gb963]? = some (.cells #[.int .i64 t959,(.slice Ao15 t960.length co15)] 26 (0,0))) ∧ Aside0 (Below w.heap.size w w'))
     case atStart=>exact ⟨(x4_1),(x5_1),(0),(by first|rfl|(simp;done)|(simp [*];done)),(by first|rfl|(simp;done)|(simp [*];done)),H',⟨Nat.le_refl _⟩,⟨by (with_reducible repeat (first|apply Kd.R_alloc|apply Kd.R_drewN|apply Kd.R_drew));exact HO_4.out⟩,⟨by (with_reducible repeat (first|apply Kd.R_alloc|apply Kd.R_drewN|apply Kd.R_drew));exact HO_964001.out⟩,⟨bl_ BK954⟩,⟨bl_ BK963⟩,⟨bb_⟩⟩
     case round =>
      clear H';try clear c1
      try clear p2
      try clear c3
      try clear c4
      try clear c10
      try clear c13
      try clear c16
      try clear c16b0
      try clear c18
      try clear hcz10_0
      try clear hcz10_1
      try clear hcz14_0
      try clear hcz14_1
      try clear hcz19_0
      try clear hcz19_1
      try clear hcz6_0
      try clear hcz6_1
      try clear hfz10_0
      try clear hfz10_1
      try clear hfz14_0
      try clear hfz14_1
      try clear hfz19_0
      try clear hfz19_1
      try clear hfz6_0
      try clear hfz6_1
      try clear p2
      obtain ⟨x4_2,x5_2,x21_2,rfl,rfl,HA,HK2,HO_4,HO_964001,BK954,BK963,HB⟩:=hrel;cases gk with
      | zero=>exact absurd HA.out (by simp [impl_FirstExtension.l1])
      | succ k2 =>
       have H:=HA.out;clear HA;simp only [impl_FirstExtension.l1] at H
       by_cases c20 : x21_2 < a0_0
       ·rw [if_pos c20] at H;have c20b0 : decide (x21_2 < a0_0) = true:=decide_eq_true c20;clear c20;by_cases c21 : 0 ≤ x21_2
        ·rw [if_pos c21] at H;have c21b0:=eq_true c21;have c21b1 : decide (0 ≤ x21_2) = true:=decide_eq_true c21;clear c21;obtain ⟨ji22,hji22⟩ : ∃ j_ : Int,(shr .i64 x5_2 x21_2) = j_:=⟨_,rfl⟩;replace H : (if (Go.bits .and .i64 (ji22) 1) = 0 then (if x21_2 < (t960.length : Int) then (if (Go.bits .andNot .i64 (rd t960 x21_2) x5_2) = 0 then (if x4_2.length < 17592186044416 then (impl_FirstExtension.l0 k2 (x4_2 ++ [x21_2]) (Go.bits .or .i64 x5_2 (shl .i64 1 x21_2)) a0_0 l0_1 t959 t960) else (none)) else (impl_FirstExtension.l1 k2 x4_2 x5_2 a0_0 (wrap64 (x21_2 + 1)) a0_0 l0_1 t959 t960)) else (none)) else (impl_FirstExtension.l1 k2 x4_2 x5_2 a0_0 (wrap64 (x21_2 + 1)) a0_0 l0_1 t959 t960)) = some (r1,r2):=by first|(rw [hji22] at H;exact H)|(simp only [hji22] at H ⊢;exact H)
         have hji22_ : (x5_2 / 2 ^ min x21_2.toNat 64) = ji22:=hji22;have hji22z : x21_2 ≤ 64 → (x5_2 / 2 ^ x21_2.toNat) = ji22:=shr_small hji22;by_cases c23 : (Go.bits .and .i64 (ji22) 1) = 0
         ·rw [if_pos c23] at H;have c23b0 : ((Go.bits .and .i64 (ji22) 1) == 0) = true:=beq_iff_eq.mpr c23;have c23b1 : ((Go.bits .and .i64 (ji22) 1) != 0) = false:=bne_eq_false_iff_eq.mpr c23;clear c23;by_cases c24 : x21_2 < (t960.length : Int)
          ·rw [if_pos c24] at H;have c24b0 : decide (x21_2 < (t960.length : Int)) = true:=decide_eq_true c24;clear c24;by_cases c25 : (Go.bits .andNot .i64 (rd t960 x21_2) x5_2) = 0
           ·rw [if_pos c25] at H;have c25b0 : ((Go.bits .andNot .i64 (rd t960 x21_2) x5_2) == 0) = true:=beq_iff_eq.mpr c25;have c25b1 : ((Go.bits .andNot .i64 (rd t960 x21_2) x5_2) != 0) = false:=bne_eq_false_iff_eq.mpr c25;clear c25;by_cases c26 : x4_2.length < 17592186044416
            ·rw [if_pos c26] at H;have LMc26:=A_ c26;clear c26;obtain ⟨y965,hy965⟩ : ∃ y_ : List Int,y_ = (x4_2 ++ [x21_2]):=⟨_,rfl⟩;replace H : (impl_FirstExtension.l0 k2 y965 (Go.bits .or .i64 x5_2 (shl .i64 1 x21_2)) a0_0 l0_1 t959 t960) = some (r1,r2):=by first|(rw [hy965];with_reducible exact H)|(have H2_:=(Option.bind_some _ _).symm.trans H;rw [hy965];with_reducible exact H2_)|(have H2_:=(Option.bind_some _ _).symm.trans H;with_reducible exact H2_)|with_reducible exact H|(rw [hy965];exact H)|exact H
             have Ny965:=A_ hy965;clear hy965;have c27b0:=eq_true (of_decide_eq_true (by first|(with_reducible assumption)|assumption) : 0 ≤ x21_2);obtain ⟨ji28,hji28⟩ : ∃ j_ : Int,(shl .i64 1 x21_2) = j_:=⟨_,rfl⟩;replace H : (impl_FirstExtension.l0 k2 y965 (Go.bits .or .i64 x5_2 (ji28)) a0_0 l0_1 t959 t960) = some (r1,r2):=by first|(rw [hji28] at H;exact H)|(simp only [hji28] at H ⊢;exact H)
             have hji28_ : (IntKind.i64.wrap (1 * 2 ^ min x21_2.toNat 64)) = ji28:=hji28;have hji28z : x21_2 ≤ 64 → (IntKind.i64.wrap (1 * 2 ^ x21_2.toNat)) = ji28:=shl_small hji28;have hji28u : (IntKind.i64.wrap (2 ^ min x21_2.toNat 64)) = ji28:=by have h_:=hji28_;rw [Int.one_mul] at h_;exact h_
             have hji28v : x21_2 ≤ 64 → (IntKind.i64.wrap (2 ^ x21_2.toNat)) = ji28:=fun hle_=>by have h_:=hji28z hle_;rw [Int.one_mul] at h_;exact h_
             have hji28y : (wrap64 (1 * 2 ^ min x21_2.toNat 64)) = ji28:=(i64_w _).symm.trans hji28_;have hji28x : x21_2 ≤ 64 → (wrap64 (1 * 2 ^ x21_2.toNat)) = ji28:=fun h_=>(i64_w _).symm.trans (hji28z h_)
             have H':=A_ H;clear H;have hnb29:=NB963_954.out;have hnc29:=NB954_963.out;have hcz30_0 : wr.cell? ⟨gb963,0,none⟩ = some (.int .i64 t959):=blk_cell BK963.out 0;have hcz30_1 : wr.cell? ⟨gb963,1,none⟩ = some (.slice Ao15 t960.length co15):=blk_cell BK963.out 1;have hfz30_0:=blk_frozen BK963.out 0;have hfz30_1:=blk_frozen BK963.out 1;have p964 : 0 ≤ (x21_2 : Int):=of_decide_eq_true (by first|(with_reducible assumption)|assumption);have q964 : x21_2 < (t960.length : Int):=of_decide_eq_true (by first|(with_reducible assumption)|assumption);obtain ⟨ad964,e964,hx964_0⟩:=Kd.at_int (Kd.R_reads' HO_964001.out).2.2 x21_2 p964 q964;cases e964
             replace p964:=eq_true p964;replace q964:=eq_true q964;try go_wp2
             replace HO_4:=A_ (Kd.R_drew HO_4.out);replace HO_964001:=A_ (Kd.R_drew HO_964001.out);replace BK954:=A_ (blk_drew BK954.out);replace BK963:=A_ (blk_drew BK963.out);replace HB:=A_ (below_drew1 HB.out);refine start_ (n:=10) (S:=fun w'=>True) (ds:=[]) #[F,F,F,F,F,F,F,F,F,F] (by kernel_rfl) rfl rfl trivial (fun hHeld=>?_);refine with_tabW impl_FirstExtension.tab9 impl_FirstExtension.bits9 (fun HT_ HW_=>?_)
             generalize wr.drew = w31 at HO_4 HO_964001 BK954 BK963 HB hHeld ⊢
             refine pure_ (i:=0) (N:=some 39) (v:=?_) (a':=?_) #[T,F,F,F,F,F,F,F,F,F] rfl rfl (any_of HT_.out (by kernel_rfl)) (fun _ _ _ h=>h) (Or.inl ⟨by rfl,?_⟩) ?_ ?_
             rotate_left;·intro w';go_simp;with_reducible rfl
             rotate_left;·simp only [Act.put,L_,M_,N_,i64_w,i32_w];rfl
             refine pure_ (i:=1) (N:=some 40) (v:=?_) (a':=?_) #[T,T,F,F,F,F,F,F,F,F] rfl rfl (any_of HT_.out (by kernel_rfl)) (fun _ _ _ h=>h) (Or.inl ⟨by rfl,?_⟩) ?_ ?_
             rotate_left;·intro w';go_simp;with_reducible rfl
             rotate_left;·simp only [Act.put,L_,M_,N_,i64_w,i32_w];rfl
             refine pure_ (i:=4) (N:=some 43) (v:=?_) (a':=?_) #[T,T,F,F,T,F,F,F,F,F] rfl rfl (any_of HT_.out (by kernel_rfl)) (fun _ _ _ h=>h) (Or.inl ⟨by rfl,?_⟩) ?_ ?_
             rotate_left;·intro w';go_simp;with_reducible rfl
             rotate_left;·simp only [Act.put,L_,M_,N_,i64_w,i32_w];rfl
             refine pure_ (i:=5) (N:=some 44) (v:=?_) (a':=?_) #[T,T,F,F,T,T,F,F,F,F] rfl rfl (any_of HT_.out (by kernel_rfl)) (fun _ _ _ h=>h) (Or.inl ⟨by rfl,?_⟩) ?_ ?_
             rotate_left;·intro w';go_simp;with_reducible rfl
             rotate_left;·simp only [Act.put,L_,M_,N_,i64_w,i32_w];rfl
             refine pure_ (i:=6) (N:=some 45) (v:=?_) (a':=?_) #[T,T,F,F,T,T,T,F,F,F] rfl rfl (any_of HT_.out (by kernel_rfl)) (fun _ _ _ h=>h) (Or.inl ⟨by rfl,?_⟩) ?_ ?_
             rotate_left;·intro w';go_simp;with_reducible rfl
             rotate_left;·simp only [Act.put,L_,M_,N_,i64_w,i32_w];rfl
             refine pure_ (i:=7) (N:=some 46) (v:=?_) (a':=?_) #[T,T,F,F,T,T,T,T,F,F] rfl rfl (any_of HT_.out (by kernel_rfl)) (fun _ _ _ h=>h) (Or.inl ⟨by rfl,?_⟩) ?_ ?_
             rotate_left;·intro w';go_simp;with_reducible rfl
             rotate_left;·simp only [Act.put,L_,M_,N_,i64_w,i32_w];rfl
             refine one_ (i:=2) (N:=some 41) #[T,T,T,F,T,T,T,T,F,F] rfl rfl (one_of HT_.out (by kernel_rfl)) (by decide) (fun K hK=>?_)
             refine value_ (w1:=?_) (v:=?_) (by rfl) rfl ?_ ?_
             rotate_left 2
             ·go_simp
              constructor
              ·rfl
              ·rfl
             refine hK.out _ _ trivial (fun hHeld=>?_)
             clear hK K;refine norm_ (a':=?_) ?_ ?_
             rotate_left
             ·show Act.put _ (some 41) _ = _
              simp only [Act.put,L_,M_,N_,i64_w,i32_w]
              rfl
             refine one_ (i:=3) (N:=some 42) #[T,T,T,T,T,T,T,T,F,F] rfl rfl (one_of HT_.out (by kernel_rfl)) (by decide) (fun K hK=>?_)
             refine Kd.R_append_step (Kd.int .i64) (w0:=w) w.heap.size (by rfl) (.tmp 39) (.tmp 41) 22 3 (.int .i64 0) 8 rfl Tryd.underlying22 info3 rfl (by decide) (by omega) u4 x4_2 x21_2 [.int .i64 x21_2] (fun k_=>some k_ ≠ (.slice (some ad964) t960.length co15 : Value).ownBlock) (fun _=>False) rfl rfl ?aP (fun _ hk=>hk.elim) ?aF ?aO ?aB ?aS ?aL ?_
             (case aP=>exact rfl)
             (case aB=>exact bb_)
             (case aF=>exact (fun k_ hk=>Kd.fresh' (Kd.R_lt (rl_ HO_964001)) k_ hk))
             (case aO=>exact (rl_ HO_4))
             (case aS=>exact (below_size bb_))
             (case aL=>have:=LMc26.out;omega)
             intro v966 w32 ho hb hg hat
             rw [← Ny965.out] at ho;replace HO_964001:=A_ (Kd.R_after (ok:=(fun _=>True)) (by (with_reducible repeat (first|apply Kd.R_alloc|apply Kd.R_drewN|apply Kd.R_drew));exact Kd.R_mono HO_964001.out (fun _ hk=>⟨trivial,hk⟩)) hg hat);replace BK954:=A_ (blk_grown (g:=gb954) (o:=.cells #[.int .i64 a0_0,.slice A0_1 l0_1.length c0_1] 26 (0,0)) (bl_ BK954) hg (Kd.R_ne HO_4.out BK954.out (by decide)));replace BK963:=A_ (blk_grown (g:=gb963) (o:=.cells #[.int .i64 t959,.slice (some ad964) t960.length co15] 26 (0,0)) (bl_ BK963) hg (Kd.R_ne HO_4.out BK963.out (by decide)));replace HB:=A_ (hb);have HO967:=A_ (ho);clear HO_4;clear ho hb hg hat;refine hK.out _ _ trivial (fun hHeld=>?_)
             clear hK K;refine norm_ (a':=?_) ?_ ?_
             rotate_left
             ·show Act.put _ (some 42) _ = _
              simp only [Act.put,L_,M_,N_,i64_w,i32_w]
              rfl
             refine pure_ (i:=8) (N:=some 4) (v:=?_) (a':=?_) #[T,T,T,T,T,T,T,T,T,F] rfl rfl (any_of HT_.out (by kernel_rfl)) (fun _ _ _ h=>h) (Or.inl ⟨by rfl,?_⟩) ?_ ?_
             rotate_left;·intro w';go_simp;with_reducible rfl
             rotate_left;·simp only [Act.put,L_,M_,N_,i64_w,i32_w];rfl
             refine pure_ (i:=9) (N:=some 5) (v:=?_) (a':=?_) #[T,T,T,T,T,T,T,T,T,T] rfl rfl (any_of HT_.out (by kernel_rfl)) (fun _ _ _ h=>h) (Or.inl ⟨by rfl,?_⟩) ?_ ?_
             rotate_left;·intro w';go_simp;with_reducible rfl
             rotate_left;·simp only [Act.put,L_,M_,N_,i64_w,i32_w];rfl
             refine done_ (done_of HT_.out (by kernel_rfl)) ?_
             try go_wp2
             go_roundg k2
             case measure=>have:=HK1.out;have:=HK2.out;omega
             case rel=>exact ⟨(y965),(Go.bits .or .i64 x5_2 (ji28)),(by first|rfl|(simp;done)|(simp only [← hji28] <;> (first|rfl|simp))|(simp [*];done)),H',⟨by have:=HK1.out;have:=HK2.out;omega⟩,⟨by (with_reducible repeat (first|apply Kd.R_alloc|apply Kd.R_drewN|apply Kd.R_drew));exact HO967.out⟩,⟨by (with_reducible repeat (first|apply Kd.R_alloc|apply Kd.R_drewN|apply Kd.R_drew));exact Kd.R_mono HO_964001.out (fun _ hk=>hk.2)⟩,⟨bl_ BK954⟩,⟨bl_ BK963⟩,⟨bb_⟩⟩
            ·rw [if_neg c26] at H;exact absurd H (by simp)
           ·rw [if_neg c25] at H;have c25b0 : ((Go.bits .andNot .i64 (rd t960 x21_2) x5_2) == 0) = false:=beq_eq_false_iff_ne.mpr c25;have c25b1 : ((Go.bits .andNot .i64 (rd t960 x21_2) x5_2) != 0) = true:=bne_iff_ne.mpr c25;have H':=A_ H;clear H;have hnb33:=NB963_954.out;have hnc33:=NB954_963.out;have hcz34_0 : wr.cell? ⟨gb963,0,none⟩ = some (.int .i64 t959):=blk_cell BK963.out 0;have hcz34_1 : wr.cell? ⟨gb963,1,none⟩ = some (.slice Ao15 t960.length co15):=blk_cell BK963.out 1;have hfz34_0:=blk_frozen BK963.out 0;have hfz34_1:=blk_frozen BK963.out 1;have p964 : 0 ≤ (x21_2 : Int):=of_decide_eq_true (by first|(with_reducible assumption)|assumption);have q964 : x21_2 < (t960.length : Int):=of_decide_eq_true (by first|(with_reducible assumption)|assumption);obtain ⟨ad964,e964,hx964_0⟩:=Kd.at_int (Kd.R_reads' HO_964001.out).2.2 x21_2 p964 q964;cases e964
            replace p964:=eq_true p964;replace q964:=eq_true q964;go_wp2
            go_roundg k2
            case measure=>have:=HK1.out;have:=HK2.out;omega
            case rel=>exact ⟨(x4_2),(x5_2),(wrap64 (x21_2 + 1)),(by first|rfl|(simp;done)|(simp [*];done)),(by first|rfl|(simp;done)|(simp [*];done)),H',⟨by have:=HK1.out;have:=HK2.out;omega⟩,⟨by (with_reducible repeat (first|apply Kd.R_alloc|apply Kd.R_drewN|apply Kd.R_drew));exact HO_4.out⟩,⟨by (with_reducible repeat (first|apply Kd.R_alloc|apply Kd.R_drewN|apply Kd.R_drew));exact HO_964001.out⟩,⟨bl_ BK954⟩,⟨bl_ BK963⟩,⟨bb_⟩⟩
          ·rw [if_neg c24] at H;exact absurd H (by simp)
         ·rw [if_neg c23] at H;have c23b0 : ((Go.bits .and .i64 (ji22) 1) == 0) = false:=beq_eq_false_iff_ne.mpr c23;have c23b1 : ((Go.bits .and .i64 (ji22) 1) != 0) = true:=bne_iff_ne.mpr c23;have H':=A_ H;clear H;go_wp2
          go_roundg k2
          case measure=>have:=HK1.out;have:=HK2.out;omega
          case rel=>exact ⟨(x4_2),(x5_2),(wrap64 (x21_2 + 1)),(by first|rfl|(simp;done)|(simp [*];done)),(by first|rfl|(simp;done)|(simp [*];done)),H',⟨by have:=HK1.out;have:=HK2.out;omega⟩,⟨by (with_reducible repeat (first|apply Kd.R_alloc|apply Kd.R_drewN|apply Kd.R_drew));exact HO_4.out⟩,⟨by (with_reducible repeat (first|apply Kd.R_alloc|apply Kd.R_drewN|apply Kd.R_drew));exact HO_964001.out⟩,⟨bl_ BK954⟩,⟨bl_ BK963⟩,⟨bb_⟩⟩
        ·rw [if_neg c21] at H;exact absurd H (by simp)
       ·rw [if_neg c20] at H;have c20b0 : decide (x21_2 < a0_0) = false:=decide_eq_false c20;clear c20;have H':=A_ H;clear H;go_wp2
        go_roundg k2
        case measure=>have:=HK1.out;have:=HK2.out;omega
        case rel=>exact ⟨(x4_2),(x5_2),(by first|rfl|(simp;done)|(simp [*];done)),H',⟨by have:=HK1.out;have:=HK2.out;omega⟩,⟨by (with_reducible repeat (first|apply Kd.R_alloc|apply Kd.R_drewN|apply Kd.R_drew));exact HO_4.out⟩,⟨by (with_reducible repeat (first|apply Kd.R_alloc|apply Kd.R_drewN|apply Kd.R_drew));exact HO_964001.out⟩,⟨bl_ BK954⟩,⟨bl_ BK963⟩,⟨bb_⟩⟩
    ·rw [if_neg c16] at H;have c16b0 : decide ((x4_1.length : Int) < a0_0) = false:=decide_eq_false c16;clear c16;simp only [Option.some.injEq,Prod.mk.injEq] at H
     obtain ⟨rfl,rfl⟩:=H;obtain ⟨Ao35,co35,eo35⟩:=Kd.R_slice HO_4.out;subst eo35;have hnb36:=NB954_963.out;have hnc36:=NB963_954.out;have hcz37_0 : wr.cell? ⟨gb954,0,none⟩ = some (.int .i64 a0_0):=blk_cell BK954.out 0;have hcz37_1 : wr.cell? ⟨gb954,1,none⟩ = some (.slice A0_1 l0_1.length c0_1):=blk_cell BK954.out 1;have hfz37_0:=blk_frozen BK954.out 0;have hfz37_1:=blk_frozen BK954.out 1;go_wp2
     go_ret2
     exact ⟨_,by first|rfl|(simp [errW_none,errW_some] <;> rfl)|(simp [*,errW_none,errW_some] <;> rfl),by (with_reducible repeat (first|apply Kd.R_alloc|apply Kd.R_drewN|apply Kd.R_drew));exact Kd.R_mono HO_4.out (fun _ hk=>trivial),bb_⟩
 ·replace c3:=Bool.eq_false_iff.mpr c3;subst c3;have H1 : (some (([] : List Int),false)) = some (r1,r2):=by rw [if_neg (show ¬ (false = true) by decide)] at H;exact H
  clear H;have H:=H1;clear H1;simp only [Option.some.injEq,Prod.mk.injEq] at H
  obtain ⟨rfl,rfl⟩:=H;go_enter Tryd.func49,Tryd.ntmps49
  go_wp2_with (first|((with_reducible refine gate_dst (N:=1) rfl ?_);refine box_event ?hg (N:=1) ?hd (cs:=#[.int .i64 a0_0,.slice A0_1 l0_1.length c0_1]) (t:=26) ?hr ?_;(case hd=>rfl);(case hg=>rfl);(case hr=>first|(go_simp;done)|(go_simp;rfl));intro gb954 hg w38 hbox hb;have BK954:=A_ (hbox);have GW954:=A_ ((by rw [hg];exact (below_size bb_) : w.heap.size ≤ gb954));have GE954:=A_ ((by rw [hg];exact (below_size bb_) : w.heap.size ≤ gb954));replace HB:=A_ (below_step bb_ hb);clear hb hbox hg;have hcz39_0 : w38.cell? ⟨gb954,0,none⟩ = some (.int .i64 a0_0):=blk_cell BK954.out 0;have hcz39_1 : w38.cell? ⟨gb954,1,none⟩ = some (.slice A0_1 l0_1.length c0_1):=blk_cell BK954.out 1;have hfz39_0:=blk_frozen BK954.out 0;have hfz39_1:=blk_frozen BK954.out 1)|((with_reducible refine gate_callee (f:=32) rfl ?_);refine goesL_ (some 9) rfl rfl Tryd.func32 (by kernel_rfl) rfl #[.agg #[.int .i64 a0_0,.slice A0_1 l0_1.length c0_1]] rfl au_ ?_;(with_reducible refine (impl_IsOrder.calls k a0_0 _ _ l0_1 false _ ?side1 ?side2 ?side3 A2.out).mono ?_);(case side1=>exact cl_ (Kd.C_below HR0_1.out HB.out));(case side2=>exact HC0_1.out);(case side3=>first|exact HT.out|exact HT.out.below bb_|(repeat (first|exact HT.out|apply TabOK.drewN|apply TabOK.drew|apply TabOK.alloc)));rintro e w40 ⟨rfl,hb⟩;refine ⟨_,rfl,?_⟩;replace BK954:=bz BK954 hb;replace HB:=A_ (below_step bb_ hb);(try clear hb);(try clear hb2);(try clear hk);(try clear hi)))
  go_ret2
  exact ⟨_,by first|rfl|(simp [errW_none,errW_some] <;> rfl)|(simp [*,errW_none,errW_some] <;> rfl),by first|exact Kd.R_nil _ _ _ _ _|exact Kd.N_nil _ _ _ _ _|exact Kd.V_nil _ _ _ _ _|exact Kd.Q_nil _ _ _ _ _|exact Kd.S_nil _ _ _ _ _,bb_⟩
def impl_isNaming.l0 : Nat → List Int → Int → Int → List Int → Int → Int → Option (Bool)
 | 0,_,_,_,_,_,_=>none
 | k + 1,x0,x1,x5,x13,x14,x15=>if x15 < x14 then (if 0 ≤ x15 then (if x15 < (x13.length : Int) then (if 0 ≤ (rd x13 x15) then (impl_isNaming.l0 k x0 x1 (Go.bits .or .i64 x5 (shl .i64 1 (rd x13 x15))) x13 x14 (wrap64 (x15 + 1))) else (none)) else (none)) else (none)) else (if (x0.length : Int) = x1 then (if 0 ≤ x1 then (some (x5 == (wrap64 ((shl .i64 1 x1) - 1)))) else (none)) else (some false))
def impl_isNaming.f (k : Nat) (l0 : List Int) (a1 : Int) : Option (Bool) := (impl_allWithin.f k l0 0 (wrap64 (a1 - 1))).bind fun t968 => (if t968 = true then (impl_isNaming.l0 k l0 a1 0 l0 (l0.length : Int) 0) else (some false))
set_option maxHeartbeats 8000000 in
set_option maxRecDepth 100000 in
theorem impl_isNaming.calls (k : Nat) (A0 : Option Addr) (c0 : Nat) (l0 : List Int) (a1 : Int) (r : Bool) (w : World) (hr0 : Kd.C (Kd.int .i64) w A0 l0.length l0) (hc0 : l0.length ≤ c0) (h : impl_isNaming.f k l0 a1 = some r) :
 Calls Tryd.prog 134 #[.slice A0 l0.length c0,.int .i64 a1] w fun e w'=>e = .returned (.bool r) ∧ Drawn0 w w':=by
 have HR0:=A_ hr0;have HC0:=A_ hc0;clear hr0 hc0;have H : ((impl_allWithin.f k l0 0 (wrap64 (a1 - 1))).bind fun t968=>(if t968 = true then (impl_isNaming.l0 k l0 a1 0 l0 (l0.length : Int) 0) else (some false))) = some r:=h;clear h;replace H:=Option.bind_eq_some_iff.mp H;obtain ⟨t968,A30,H⟩:=H;replace H : (if t968 = true then (impl_isNaming.l0 k l0 a1 0 l0 (l0.length : Int) 0) else (some false)) = some r:=H;have A3:=A_ A30;clear A30;by_cases c4 : t968 = true
 ·subst c4;have H1 : (impl_isNaming.l0 k l0 a1 0 l0 (l0.length : Int) 0) = some r:=by rw [if_pos rfl] at H;exact H
  clear H;have H:=H1;clear H1;have H':=A_ H;clear H;go_enter Tryd.func134,Tryd.ntmps134
  go_wp2_with (first|((with_reducible refine gate_callee (f:=94) rfl ?_);refine goesL_ (some 11) rfl rfl Tryd.func94 (by kernel_rfl) rfl #[.slice A0 l0.length c0,.int .i64 0,.int .i64 (wrap64 (a1 - 1))] rfl au_ ?_;(with_reducible refine (impl_allWithin.calls k _ _ l0 0 (wrap64 (a1 - 1)) true _ ?side1 ?side2 A3.out).mono ?_);(case side1=>repeat (first|exact HR0.out|(with_reducible refine Kd.C_alloc ?_ _)|(with_reducible refine Kd.C_drewN ?_ _)|(with_reducible refine Kd.C_drew ?_)));(case side2=>exact HC0.out);rintro e w' ⟨rfl,⟨nd,rfl⟩⟩;refine ⟨_,rfl,?_⟩))
  go_loopg [5,15] k (fun kq v5 v15 w'=>∃ (x5_1 : Int) (x15_1 : Int),v5 = .int .i64 x5_1 ∧ v15 = .int .i64 x15_1 ∧ Aside0 (impl_isNaming.l0 kq l0 a1 x5_1 l0 (l0.length : Int) x15_1 = some r) ∧ Aside0 (kq ≤ k) ∧ Drawn0 w w')
  case atStart=>exact ⟨(0),(0),(by first|rfl|(simp;done)|(simp [*];done)),(by first|rfl|(simp;done)|(simp [*];done)),H',⟨Nat.le_refl _⟩,by repeat (first|exact Drawn0.refl _|apply Drawn0.step)⟩
  case round =>
   clear H';try clear c1
   try clear p2
   try clear c4
   obtain ⟨x5_1,x15_1,rfl,rfl,HA,HK1,⟨m1,rfl⟩⟩:=hrel;cases gk with
   | zero=>exact absurd HA.out (by simp [impl_isNaming.l0])
   | succ k1 =>
    have H:=HA.out;clear HA;simp only [impl_isNaming.l0] at H
    by_cases c5 : x15_1 < (l0.length : Int)
    ·rw [if_pos c5] at H;have c5b0 : decide (x15_1 < (l0.length : Int)) = true:=decide_eq_true c5;clear c5;by_cases c6 : 0 ≤ x15_1
     ·rw [if_pos c6] at H;have c6b0 : decide (0 ≤ x15_1) = true:=decide_eq_true c6;clear c6;by_cases c7 : x15_1 < (l0.length : Int)
      ·rw [if_pos c7] at H;have c7b0 : decide (x15_1 < (l0.length : Int)) = true:=decide_eq_true c7;clear c7;by_cases c8 : 0 ≤ (rd l0 x15_1)
       ·rw [if_pos c8] at H;have c8b0:=eq_true c8;have c8b1 : decide (0 ≤ (rd l0 x15_1)) = true:=decide_eq_true c8;clear c8;obtain ⟨ji9,hji9⟩ : ∃ j_ : Int,(shl .i64 1 (rd l0 x15_1)) = j_:=⟨_,rfl⟩;replace H : (impl_isNaming.l0 k1 l0 a1 (Go.bits .or .i64 x5_1 (ji9)) l0 (l0.length : Int) (wrap64 (x15_1 + 1))) = some r:=by first|(rw [hji9] at H;exact H)|(simp only [hji9] at H ⊢;exact H)
        have hji9_ : (IntKind.i64.wrap (1 * 2 ^ min (rd l0 x15_1).toNat 64)) = ji9:=hji9;have hji9z : (rd l0 x15_1) ≤ 64 → (IntKind.i64.wrap (1 * 2 ^ (rd l0 x15_1).toNat)) = ji9:=shl_small hji9;have hji9u : (IntKind.i64.wrap (2 ^ min (rd l0 x15_1).toNat 64)) = ji9:=by have h_:=hji9_;rw [Int.one_mul] at h_;exact h_
        have hji9v : (rd l0 x15_1) ≤ 64 → (IntKind.i64.wrap (2 ^ (rd l0 x15_1).toNat)) = ji9:=fun hle_=>by have h_:=hji9z hle_;rw [Int.one_mul] at h_;exact h_
        have hji9y : (wrap64 (1 * 2 ^ min (rd l0 x15_1).toNat 64)) = ji9:=(i64_w _).symm.trans hji9_;have hji9x : (rd l0 x15_1) ≤ 64 → (wrap64 (1 * 2 ^ (rd l0 x15_1).toNat)) = ji9:=fun h_=>(i64_w _).symm.trans (hji9z h_)
        have H':=A_ H;clear H;have p969 : 0 ≤ (x15_1 : Int):=of_decide_eq_true (by first|(with_reducible assumption)|assumption);have q969 : x15_1 < (l0.length : Int):=of_decide_eq_true (by first|(with_reducible assumption)|assumption);obtain ⟨ad969,e969,hx969_0⟩:=Kd.at_int HR0.out x15_1 p969 q969;cases e969
        replace p969:=eq_true p969;replace q969:=eq_true q969;go_wp2
        go_roundg k1
        case measure=>have:=HK1.out;omega
        case rel=>exact ⟨(Go.bits .or .i64 x5_1 (ji9)),(wrap64 (x15_1 + 1)),(by first|rfl|(simp;done)|(simp only [← hji9] <;> (first|rfl|simp))|(simp [*];done)),(by first|rfl|(simp;done)|(simp [*];done)),H',⟨by have:=HK1.out;omega⟩,by repeat (first|exact Drawn0.refl _|apply Drawn0.step)⟩
       ·rw [if_neg c8] at H;exact absurd H (by simp)
      ·rw [if_neg c7] at H;exact absurd H (by simp)
     ·rw [if_neg c6] at H;exact absurd H (by simp)
    ·rw [if_neg c5] at H;have c5b0 : decide (x15_1 < (l0.length : Int)) = false:=decide_eq_false c5;clear c5;by_cases c10 : (l0.length : Int) = a1
     ·rw [if_pos c10] at H;have c10b0 : ((l0.length : Int) == a1) = true:=beq_iff_eq.mpr c10;have c10b1 : ((l0.length : Int) != a1) = false:=bne_eq_false_iff_eq.mpr c10;clear c10;by_cases c11 : 0 ≤ a1
      ·rw [if_pos c11] at H;have c11b0:=eq_true c11;have c11b1 : decide (0 ≤ a1) = true:=decide_eq_true c11;clear c11;obtain ⟨ji12,hji12⟩ : ∃ j_ : Int,(shl .i64 1 a1) = j_:=⟨_,rfl⟩;replace H : (some (x5_1 == (wrap64 ((ji12) - 1)))) = some r:=by first|(rw [hji12] at H;exact H)|(simp only [hji12] at H ⊢;exact H)
       have hji12_ : (IntKind.i64.wrap (1 * 2 ^ min a1.toNat 64)) = ji12:=hji12;have hji12z : a1 ≤ 64 → (IntKind.i64.wrap (1 * 2 ^ a1.toNat)) = ji12:=shl_small hji12;have hji12u : (IntKind.i64.wrap (2 ^ min a1.toNat 64)) = ji12:=by have h_:=hji12_;rw [Int.one_mul] at h_;exact h_
       have hji12v : a1 ≤ 64 → (IntKind.i64.wrap (2 ^ a1.toNat)) = ji12:=fun hle_=>by have h_:=hji12z hle_;rw [Int.one_mul] at h_;exact h_
       have hji12y : (wrap64 (1 * 2 ^ min a1.toNat 64)) = ji12:=(i64_w _).symm.trans hji12_;have hji12x : a1 ≤ 64 → (wrap64 (1 * 2 ^ a1.toNat)) = ji12:=fun h_=>(i64_w _).symm.trans (hji12z h_)
       obtain rfl:=Option.some.inj H;go_wp2
       go_ret
       exact ⟨by first|rfl|(simp;done)|(simp only [← hji12] <;> (first|rfl|simp))|(simp [*];done),by repeat (first|exact Drawn0.refl _|apply Drawn0.step)⟩
      ·rw [if_neg c11] at H;exact absurd H (by simp)
     ·rw [if_neg c10] at H;have c10b0 : ((l0.length : Int) == a1) = false:=beq_eq_false_iff_ne.mpr c10;have c10b1 : ((l0.length : Int) != a1) = true:=bne_iff_ne.mpr c10;obtain rfl:=Option.some.inj H;go_wp2
      go_ret
      exact ⟨by first|rfl|(simp;done)|(simp [*];done),by repeat (first|exact Drawn0.refl _|apply Drawn0.step)⟩
 ·replace c4:=Bool.eq_false_iff.mpr c4;subst c4;have H1 : (some false) = some r:=by rw [if_neg (show ¬ (false = true) by decide)] at H;exact H
  clear H;have H:=H1;clear H1;obtain rfl:=Option.some.inj H;go_enter Tryd.func134,Tryd.ntmps134
  go_wp2_with (first|((with_reducible refine gate_callee (f:=94) rfl ?_);refine goesL_ (some 11) rfl rfl Tryd.func94 (by kernel_rfl) rfl #[.slice A0 l0.length c0,.int .i64 0,.int .i64 (wrap64 (a1 - 1))] rfl au_ ?_;(with_reducible refine (impl_allWithin.calls k _ _ l0 0 (wrap64 (a1 - 1)) false _ ?side1 ?side2 A3.out).mono ?_);(case side1=>repeat (first|exact HR0.out|(with_reducible refine Kd.C_alloc ?_ _)|(with_reducible refine Kd.C_drewN ?_ _)|(with_reducible refine Kd.C_drew ?_)));(case side2=>exact HC0.out);rintro e w' ⟨rfl,⟨nd,rfl⟩⟩;refine ⟨_,rfl,?_⟩))
  go_ret
  exact ⟨by first|rfl|(simp;done)|(simp [*];done),by repeat (first|exact Drawn0.refl _|apply Drawn0.step)⟩
def impl_Order_isExtension.l0 : Nat → Int → List Int → Int → Int → Int → List Int → Option (Bool)
 | 0,_,_,_,_,_,_=>none
 | k + 1,x5,x16,x17,x18,x977000,x977001=>if x18 < x17 then (if 0 ≤ x18 then (if x18 < (x16.length : Int) then (if 0 ≤ (rd x16 x18) then (if (rd x16 x18) < (x977001.length : Int) then (if (Go.bits .andNot .i64 (rd x977001 (rd x16 x18)) x5) = 0 then (impl_Order_isExtension.l0 k (Go.bits .or .i64 x5 (shl .i64 1 (rd x16 x18))) x16 x17 (wrap64 (x18 + 1)) x977000 x977001) else (some false)) else (none)) else (none)) else (none)) else (none)) else (some true)
def impl_Order_isExtension.f (k : Nat) (a0_0 : Int) (l0_1 : List Int) (l1 : List Int) : Option (Bool) := (impl_isNaming.f k l1 a0_0).bind fun t971 => (if t971 = true then ((impl_Order_mirror.f k a0_0 l0_1).bind fun bt972 => (impl_Order_isExtension.l0 k 0 l1 (l1.length : Int) 0 bt972.1 bt972.2)) else (some false))
set_option maxHeartbeats 8000000 in
set_option maxRecDepth 100000 in
theorem impl_Order_isExtension.calls (k : Nat) (a0_0 : Int) (A0_1 : Option Addr) (c0_1 : Nat) (l0_1 : List Int) (A1 : Option Addr) (c1 : Nat) (l1 : List Int) (r : Bool) (w : World) (hr0_1 : Kd.C (Kd.int .i64) w A0_1 l0_1.length l0_1) (hc0_1 : l0_1.length ≤ c0_1) (hr1 : Kd.C (Kd.int .i64) w A1 l1.length l1) (hc1 : l1.length ≤ c1) (h : impl_Order_isExtension.f k a0_0 l0_1 l1 = some r) :
 Calls Tryd.prog 120 #[.agg #[.int .i64 a0_0,.slice A0_1 l0_1.length c0_1],.slice A1 l1.length c1] w fun e w'=>e = .returned (.bool r) ∧ Below w.heap.size w w':=by
 have hu26:=Tryd.underlying26;have HR0_1:=A_ hr0_1;have HC0_1:=A_ hc0_1;clear hr0_1 hc0_1;have HR1:=A_ hr1;have HC1:=A_ hc1;clear hr1 hc1;have HB:=A_ (Below.refl w.heap.size w);have H : ((impl_isNaming.f k l1 a0_0).bind fun t971=>(if t971 = true then ((impl_Order_mirror.f k a0_0 l0_1).bind fun bt972=>(impl_Order_isExtension.l0 k 0 l1 (l1.length : Int) 0 bt972.1 bt972.2)) else (some false))) = some r:=h;clear h;replace H:=Option.bind_eq_some_iff.mp H;obtain ⟨t971,A30,H⟩:=H;replace H : (if t971 = true then ((impl_Order_mirror.f k a0_0 l0_1).bind fun bt972=>(impl_Order_isExtension.l0 k 0 l1 (l1.length : Int) 0 bt972.1 bt972.2)) else (some false)) = some r:=H;have A3:=A_ A30;clear A30;by_cases c4 : t971 = true
 ·subst c4;have H1 : ((impl_Order_mirror.f k a0_0 l0_1).bind fun bt972=>(impl_Order_isExtension.l0 k 0 l1 (l1.length : Int) 0 bt972.1 bt972.2)) = some r:=by rw [if_pos rfl] at H;exact H
  clear H;have H:=H1;clear H1;replace H:=Option.bind_eq_some_iff.mp H;obtain ⟨⟨t972,t973⟩,A50,H⟩:=H;replace H : (impl_Order_isExtension.l0 k 0 l1 (l1.length : Int) 0 t972 t973) = some r:=H;have A5:=A_ A50;clear A50;have H':=A_ H;clear H;go_enter Tryd.func120,Tryd.ntmps120
  go_wp2_with (first|((with_reducible refine gate_dst (N:=2) rfl ?_);refine box_event ?hg (N:=2) ?hd (cs:=#[.int .i64 a0_0,.slice A0_1 l0_1.length c0_1]) (t:=26) ?hr ?_;(case hd=>rfl);(case hg=>rfl);(case hr=>first|(go_simp;done)|(go_simp;rfl));intro gb970 hg w6 hbox hb;have BK970:=A_ (hbox);have GW970:=A_ ((by rw [hg];exact (below_size bb_) : w.heap.size ≤ gb970));have GE970:=A_ ((by rw [hg];exact (below_size bb_) : w.heap.size ≤ gb970));replace HB:=A_ (below_step bb_ hb);clear hb hbox hg;have hcz7_0 : w6.cell? ⟨gb970,0,none⟩ = some (.int .i64 a0_0):=blk_cell BK970.out 0;have hcz7_1 : w6.cell? ⟨gb970,1,none⟩ = some (.slice A0_1 l0_1.length c0_1):=blk_cell BK970.out 1;have hfz7_0:=blk_frozen BK970.out 0;have hfz7_1:=blk_frozen BK970.out 1)|((with_reducible refine gate_callee (f:=134) rfl ?_);refine goesL_ (some 12) rfl rfl Tryd.func134 (by kernel_rfl) rfl #[.slice A1 l1.length c1,.int .i64 a0_0] rfl au_ ?_;(with_reducible refine (impl_isNaming.calls k _ _ l1 a0_0 true _ ?side1 ?side2 A3.out).mono ?_);(case side1=>exact cl_ (Kd.C_below HR1.out HB.out));(case side2=>exact HC1.out);rintro e w' ⟨rfl,⟨nd,rfl⟩⟩;refine ⟨_,rfl,?_⟩;(try (rw [drewN_self w6];generalize hq_ : World.drewN w6 _ = w6;have n0_ : Aside0 (w6.heap[gb970]? = some (.cells #[.int .i64 a0_0,.slice A0_1 l0_1.length c0_1] 26 (0,0))):=⟨by rw [← hq_];exact (bl_ BK970)⟩;have n1_ : Aside0 (Below w.heap.size w w6):=⟨by rw [← hq_];exact bb_⟩;clear BK970 HB hq_;have BK970:=n0_;have HB:=n1_;clear n0_ n1_;have hcu970_0 : w6.cell? ⟨gb970,0,none⟩ = some (.int .i64 a0_0):=blk_cell BK970.out 0;have hfu970_0:=blk_frozen BK970.out 0;have hcu970_1 : w6.cell? ⟨gb970,1,none⟩ = some (.slice A0_1 l0_1.length c0_1):=blk_cell BK970.out 1;have hfu970_1:=blk_frozen BK970.out 1)))|((with_reducible refine gate_callee (f:=103) rfl ?_);refine goesL_ (some 15) rfl rfl Tryd.func103 (by kernel_rfl) rfl #[.agg #[.int .i64 a0_0,.slice A0_1 l0_1.length c0_1]] rfl au_ ?_;(with_reducible refine (impl_Order_mirror.calls k a0_0 _ _ l0_1 t972 t973 _ ?side1 ?side2 A5.out).mono ?_);(case side1=>exact cl_ (Kd.C_below HR0_1.out HB.out));(case side2=>exact HC0_1.out);rintro e w8 ⟨v974,rfl,ho0,hb⟩;refine ⟨_,rfl,?_⟩;have HO975:=A_ (Kd.R_lower ho0 (below_size bb_));replace BK970:=bz BK970 hb;replace HB:=A_ (below_step bb_ hb);(try clear hb);(try clear hb2);(try clear hk);(try clear hi);(try clear ho0))|((with_reducible refine gate_dst (N:=6) rfl ?_);refine box_event ?hg (N:=6) ?hd (cs:=#[.int .i64 0,.slice none 0 0]) (t:=26) ?hr ?_;(case hd=>rfl);(case hg=>rfl);(case hr=>first|(go_simp;done)|(go_simp;rfl));intro gb976 hg w9 hbox hb;replace HO975:=rb_ HO975 hb;have BK976:=A_ (hbox);have GW976:=A_ ((by rw [hg];exact (below_size bb_) : w.heap.size ≤ gb976));have GE976:=A_ ((by rw [hg];exact (below_size bb_) : w.heap.size ≤ gb976));replace HB:=A_ (below_step bb_ hb);have NB970_976:=A_ ((by rw [hg];exact Nat.ne_of_lt (blk_lt (bl_ BK970)) : gb970 ≠ gb976));have NB976_970:=A_ ((by rw [hg];exact Nat.ne_of_gt (blk_lt (bl_ BK970)) : gb976 ≠ gb970));replace BK970:=bz BK970 hb;clear hb hbox hg;have hnb10:=NB976_970.out;have hnc10:=NB970_976.out;have hcz11_0 : w9.cell? ⟨gb976,0,none⟩ = some (.int .i64 0):=blk_cell BK976.out 0;have hcz11_1 : w9.cell? ⟨gb976,1,none⟩ = some (.slice none 0 0):=blk_cell BK976.out 1;have hfz11_0:=blk_frozen BK976.out 0;have hfz11_1:=blk_frozen BK976.out 1;obtain ⟨Ao12,co12,eo12⟩:=Kd.R_slice HO975.out;subst eo12))
  go_loopg [5,18] k (fun kq v5 v18 w'=>∃ (x5_1 : Int) (x18_1 : Int),v5 = .int .i64 x5_1 ∧ v18 = .int .i64 x18_1 ∧ Aside0 (impl_Order_isExtension.l0 kq x5_1 l1 (l1.length : Int) x18_1 t972 t973 = some r) ∧ Aside0 (kq ≤ k) ∧ Aside0 (Kd.R (Kd.int .i64) 3 w' w.heap.size (fun _=>True) (.slice Ao12 t973.length co12) t973) ∧ Aside0 (w'.heap[gb970]? = some (.cells #[.int .i64 a0_0,(.slice A0_1 l0_1.length c0_1)] 26 (0,0))) ∧ Aside0 (w'.heap[gb976]? = some (.cells #[.int .i64 t972,(.slice Ao12 t973.length co12)] 26 (0,0))) ∧ Aside0 (Below w.heap.size w w'))
  case atStart=>exact ⟨(0),(0),(by first|rfl|(simp;done)|(simp [*];done)),(by first|rfl|(simp;done)|(simp [*];done)),H',⟨Nat.le_refl _⟩,⟨by (with_reducible repeat (first|apply Kd.R_alloc|apply Kd.R_drewN|apply Kd.R_drew));exact Kd.R_mono (Kd.R_far (p:=⟨gb976,1,none⟩) (Kd.R_far (p:=⟨gb976,0,none⟩) (Kd.R_types HO975.out BK976.out (by decide)) (fun _ hk=>hk.2) (.int .i64 t972)) (fun _ hk=>hk.2) (.slice Ao12 t973.length co12)) (fun _ hk=>trivial)⟩,⟨by (with_reducible repeat (first|refine blk_drewN ?_ _|refine blk_drew ?_|refine blk_alloc ?_ _));refine blk_far ?_ NB970_976.out _;(with_reducible repeat (first|refine blk_drewN ?_ _|refine blk_drew ?_|refine blk_alloc ?_ _));refine blk_far ?_ NB970_976.out _;(with_reducible repeat (first|refine blk_drewN ?_ _|refine blk_drew ?_|refine blk_alloc ?_ _));exact BK970.out⟩,⟨by (with_reducible repeat (first|refine blk_drewN ?_ _|refine blk_drew ?_|refine blk_alloc ?_ _));refine blk_put (cs:=#[.int .i64 t972,.slice none 0 0]) ?_ 1 _ rfl;(with_reducible repeat (first|refine blk_drewN ?_ _|refine blk_drew ?_|refine blk_alloc ?_ _));refine blk_put (cs:=#[.int .i64 0,.slice none 0 0]) ?_ 0 _ rfl;(with_reducible repeat (first|refine blk_drewN ?_ _|refine blk_drew ?_|refine blk_alloc ?_ _));exact BK976.out⟩,⟨bb_⟩⟩
  case round =>
   clear H';try clear c1
   try clear p2
   try clear c4
   try clear c10
   try clear c12
   try clear hcz11_0
   try clear hcz11_1
   try clear hcz7_0
   try clear hcz7_1
   try clear hfz11_0
   try clear hfz11_1
   try clear hfz7_0
   try clear hfz7_1
   obtain ⟨x5_1,x18_1,rfl,rfl,HA,HK1,HO_977001,BK970,BK976,HB⟩:=hrel;cases gk with
   | zero=>exact absurd HA.out (by simp [impl_Order_isExtension.l0])
   | succ k1 =>
    have H:=HA.out;clear HA;simp only [impl_Order_isExtension.l0] at H
    by_cases c13 : x18_1 < (l1.length : Int)
    ·rw [if_pos c13] at H;have c13b0 : decide (x18_1 < (l1.length : Int)) = true:=decide_eq_true c13;clear c13;by_cases c14 : 0 ≤ x18_1
     ·rw [if_pos c14] at H;have c14b0 : decide (0 ≤ x18_1) = true:=decide_eq_true c14;clear c14;by_cases c15 : x18_1 < (l1.length : Int)
      ·rw [if_pos c15] at H;have c15b0 : decide (x18_1 < (l1.length : Int)) = true:=decide_eq_true c15;clear c15;by_cases c16 : 0 ≤ (rd l1 x18_1)
       ·rw [if_pos c16] at H;have c16b0 : decide (0 ≤ (rd l1 x18_1)) = true:=decide_eq_true c16;clear c16;by_cases c17 : (rd l1 x18_1) < (t973.length : Int)
        ·rw [if_pos c17] at H;have c17b0 : decide ((rd l1 x18_1) < (t973.length : Int)) = true:=decide_eq_true c17;clear c17;by_cases c18 : (Go.bits .andNot .i64 (rd t973 (rd l1 x18_1)) x5_1) = 0
         ·rw [if_pos c18] at H;have c18b0 : ((Go.bits .andNot .i64 (rd t973 (rd l1 x18_1)) x5_1) == 0) = true:=beq_iff_eq.mpr c18;have c18b1 : ((Go.bits .andNot .i64 (rd t973 (rd l1 x18_1)) x5_1) != 0) = false:=bne_eq_false_iff_eq.mpr c18;clear c18;have c19b0:=eq_true (of_decide_eq_true (by first|(with_reducible assumption)|assumption) : 0 ≤ (rd l1 x18_1));obtain ⟨ji20,hji20⟩ : ∃ j_ : Int,(shl .i64 1 (rd l1 x18_1)) = j_:=⟨_,rfl⟩;replace H : (impl_Order_isExtension.l0 k1 (Go.bits .or .i64 x5_1 (ji20)) l1 (l1.length : Int) (wrap64 (x18_1 + 1)) t972 t973) = some r:=by first|(rw [hji20] at H;exact H)|(simp only [hji20] at H ⊢;exact H)
          have hji20_ : (IntKind.i64.wrap (1 * 2 ^ min (rd l1 x18_1).toNat 64)) = ji20:=hji20;have hji20z : (rd l1 x18_1) ≤ 64 → (IntKind.i64.wrap (1 * 2 ^ (rd l1 x18_1).toNat)) = ji20:=shl_small hji20;have hji20u : (IntKind.i64.wrap (2 ^ min (rd l1 x18_1).toNat 64)) = ji20:=by have h_:=hji20_;rw [Int.one_mul] at h_;exact h_
          have hji20v : (rd l1 x18_1) ≤ 64 → (IntKind.i64.wrap (2 ^ (rd l1 x18_1).toNat)) = ji20:=fun hle_=>by have h_:=hji20z hle_;rw [Int.one_mul] at h_;exact h_
          have hji20y : (wrap64 (1 * 2 ^ min (rd l1 x18_1).toNat 64)) = ji20:=(i64_w _).symm.trans hji20_;have hji20x : (rd l1 x18_1) ≤ 64 → (wrap64 (1 * 2 ^ (rd l1 x18_1).toNat)) = ji20:=fun h_=>(i64_w _).symm.trans (hji20z h_)
          have H':=A_ H;clear H;have p977 : 0 ≤ (x18_1 : Int):=of_decide_eq_true (by first|(with_reducible assumption)|assumption);have q977 : x18_1 < (l1.length : Int):=of_decide_eq_true (by first|(with_reducible assumption)|assumption);obtain ⟨ad977,e977,hx977_0⟩:=Kd.at_int HR1.out x18_1 p977 q977;cases e977
          (try replace hx977_0:=(HB.out.cell (World.block_lt_of_cell? w _ hx977_0)).trans hx977_0);replace p977:=eq_true p977;replace q977:=eq_true q977;have hnb21:=NB976_970.out;have hnc21:=NB970_976.out;have hcz22_0 : wr.cell? ⟨gb976,0,none⟩ = some (.int .i64 t972):=blk_cell BK976.out 0;have hcz22_1 : wr.cell? ⟨gb976,1,none⟩ = some (.slice Ao12 t973.length co12):=blk_cell BK976.out 1;have hfz22_0:=blk_frozen BK976.out 0;have hfz22_1:=blk_frozen BK976.out 1;have p978 : 0 ≤ ((rd l1 x18_1) : Int):=of_decide_eq_true (by first|(with_reducible assumption)|assumption);have q978 : (rd l1 x18_1) < (t973.length : Int):=of_decide_eq_true (by first|(with_reducible assumption)|assumption);obtain ⟨ad978,e978,hx978_0⟩:=Kd.at_int (Kd.R_reads' HO_977001.out).2.2 (rd l1 x18_1) p978 q978;cases e978
          replace p978:=eq_true p978;replace q978:=eq_true q978;go_wp2
          go_roundg k1
          case measure=>have:=HK1.out;omega
          case rel=>exact ⟨(Go.bits .or .i64 x5_1 (ji20)),(wrap64 (x18_1 + 1)),(by first|rfl|(simp;done)|(simp only [← hji20] <;> (first|rfl|simp))|(simp [*];done)),(by first|rfl|(simp;done)|(simp [*];done)),H',⟨by have:=HK1.out;omega⟩,⟨by (with_reducible repeat (first|apply Kd.R_alloc|apply Kd.R_drewN|apply Kd.R_drew));exact HO_977001.out⟩,⟨bl_ BK970⟩,⟨bl_ BK976⟩,⟨bb_⟩⟩
         ·rw [if_neg c18] at H;have c18b0 : ((Go.bits .andNot .i64 (rd t973 (rd l1 x18_1)) x5_1) == 0) = false:=beq_eq_false_iff_ne.mpr c18;have c18b1 : ((Go.bits .andNot .i64 (rd t973 (rd l1 x18_1)) x5_1) != 0) = true:=bne_iff_ne.mpr c18;obtain rfl:=Option.some.inj H;have p977 : 0 ≤ (x18_1 : Int):=of_decide_eq_true (by first|(with_reducible assumption)|assumption);have q977 : x18_1 < (l1.length : Int):=of_decide_eq_true (by first|(with_reducible assumption)|assumption);obtain ⟨ad977,e977,hx977_0⟩:=Kd.at_int HR1.out x18_1 p977 q977;cases e977
          (try replace hx977_0:=(HB.out.cell (World.block_lt_of_cell? w _ hx977_0)).trans hx977_0);replace p977:=eq_true p977;replace q977:=eq_true q977;have hnb23:=NB976_970.out;have hnc23:=NB970_976.out;have hcz24_0 : wr.cell? ⟨gb976,0,none⟩ = some (.int .i64 t972):=blk_cell BK976.out 0;have hcz24_1 : wr.cell? ⟨gb976,1,none⟩ = some (.slice Ao12 t973.length co12):=blk_cell BK976.out 1;have hfz24_0:=blk_frozen BK976.out 0;have hfz24_1:=blk_frozen BK976.out 1;have p978 : 0 ≤ ((rd l1 x18_1) : Int):=of_decide_eq_true (by first|(with_reducible assumption)|assumption);have q978 : (rd l1 x18_1) < (t973.length : Int):=of_decide_eq_true (by first|(with_reducible assumption)|assumption);obtain ⟨ad978,e978,hx978_0⟩:=Kd.at_int (Kd.R_reads' HO_977001.out).2.2 (rd l1 x18_1) p978 q978;cases e978
          replace p978:=eq_true p978;replace q978:=eq_true q978;go_wp2
          go_ret
          exact ⟨by first|rfl|(simp [errW_none,errW_some] <;> rfl)|(simp [*,errW_none,errW_some] <;> rfl),bb_⟩
        ·rw [if_neg c17] at H;exact absurd H (by simp)
       ·rw [if_neg c16] at H;exact absurd H (by simp)
      ·rw [if_neg c15] at H;exact absurd H (by simp)
     ·rw [if_neg c14] at H;exact absurd H (by simp)
    ·rw [if_neg c13] at H;have c13b0 : decide (x18_1 < (l1.length : Int)) = false:=decide_eq_false c13;clear c13;obtain rfl:=Option.some.inj H;go_wp2
     go_ret
     exact ⟨by first|rfl|(simp [errW_none,errW_some] <;> rfl)|(simp [*,errW_none,errW_some] <;> rfl),bb_⟩
 ·replace c4:=Bool.eq_false_iff.mpr c4;subst c4;have H1 : (some false) = some r:=by rw [if_neg (show ¬ (false = true) by decide)] at H;exact H
  clear H;have H:=H1;clear H1;obtain rfl:=Option.some.inj H;go_enter Tryd.func120,Tryd.ntmps120
  go_wp2_with (first|((with_reducible refine gate_dst (N:=2) rfl ?_);refine box_event ?hg (N:=2) ?hd (cs:=#[.int .i64 a0_0,.slice A0_1 l0_1.length c0_1]) (t:=26) ?hr ?_;(case hd=>rfl);(case hg=>rfl);(case hr=>first|(go_simp;done)|(go_simp;rfl));intro gb970 hg w25 hbox hb;have BK970:=A_ (hbox);have GW970:=A_ ((by rw [hg];exact (below_size bb_) : w.heap.size ≤ gb970));have GE970:=A_ ((by rw [hg];exact (below_size bb_) : w.heap.size ≤ gb970));replace HB:=A_ (below_step bb_ hb);clear hb hbox hg;have hcz26_0 : w25.cell? ⟨gb970,0,none⟩ = some (.int .i64 a0_0):=blk_cell BK970.out 0;have hcz26_1 : w25.cell? ⟨gb970,1,none⟩ = some (.slice A0_1 l0_1.length c0_1):=blk_cell BK970.out 1;have hfz26_0:=blk_frozen BK970.out 0;have hfz26_1:=blk_frozen BK970.out 1)|((with_reducible refine gate_callee (f:=134) rfl ?_);refine goesL_ (some 12) rfl rfl Tryd.func134 (by kernel_rfl) rfl #[.slice A1 l1.length c1,.int .i64 a0_0] rfl au_ ?_;(with_reducible refine (impl_isNaming.calls k _ _ l1 a0_0 false _ ?side1 ?side2 A3.out).mono ?_);(case side1=>exact cl_ (Kd.C_below HR1.out HB.out));(case side2=>exact HC1.out);rintro e w' ⟨rfl,⟨nd,rfl⟩⟩;refine ⟨_,rfl,?_⟩))
  go_ret
  exact ⟨by first|rfl|(simp [errW_none,errW_some] <;> rfl)|(simp [*,errW_none,errW_some] <;> rfl),bb_⟩
def impl_IsExtension.f (k : Nat) (a0_0 : Int) (l0_1 : List Int) (l1 : List Int) : Option (Bool × Bool) := (impl_IsOrder.f k a0_0 l0_1).bind fun t980 => (if t980 = true then ((impl_Order_isExtension.f k a0_0 l0_1 l1).bind fun t981 => (some (t981, true))) else (some (false, false)))
set_option maxHeartbeats 8000000 in
set_option maxRecDepth 100000 in
theorem impl_IsExtension.calls (k : Nat) (a0_0 : Int) (A0_1 : Option Addr) (c0_1 : Nat) (l0_1 : List Int) (A1 : Option Addr) (c1 : Nat) (l1 : List Int) (r1 : Bool) (r2 : Bool) (w : World) (hr0_1 : Kd.C (Kd.int .i64) w A0_1 l0_1.length l0_1) (hc0_1 : l0_1.length ≤ c0_1) (hr1 : Kd.C (Kd.int .i64) w A1 l1.length l1) (hc1 : l1.length ≤ c1) (hT : TabOK w) (h : impl_IsExtension.f k a0_0 l0_1 l1 = some (r1,r2)) :
 Calls Tryd.prog 50 #[.agg #[.int .i64 a0_0,.slice A0_1 l0_1.length c0_1],.slice A1 l1.length c1] w fun e w'=>e = .returned (.tuple #[.bool r1,.bool r2]) ∧ Below w.heap.size w w':=by
 have hu26:=Tryd.underlying26;have HT:=A_ hT;clear hT;have HR0_1:=A_ hr0_1;have HC0_1:=A_ hc0_1;clear hr0_1 hc0_1;have HR1:=A_ hr1;have HC1:=A_ hc1;clear hr1 hc1;have HB:=A_ (Below.refl w.heap.size w);have H : ((impl_IsOrder.f k a0_0 l0_1).bind fun t980=>(if t980 = true then ((impl_Order_isExtension.f k a0_0 l0_1 l1).bind fun t981=>(some (t981,true))) else (some (false,false)))) = some (r1,r2):=h;clear h;replace H:=Option.bind_eq_some_iff.mp H;obtain ⟨t980,A30,H⟩:=H;replace H : (if t980 = true then ((impl_Order_isExtension.f k a0_0 l0_1 l1).bind fun t981=>(some (t981,true))) else (some (false,false))) = some (r1,r2):=H;have A3:=A_ A30;clear A30;by_cases c4 : t980 = true
 ·subst c4;have H1 : ((impl_Order_isExtension.f k a0_0 l0_1 l1).bind fun t981=>(some (t981,true))) = some (r1,r2):=by rw [if_pos rfl] at H;exact H
  clear H;have H:=H1;clear H1;replace H:=Option.bind_eq_some_iff.mp H;obtain ⟨t981,A50,H⟩:=H;replace H : (some (t981,true)) = some (r1,r2):=H;have A5:=A_ A50;clear A50;simp only [Option.some.injEq,Prod.mk.injEq] at H
  obtain ⟨rfl,rfl⟩:=H;go_enter Tryd.func50,Tryd.ntmps50
  go_wp2_with (first|((with_reducible refine gate_dst (N:=2) rfl ?_);refine box_event ?hg (N:=2) ?hd (cs:=#[.int .i64 a0_0,.slice A0_1 l0_1.length c0_1]) (t:=26) ?hr ?_;(case hd=>rfl);(case hg=>rfl);(case hr=>first|(go_simp;done)|(go_simp;rfl));intro gb979 hg w6 hbox hb;have BK979:=A_ (hbox);have GW979:=A_ ((by rw [hg];exact (below_size bb_) : w.heap.size ≤ gb979));have GE979:=A_ ((by rw [hg];exact (below_size bb_) : w.heap.size ≤ gb979));replace HB:=A_ (below_step bb_ hb);clear hb hbox hg;have hcz7_0 : w6.cell? ⟨gb979,0,none⟩ = some (.int .i64 a0_0):=blk_cell BK979.out 0;have hcz7_1 : w6.cell? ⟨gb979,1,none⟩ = some (.slice A0_1 l0_1.length c0_1):=blk_cell BK979.out 1;have hfz7_0:=blk_frozen BK979.out 0;have hfz7_1:=blk_frozen BK979.out 1)|((with_reducible refine gate_callee (f:=32) rfl ?_);refine goesL_ (some 7) rfl rfl Tryd.func32 (by kernel_rfl) rfl #[.agg #[.int .i64 a0_0,.slice A0_1 l0_1.length c0_1]] rfl au_ ?_;(with_reducible refine (impl_IsOrder.calls k a0_0 _ _ l0_1 true _ ?side1 ?side2 ?side3 A3.out).mono ?_);(case side1=>exact cl_ (Kd.C_below HR0_1.out HB.out));(case side2=>exact HC0_1.out);(case side3=>first|exact HT.out|exact HT.out.below bb_|(repeat (first|exact HT.out|apply TabOK.drewN|apply TabOK.drew|apply TabOK.alloc)));rintro e w8 ⟨rfl,hb⟩;refine ⟨_,rfl,?_⟩;replace BK979:=bz BK979 hb;replace HB:=A_ (below_step bb_ hb);(try clear hb);(try clear hb2);(try clear hk);(try clear hi);have hcz9_0 : w8.cell? ⟨gb979,0,none⟩ = some (.int .i64 a0_0):=blk_cell BK979.out 0;have hcz9_1 : w8.cell? ⟨gb979,1,none⟩ = some (.slice A0_1 l0_1.length c0_1):=blk_cell BK979.out 1;have hfz9_0:=blk_frozen BK979.out 0;have hfz9_1:=blk_frozen BK979.out 1)|((with_reducible refine gate_callee (f:=120) rfl ?_);refine goesL_ (some 11) rfl rfl Tryd.func120 (by kernel_rfl) rfl #[.agg #[.int .i64 a0_0,.slice A0_1 l0_1.length c0_1],.slice A1 l1.length c1] rfl au_ ?_;(with_reducible refine (impl_Order_isExtension.calls k a0_0 _ _ l0_1 _ _ l1 t981 _ ?side1 ?side2 ?side3 ?side4 A5.out).mono ?_);(case side1=>exact cl_ (Kd.C_below HR0_1.out HB.out));(case side2=>exact HC0_1.out);(case side3=>exact cl_ (Kd.C_below HR1.out HB.out));(case side4=>exact HC1.out);rintro e w10 ⟨rfl,hb⟩;refine ⟨_,rfl,?_⟩;replace BK979:=bz BK979 hb;replace HB:=A_ (below_step bb_ hb);(try clear hb);(try clear hb2);(try clear hk);(try clear hi)))
  go_ret2
  exact ⟨by first|rfl|(simp [errW_none,errW_some] <;> rfl)|(simp [*,errW_none,errW_some] <;> rfl),bb_⟩
 ·replace c4:=Bool.eq_false_iff.mpr c4;subst c4;have H1 : (some (false,false)) = some (r1,r2):=by rw [if_neg (show ¬ (false = true) by decide)] at H;exact H
  clear H;have H:=H1;clear H1;simp only [Option.some.injEq,Prod.mk.injEq] at H
  obtain ⟨rfl,rfl⟩:=H;go_enter Tryd.func50,Tryd.ntmps50
  go_wp2_with (first|((with_reducible refine gate_dst (N:=2) rfl ?_);refine box_event ?hg (N:=2) ?hd (cs:=#[.int .i64 a0_0,.slice A0_1 l0_1.length c0_1]) (t:=26) ?hr ?_;(case hd=>rfl);(case hg=>rfl);(case hr=>first|(go_simp;done)|(go_simp;rfl));intro gb979 hg w11 hbox hb;have BK979:=A_ (hbox);have GW979:=A_ ((by rw [hg];exact (below_size bb_) : w.heap.size ≤ gb979));have GE979:=A_ ((by rw [hg];exact (below_size bb_) : w.heap.size ≤ gb979));replace HB:=A_ (below_step bb_ hb);clear hb hbox hg;have hcz12_0 : w11.cell? ⟨gb979,0,none⟩ = some (.int .i64 a0_0):=blk_cell BK979.out 0;have hcz12_1 : w11.cell? ⟨gb979,1,none⟩ = some (.slice A0_1 l0_1.length c0_1):=blk_cell BK979.out 1;have hfz12_0:=blk_frozen BK979.out 0;have hfz12_1:=blk_frozen BK979.out 1)|((with_reducible refine gate_callee (f:=32) rfl ?_);refine goesL_ (some 7) rfl rfl Tryd.func32 (by kernel_rfl) rfl #[.agg #[.int .i64 a0_0,.slice A0_1 l0_1.length c0_1]] rfl au_ ?_;(with_reducible refine (impl_IsOrder.calls k a0_0 _ _ l0_1 false _ ?side1 ?side2 ?side3 A3.out).mono ?_);(case side1=>exact cl_ (Kd.C_below HR0_1.out HB.out));(case side2=>exact HC0_1.out);(case side3=>first|exact HT.out|exact HT.out.below bb_|(repeat (first|exact HT.out|apply TabOK.drewN|apply TabOK.drew|apply TabOK.alloc)));rintro e w13 ⟨rfl,hb⟩;refine ⟨_,rfl,?_⟩;replace BK979:=bz BK979 hb;replace HB:=A_ (below_step bb_ hb);(try clear hb);(try clear hb2);(try clear hk);(try clear hi)))
  go_ret2
  exact ⟨by first|rfl|(simp [errW_none,errW_some] <;> rfl)|(simp [*,errW_none,errW_some] <;> rfl),bb_⟩
end Go.Proofs.YtjdkcafpgebjfaaDoor.P

