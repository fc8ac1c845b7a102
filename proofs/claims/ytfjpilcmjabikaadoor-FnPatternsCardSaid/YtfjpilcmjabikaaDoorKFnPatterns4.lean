/- A part of the proof that the law FnPatterns holds at every input. Written by wip/pack.py: the kit's printed words that are used, the functions' walks as wip/gen.py prints them, and hand proofs. -/
import Derived.Test.YtfjpilcmjabikaaDoorKFnPatterns3
namespace Go.Proofs.YtfjpilcmjabikaaDoor.P
open Go.RowKit Go.Proofs.YtfjpilcmjabikaaDoorW.PrintWords Go.Proofs.YtfjpilcmjabikaaDoorW.PrintLast Go.Proofs.YtfjpilcmjabikaaDoorW.PrintMore
open Bool renaming true → T, false → F
open List renaming setIfInBounds_toArray → L_, set_cons_zero → M_, set_cons_succ → N_, map_toArray → P_, map_cons → Q_, map_nil → R_, length_drop → S_, length_take → U_
open Aside0 renaming mk → A_
attribute [local go_sem] max2_int min2_int max_two min_two max_three min_three max_four min_four
set_option linter.unusedVariables false
set_option linter.unusedSimpArgs false
attribute [local go_sem] fldOrder_0 fldOrder_1
def Aao.l0 : Nat → Int → Int → List Int → Int → Int → Int → List Int → Int → List Int → Option (Bool)
 | 0,_,_,_,_,_,_,_,_,_=>none
 | k + 1,x3,x9,x14,x15,x16,x587000,x587001,x588000,x588001=>if x16 < x15 then (if 0 ≤ x16 then (if x16 < (x14.length : Int) then (if (rd x14 x16) = x3 then (some false) else (if 0 ≤ (rd x14 x16) then (if (rd x14 x16) < (x587001.length : Int) then ((Aay.f (rd x587001 (rd x14 x16)) x3).bind fun t594=>(if x16 < (x588001.length : Int) then ((Aay.f (rd x588001 x16) x9).bind fun t596=>(if (t594 != t596) = true then (some false) else (if 0 ≤ x3 then (if x3 < (x587001.length : Int) then ((Aay.f (rd x587001 x3) (rd x14 x16)).bind fun t598=>(if 0 ≤ x9 then (if x9 < (x588001.length : Int) then ((Aay.f (rd x588001 x9) x16).bind fun t600=>(if (t598 != t600) = true then (some false) else (Aao.l0 k x3 x9 x14 x15 (wrap64 (x16 + 1)) x587000 x587001 x588000 x588001))) else (none)) else (none))) else (none)) else (none)))) else (none))) else (none)) else (none))) else (none)) else (none)) else (if 0 ≤ x3 then (if x3 < (x587001.length : Int) then ((Aay.f (rd x587001 x3) x3).bind fun t589=>(if 0 ≤ x9 then (if x9 < (x588001.length : Int) then ((Aay.f (rd x588001 x9) x9).bind fun t591=>(some (t589 == t591))) else (none)) else (none))) else (none)) else (none))
def Aao.f (k : Nat) (a0_0 : Int) (l0_1 : List Int) (a1_0 : Int) (l1_1 : List Int) (l2 : List Int) (a3 : Int) : Option (Bool) := Aao.l0 k a3 (l2.length : Int) l2 (l2.length : Int) 0 a0_0 l0_1 a1_0 l1_1
def Aao.T5 : Bool × List (List Nat × List Nat) := (true, [([], []), ([], []), ([0, 1], [0, 1]), ([2], [2]), ([3], [3]), ([4, 3], [3, 4]), ([3], [3]), ([5, 6, 3], [3, 5, 6]), ([7, 3], [3, 7]), ([3], [3]), ([8, 9, 3, 3], [3, 8, 9]), ([3], [3]), ([11, 3], [3, 11]), ([3], [3]), ([12, 13, 3], [3, 12, 13]), ([14, 3], [3, 14]), ([3], [3]), ([15, 16, 10, 3], [3, 15, 16]), ([10, 17, 3], [3, 10, 17]), ([3, 18], [3, 18]), ([19, 17], [19]), ([20], [20]), ([21, 20], [20, 21]), ([20], [20]), ([22, 23, 20], [20, 22, 23]), ([24, 20], [20, 24]), ([20], [20]), ([25, 26, 20, 20], [20, 25, 26]), ([20], [20]), ([28, 20], [20, 28]), ([20], [20]), ([29, 30, 20], [20, 29, 30]), ([31, 20], [20, 31]), ([20], [20]), ([32, 33, 27, 20], [20, 32, 33]), ([27, 34, 20], [20, 27, 34]), ([20, 35], [20, 35])])
def Aao.B5 : List Nat := [0, 0, 3, 7, 15, 31, 15, 127, 255, 15, 1023, 15, 2063, 15, 14351, 30735, 15, 131071, 262143, 524287, 1048575, 2097151, 4194303, 2097151, 16777215, 33554431, 2097151, 134217727, 2097151, 270532607, 2097151, 1881145343, 4028628991, 2097151, 17179869183, 34359738367, 68719476735]
theorem Aao.tab5 : rtab .any (opsOf Tryd.f130 5) = Aao.T5:=by kernel_rfl
theorem Aao.bits5 : waitsOk Aao.T5.2 Aao.B5 = true:=by kernel_rfl
def Aao.T8 : Bool × List (List Nat × List Nat) := (true, [([], []), ([0], [0]), ([], []), ([1, 2], [1, 2]), ([3], [3]), ([], []), ([4, 5], [4, 5]), ([], []), ([7], [7]), ([], []), ([8, 9], [8, 9]), ([10], [10]), ([], []), ([11, 12, 6], [11, 12]), ([6, 13], [6, 13]), ([14, 13, 0, 1, 2, 3, 4, 5, 6, 7, 8, 9, 10, 11, 12, 13, 14], [14])])
def Aao.B8 : List Nat := [0, 1, 0, 7, 15, 0, 63, 0, 128, 0, 896, 1920, 0, 8191, 16383, 32767]
theorem Aao.tab8 : rtab .any (opsOf Tryd.f130 8) = Aao.T8:=by kernel_rfl
theorem Aao.bits8 : waitsOk Aao.T8.2 Aao.B8 = true:=by kernel_rfl
set_option maxHeartbeats 8000000 in
set_option maxRecDepth 100000 in
theorem Aao.calls (k : Nat) (a0_0 : Int) (A0_1 : Option Addr) (c0_1 : Nat) (l0_1 : List Int) (a1_0 : Int) (A1_1 : Option Addr) (c1_1 : Nat) (l1_1 : List Int) (A2 : Option Addr) (c2 : Nat) (l2 : List Int) (a3 : Int) (r : Bool) (w : World) (hr0_1 : Kd.C (Kd.int .i64) w A0_1 l0_1.length l0_1) (hc0_1 : l0_1.length ≤ c0_1) (hr1_1 : Kd.C (Kd.int .i64) w A1_1 l1_1.length l1_1) (hc1_1 : l1_1.length ≤ c1_1) (hr2 : Kd.C (Kd.int .i64) w A2 l2.length l2) (hc2 : l2.length ≤ c2) (h : Aao.f k a0_0 l0_1 a1_0 l1_1 l2 a3 = some r) :
 Calls Tryd.prog 130 #[.agg #[.int .i64 a0_0,.slice A0_1 l0_1.length c0_1],.agg #[.int .i64 a1_0,.slice A1_1 l1_1.length c1_1],.slice A2 l2.length c2,.int .i64 a3] w fun e w'=>e = .returned (.bool r) ∧ Below w.heap.size w w':=by
 have hu26:=Tryd.underlying26;have HR0_1:=A_ hr0_1;have HC0_1:=A_ hc0_1;clear hr0_1 hc0_1;have HR1_1:=A_ hr1_1;have HC1_1:=A_ hc1_1;clear hr1_1 hc1_1;have HR2:=A_ hr2;have HC2:=A_ hc2;clear hr2 hc2;have HB:=A_ (Below.refl w.heap.size w);have H : (Aao.l0 k a3 (l2.length : Int) l2 (l2.length : Int) 0 a0_0 l0_1 a1_0 l1_1) = some r:=h;clear h;have H':=A_ H;clear H;go_enter Tryd.func130,Tryd.ntmps130
 go_wp2_with (first|((with_reducible refine gate_dst (N:=4) rfl ?_);refine box_event ?hg (N:=4) ?hd (cs:=#[.int .i64 a0_0,.slice A0_1 l0_1.length c0_1]) (t:=26) ?hr ?_;(case hd=>rfl);(case hg=>rfl);(case hr=>go_simp;try rfl);intro Ap hg w5 hbox hb;have Aa:=A_ (hbox);have Cd:=A_ (gw_ (w:=w) hg bb_);have Ce:=A_ (gw_ (w:=w) hg bb_);replace HB:=A_ (below_step bb_ hb);clear hb hbox hg)|((with_reducible refine gate_dst (N:=5) rfl ?_);refine box_event ?hg (N:=5) ?hd (cs:=#[.int .i64 a1_0,.slice A1_1 l1_1.length c1_1]) (t:=26) ?hr ?_;(case hd=>rfl);(case hg=>rfl);(case hr=>go_simp;try rfl);intro Aq hg w6 hbox hb;have Ab:=A_ (hbox);have Cf:=A_ (gw_ (w:=w) hg bb_);have Cg:=A_ (gw_ (w:=w) hg bb_);replace HB:=A_ (below_step bb_ hb);have B1:=A_ (nl_ hg Aa);have B2:=A_ (ng_ hg Aa);replace Aa:=bz Aa hb;clear hb hbox hg))
 go_loopg [16] k (fun kq v16 w'=>∃ (x16_1 : Int),v16 = .int .i64 x16_1 ∧ Aside0 (Aao.l0 kq a3 (l2.length : Int) l2 (l2.length : Int) x16_1 a0_0 l0_1 a1_0 l1_1 = some r) ∧ Aside0 (kq ≤ k) ∧ Aside0 (w'.heap[Ap]? = some (.cells #[.int .i64 a0_0,(.slice A0_1 l0_1.length c0_1)] 26 (0,0))) ∧ Aside0 (w'.heap[Aq]? = some (.cells #[.int .i64 a1_0,(.slice A1_1 l1_1.length c1_1)] 26 (0,0))) ∧ Aside0 (Below w.heap.size w w'))
 case atStart=>exact ⟨(0),(by first|rfl|(simp;done)|(simp [*];done)),H',⟨Nat.le_refl _⟩,⟨bl_ Aa⟩,⟨bl_ Ab⟩,⟨bb_⟩⟩
 case round =>
  clear H';try clear c1
  try clear c2
  try clear p2
  obtain ⟨x16_1,rfl,HA,HK1,Aa,Ab,HB⟩:=hrel;cases gk with
  | zero => exact absurd HA.1 (by simp [Aao.l0])
  | succ k1 =>
   have H:=HA.1;clear HA;simp only [Aao.l0] at H
   by_cases c7 : x16_1 < (l2.length : Int)
   ·rw [if_pos c7] at H;have c7b0 : decide (x16_1 < (l2.length : Int)) = true:=decide_eq_true c7;clear c7;by_cases c8 : 0 ≤ x16_1
    ·rw [if_pos c8] at H;have c8b0 : decide (0 ≤ x16_1) = true:=decide_eq_true c8;clear c8;by_cases c9 : x16_1 < (l2.length : Int)
     ·rw [if_pos c9] at H;have c9b0 : decide (x16_1 < (l2.length : Int)) = true:=decide_eq_true c9;clear c9;by_cases c10 : (rd l2 x16_1) = a3
      ·rw [if_pos c10] at H;have c10b0 : ((rd l2 x16_1) == a3) = true:=beq_iff_eq.mpr c10;have c10b1 : ((rd l2 x16_1) != a3) = false:=bne_eq_false_iff_eq.mpr c10;clear c10;obtain rfl:=Option.some.inj H;have An : 0 ≤ (x16_1 : Int):=of_decide_eq_true (by first|(with_reducible assumption)|assumption);have Ao : x16_1 < (l2.length : Int):=of_decide_eq_true (by first|(with_reducible assumption)|assumption);obtain ⟨Bj,Bc,Ai⟩:=Kd.at_int HR2.1 x16_1 An Ao;cases Bc
       (try replace Ai:=(HB.1.cell (World.block_lt_of_cell? w _ Ai)).trans Ai);replace An:=eq_true An;replace Ao:=eq_true Ao;try go_wp2
       replace Aa:=A_ (blk_drew Aa.1);replace Ab:=A_ (blk_drew Ab.1);replace HB:=A_ (below_drew1 HB.1);refine start_ (n:=37) (S:=fun w'=>True) (ds:=[]) #[F,F,F,F,F,F,F,F,F,F,F,F,F,F,F,F,F,F,F,F,F,F,F,F,F,F,F,F,F,F,F,F,F,F,F,F,F] (by kernel_rfl) rfl rfl trivial (fun hHeld=>?_);refine with_tabW Aao.tab5 Aao.bits5 (fun HT_ HW_=>?_)
       generalize wr.drew = w11 at Aa Ab HB hHeld ⊢
       refine pu_ (i:=0) (N:=21) #[T,F,F,F,F,F,F,F,F,F,F,F,F,F,F,F,F,F,F,F,F,F,F,F,F,F,F,F,F,F,F,F,F,F,F,F,F] HT_.1 rfl rfl (fun _ _ _ h=>h) rfl (h:=?_)
       refine pu_ (i:=1) (N:=22) #[T,T,F,F,F,F,F,F,F,F,F,F,F,F,F,F,F,F,F,F,F,F,F,F,F,F,F,F,F,F,F,F,F,F,F,F,F] HT_.1 rfl rfl (fun _ _ _ h=>h) rfl (h:=?_)
       refine pu_ (i:=2) (N:=23) #[T,T,T,F,F,F,F,F,F,F,F,F,F,F,F,F,F,F,F,F,F,F,F,F,F,F,F,F,F,F,F,F,F,F,F,F,F] HT_.1 rfl rfl (fun _ _ _ h=>h) rfl (h:=?_)
       refine pu_ (i:=3) (N:=24) #[T,T,T,T,F,F,F,F,F,F,F,F,F,F,F,F,F,F,F,F,F,F,F,F,F,F,F,F,F,F,F,F,F,F,F,F,F] HT_.1 rfl rfl (fun _ _ _ h=>h) rfl (h:=?_)
       refine pure_ (i:=4) (N:=some 25) (v:=undef) (a':=?_) #[T,T,T,T,T,F,F,F,F,F,F,F,F,F,F,F,F,F,F,F,F,F,F,F,F,F,F,F,F,F,F,F,F,F,F,F,F] rfl rfl (any_of HT_.1 (by kernel_rfl)) (fun _ _ _ h=>h) (Or.inr ⟨by rfl,rfl⟩) ?_ ?_
       rotate_left;·simp only [Act.put,L_,M_,N_,i64_w,i32_w];rfl
       refine pure_ (i:=5) (N:=some 26) (v:=undef) (a':=?_) #[T,T,T,T,T,T,F,F,F,F,F,F,F,F,F,F,F,F,F,F,F,F,F,F,F,F,F,F,F,F,F,F,F,F,F,F,F] rfl rfl (any_of HT_.1 (by kernel_rfl)) (fun _ _ _ h=>h) (Or.inr ⟨by rfl,rfl⟩) ?_ ?_
       rotate_left;·simp only [Act.put,L_,M_,N_,i64_w,i32_w];rfl
       refine pure_ (i:=6) (N:=some 27) (v:=undef) (a':=?_) #[T,T,T,T,T,T,T,F,F,F,F,F,F,F,F,F,F,F,F,F,F,F,F,F,F,F,F,F,F,F,F,F,F,F,F,F,F] rfl rfl (any_of HT_.1 (by kernel_rfl)) (fun _ _ _ h=>h) (Or.inr ⟨by rfl,rfl⟩) ?_ ?_
       rotate_left;·simp only [Act.put,L_,M_,N_,i64_w,i32_w];rfl
       refine pure_ (i:=7) (N:=some 28) (v:=undef) (a':=?_) #[T,T,T,T,T,T,T,T,F,F,F,F,F,F,F,F,F,F,F,F,F,F,F,F,F,F,F,F,F,F,F,F,F,F,F,F,F] rfl rfl (any_of HT_.1 (by kernel_rfl)) (fun _ _ _ h=>h) (Or.inr ⟨by rfl,rfl⟩) ?_ ?_
       rotate_left;·simp only [Act.put,L_,M_,N_,i64_w,i32_w];rfl
       refine pure_ (i:=8) (N:=some 29) (v:=undef) (a':=?_) #[T,T,T,T,T,T,T,T,T,F,F,F,F,F,F,F,F,F,F,F,F,F,F,F,F,F,F,F,F,F,F,F,F,F,F,F,F] rfl rfl (any_of HT_.1 (by kernel_rfl)) (fun _ _ _ h=>h) (Or.inr ⟨by rfl,rfl⟩) ?_ ?_
       rotate_left;·simp only [Act.put,L_,M_,N_,i64_w,i32_w];rfl
       refine pure_ (i:=9) (N:=some 30) (v:=undef) (a':=?_) #[T,T,T,T,T,T,T,T,T,T,F,F,F,F,F,F,F,F,F,F,F,F,F,F,F,F,F,F,F,F,F,F,F,F,F,F,F] rfl rfl (any_of HT_.1 (by kernel_rfl)) (fun _ _ _ h=>h) (Or.inr ⟨by rfl,rfl⟩) ?_ ?_
       rotate_left;·simp only [Act.put,L_,M_,N_,i64_w,i32_w];rfl
       refine pure_ (i:=10) (N:=some 31) (v:=undef) (a':=?_) #[T,T,T,T,T,T,T,T,T,T,T,F,F,F,F,F,F,F,F,F,F,F,F,F,F,F,F,F,F,F,F,F,F,F,F,F,F] rfl rfl (any_of HT_.1 (by kernel_rfl)) (fun _ _ _ h=>h) (Or.inr ⟨by rfl,rfl⟩) ?_ ?_
       rotate_left;·simp only [Act.put,L_,M_,N_,i64_w,i32_w];rfl
       refine pure_ (i:=11) (N:=some 32) (v:=undef) (a':=?_) #[T,T,T,T,T,T,T,T,T,T,T,T,F,F,F,F,F,F,F,F,F,F,F,F,F,F,F,F,F,F,F,F,F,F,F,F,F] rfl rfl (any_of HT_.1 (by kernel_rfl)) (fun _ _ _ h=>h) (Or.inr ⟨by rfl,rfl⟩) ?_ ?_
       rotate_left;·simp only [Act.put,L_,M_,N_,i64_w,i32_w];rfl
       refine pure_ (i:=12) (N:=some 33) (v:=undef) (a':=?_) #[T,T,T,T,T,T,T,T,T,T,T,T,T,F,F,F,F,F,F,F,F,F,F,F,F,F,F,F,F,F,F,F,F,F,F,F,F] rfl rfl (any_of HT_.1 (by kernel_rfl)) (fun _ _ _ h=>h) (Or.inr ⟨by rfl,rfl⟩) ?_ ?_
       rotate_left;·simp only [Act.put,L_,M_,N_,i64_w,i32_w];rfl
       refine pure_ (i:=13) (N:=some 34) (v:=undef) (a':=?_) #[T,T,T,T,T,T,T,T,T,T,T,T,T,T,F,F,F,F,F,F,F,F,F,F,F,F,F,F,F,F,F,F,F,F,F,F,F] rfl rfl (any_of HT_.1 (by kernel_rfl)) (fun _ _ _ h=>h) (Or.inr ⟨by rfl,rfl⟩) ?_ ?_
       rotate_left;·simp only [Act.put,L_,M_,N_,i64_w,i32_w];rfl
       refine pure_ (i:=14) (N:=some 35) (v:=undef) (a':=?_) #[T,T,T,T,T,T,T,T,T,T,T,T,T,T,T,F,F,F,F,F,F,F,F,F,F,F,F,F,F,F,F,F,F,F,F,F,F] rfl rfl (any_of HT_.1 (by kernel_rfl)) (fun _ _ _ h=>h) (Or.inr ⟨by rfl,rfl⟩) ?_ ?_
       rotate_left;·simp only [Act.put,L_,M_,N_,i64_w,i32_w];rfl
       refine pure_ (i:=15) (N:=some 36) (v:=undef) (a':=?_) #[T,T,T,T,T,T,T,T,T,T,T,T,T,T,T,T,F,F,F,F,F,F,F,F,F,F,F,F,F,F,F,F,F,F,F,F,F] rfl rfl (any_of HT_.1 (by kernel_rfl)) (fun _ _ _ h=>h) (Or.inr ⟨by rfl,rfl⟩) ?_ ?_
       rotate_left;·simp only [Act.put,L_,M_,N_,i64_w,i32_w];rfl
       refine pure_ (i:=16) (N:=some 37) (v:=undef) (a':=?_) #[T,T,T,T,T,T,T,T,T,T,T,T,T,T,T,T,T,F,F,F,F,F,F,F,F,F,F,F,F,F,F,F,F,F,F,F,F] rfl rfl (any_of HT_.1 (by kernel_rfl)) (fun _ _ _ h=>h) (Or.inr ⟨by rfl,rfl⟩) ?_ ?_
       rotate_left;·simp only [Act.put,L_,M_,N_,i64_w,i32_w];rfl
       refine pure_ (i:=17) (N:=some 38) (v:=undef) (a':=?_) #[T,T,T,T,T,T,T,T,T,T,T,T,T,T,T,T,T,T,F,F,F,F,F,F,F,F,F,F,F,F,F,F,F,F,F,F,F] rfl rfl (any_of HT_.1 (by kernel_rfl)) (fun _ _ _ h=>h) (Or.inr ⟨by rfl,rfl⟩) ?_ ?_
       rotate_left;·simp only [Act.put,L_,M_,N_,i64_w,i32_w];rfl
       refine pure_ (i:=18) (N:=some 39) (v:=undef) (a':=?_) #[T,T,T,T,T,T,T,T,T,T,T,T,T,T,T,T,T,T,T,F,F,F,F,F,F,F,F,F,F,F,F,F,F,F,F,F,F] rfl rfl (any_of HT_.1 (by kernel_rfl)) (fun _ _ _ h=>h) (Or.inr ⟨by rfl,rfl⟩) ?_ ?_
       rotate_left;·simp only [Act.put,L_,M_,N_,i64_w,i32_w];rfl
       refine pu_ (i:=19) (N:=40) #[T,T,T,T,T,T,T,T,T,T,T,T,T,T,T,T,T,T,T,T,F,F,F,F,F,F,F,F,F,F,F,F,F,F,F,F,F] HT_.1 rfl rfl (fun _ _ _ h=>h) rfl (h:=?_)
       refine pu_ (i:=20) (N:=41) #[T,T,T,T,T,T,T,T,T,T,T,T,T,T,T,T,T,T,T,T,T,F,F,F,F,F,F,F,F,F,F,F,F,F,F,F,F] HT_.1 rfl rfl (fun _ _ _ h=>h) rfl (h:=?_)
       refine pure_ (i:=21) (N:=some 42) (v:=undef) (a':=?_) #[T,T,T,T,T,T,T,T,T,T,T,T,T,T,T,T,T,T,T,T,T,T,F,F,F,F,F,F,F,F,F,F,F,F,F,F,F] rfl rfl (any_of HT_.1 (by kernel_rfl)) (fun _ _ _ h=>h) (Or.inr ⟨by rfl,rfl⟩) ?_ ?_
       rotate_left;·simp only [Act.put,L_,M_,N_,i64_w,i32_w];rfl
       refine pure_ (i:=22) (N:=some 43) (v:=undef) (a':=?_) #[T,T,T,T,T,T,T,T,T,T,T,T,T,T,T,T,T,T,T,T,T,T,T,F,F,F,F,F,F,F,F,F,F,F,F,F,F] rfl rfl (any_of HT_.1 (by kernel_rfl)) (fun _ _ _ h=>h) (Or.inr ⟨by rfl,rfl⟩) ?_ ?_
       rotate_left;·simp only [Act.put,L_,M_,N_,i64_w,i32_w];rfl
       refine pure_ (i:=23) (N:=some 44) (v:=undef) (a':=?_) #[T,T,T,T,T,T,T,T,T,T,T,T,T,T,T,T,T,T,T,T,T,T,T,T,F,F,F,F,F,F,F,F,F,F,F,F,F] rfl rfl (any_of HT_.1 (by kernel_rfl)) (fun _ _ _ h=>h) (Or.inr ⟨by rfl,rfl⟩) ?_ ?_
       rotate_left;·simp only [Act.put,L_,M_,N_,i64_w,i32_w];rfl
       refine pure_ (i:=24) (N:=some 45) (v:=undef) (a':=?_) #[T,T,T,T,T,T,T,T,T,T,T,T,T,T,T,T,T,T,T,T,T,T,T,T,T,F,F,F,F,F,F,F,F,F,F,F,F] rfl rfl (any_of HT_.1 (by kernel_rfl)) (fun _ _ _ h=>h) (Or.inr ⟨by rfl,rfl⟩) ?_ ?_
       rotate_left;·simp only [Act.put,L_,M_,N_,i64_w,i32_w];rfl
       refine pure_ (i:=25) (N:=some 46) (v:=undef) (a':=?_) #[T,T,T,T,T,T,T,T,T,T,T,T,T,T,T,T,T,T,T,T,T,T,T,T,T,T,F,F,F,F,F,F,F,F,F,F,F] rfl rfl (any_of HT_.1 (by kernel_rfl)) (fun _ _ _ h=>h) (Or.inr ⟨by rfl,rfl⟩) ?_ ?_
       rotate_left;·simp only [Act.put,L_,M_,N_,i64_w,i32_w];rfl
       refine pure_ (i:=26) (N:=some 47) (v:=undef) (a':=?_) #[T,T,T,T,T,T,T,T,T,T,T,T,T,T,T,T,T,T,T,T,T,T,T,T,T,T,T,F,F,F,F,F,F,F,F,F,F] rfl rfl (any_of HT_.1 (by kernel_rfl)) (fun _ _ _ h=>h) (Or.inr ⟨by rfl,rfl⟩) ?_ ?_
       rotate_left;·simp only [Act.put,L_,M_,N_,i64_w,i32_w];rfl
       refine pure_ (i:=27) (N:=some 48) (v:=undef) (a':=?_) #[T,T,T,T,T,T,T,T,T,T,T,T,T,T,T,T,T,T,T,T,T,T,T,T,T,T,T,T,F,F,F,F,F,F,F,F,F] rfl rfl (any_of HT_.1 (by kernel_rfl)) (fun _ _ _ h=>h) (Or.inr ⟨by rfl,rfl⟩) ?_ ?_
       rotate_left;·simp only [Act.put,L_,M_,N_,i64_w,i32_w];rfl
       refine pure_ (i:=28) (N:=some 49) (v:=undef) (a':=?_) #[T,T,T,T,T,T,T,T,T,T,T,T,T,T,T,T,T,T,T,T,T,T,T,T,T,T,T,T,T,F,F,F,F,F,F,F,F] rfl rfl (any_of HT_.1 (by kernel_rfl)) (fun _ _ _ h=>h) (Or.inr ⟨by rfl,rfl⟩) ?_ ?_
       rotate_left;·simp only [Act.put,L_,M_,N_,i64_w,i32_w];rfl
       refine pure_ (i:=29) (N:=some 50) (v:=undef) (a':=?_) #[T,T,T,T,T,T,T,T,T,T,T,T,T,T,T,T,T,T,T,T,T,T,T,T,T,T,T,T,T,T,F,F,F,F,F,F,F] rfl rfl (any_of HT_.1 (by kernel_rfl)) (fun _ _ _ h=>h) (Or.inr ⟨by rfl,rfl⟩) ?_ ?_
       rotate_left;·simp only [Act.put,L_,M_,N_,i64_w,i32_w];rfl
       refine pure_ (i:=30) (N:=some 51) (v:=undef) (a':=?_) #[T,T,T,T,T,T,T,T,T,T,T,T,T,T,T,T,T,T,T,T,T,T,T,T,T,T,T,T,T,T,T,F,F,F,F,F,F] rfl rfl (any_of HT_.1 (by kernel_rfl)) (fun _ _ _ h=>h) (Or.inr ⟨by rfl,rfl⟩) ?_ ?_
       rotate_left;·simp only [Act.put,L_,M_,N_,i64_w,i32_w];rfl
       refine pure_ (i:=31) (N:=some 52) (v:=undef) (a':=?_) #[T,T,T,T,T,T,T,T,T,T,T,T,T,T,T,T,T,T,T,T,T,T,T,T,T,T,T,T,T,T,T,T,F,F,F,F,F] rfl rfl (any_of HT_.1 (by kernel_rfl)) (fun _ _ _ h=>h) (Or.inr ⟨by rfl,rfl⟩) ?_ ?_
       rotate_left;·simp only [Act.put,L_,M_,N_,i64_w,i32_w];rfl
       refine pure_ (i:=32) (N:=some 53) (v:=undef) (a':=?_) #[T,T,T,T,T,T,T,T,T,T,T,T,T,T,T,T,T,T,T,T,T,T,T,T,T,T,T,T,T,T,T,T,T,F,F,F,F] rfl rfl (any_of HT_.1 (by kernel_rfl)) (fun _ _ _ h=>h) (Or.inr ⟨by rfl,rfl⟩) ?_ ?_
       rotate_left;·simp only [Act.put,L_,M_,N_,i64_w,i32_w];rfl
       refine pure_ (i:=33) (N:=some 54) (v:=undef) (a':=?_) #[T,T,T,T,T,T,T,T,T,T,T,T,T,T,T,T,T,T,T,T,T,T,T,T,T,T,T,T,T,T,T,T,T,T,F,F,F] rfl rfl (any_of HT_.1 (by kernel_rfl)) (fun _ _ _ h=>h) (Or.inr ⟨by rfl,rfl⟩) ?_ ?_
       rotate_left;·simp only [Act.put,L_,M_,N_,i64_w,i32_w];rfl
       refine pure_ (i:=34) (N:=some 55) (v:=undef) (a':=?_) #[T,T,T,T,T,T,T,T,T,T,T,T,T,T,T,T,T,T,T,T,T,T,T,T,T,T,T,T,T,T,T,T,T,T,T,F,F] rfl rfl (any_of HT_.1 (by kernel_rfl)) (fun _ _ _ h=>h) (Or.inr ⟨by rfl,rfl⟩) ?_ ?_
       rotate_left;·simp only [Act.put,L_,M_,N_,i64_w,i32_w];rfl
       refine pure_ (i:=35) (N:=some 56) (v:=undef) (a':=?_) #[T,T,T,T,T,T,T,T,T,T,T,T,T,T,T,T,T,T,T,T,T,T,T,T,T,T,T,T,T,T,T,T,T,T,T,T,F] rfl rfl (any_of HT_.1 (by kernel_rfl)) (fun _ _ _ h=>h) (Or.inr ⟨by rfl,rfl⟩) ?_ ?_
       rotate_left;·simp only [Act.put,L_,M_,N_,i64_w,i32_w];rfl
       refine pu_ (i:=36) (N:=57) #[T,T,T,T,T,T,T,T,T,T,T,T,T,T,T,T,T,T,T,T,T,T,T,T,T,T,T,T,T,T,T,T,T,T,T,T,T] HT_.1 rfl rfl (fun _ _ _ h=>h) rfl (h:=?_)
       refine done_ (done_of HT_.1 (by kernel_rfl)) ?_
       try go_wp2
       go_ret
       exact ⟨by first|rfl|(simp [errW_none,errW_some] <;> rfl)|(simp [*,errW_none,errW_some] <;> rfl),bb_⟩
      ·rw [if_neg c10] at H;have c10b0 : ((rd l2 x16_1) == a3) = false:=beq_eq_false_iff_ne.mpr c10;have c10b1 : ((rd l2 x16_1) != a3) = true:=bne_iff_ne.mpr c10;by_cases c12 : 0 ≤ (rd l2 x16_1)
       ·rw [if_pos c12] at H;have c12b0 : decide (0 ≤ (rd l2 x16_1)) = true:=decide_eq_true c12;clear c12;by_cases c13 : (rd l2 x16_1) < (l0_1.length : Int)
        ·rw [if_pos c13] at H;have c13b0 : decide ((rd l2 x16_1) < (l0_1.length : Int)) = true:=decide_eq_true c13;clear c13;replace H:=Option.bind_eq_some_iff.mp H;obtain ⟨Au,Bu,H⟩:=H;(try dsimp only at H);have A14:=A_ Bu;clear Bu;by_cases c15 : x16_1 < (l1_1.length : Int)
         ·rw [if_pos c15] at H;have c15b0 : decide (x16_1 < (l1_1.length : Int)) = true:=decide_eq_true c15;clear c15;replace H:=Option.bind_eq_some_iff.mp H;obtain ⟨Av,Bv,H⟩:=H;(try dsimp only at H);have A16:=A_ Bv;clear Bv;by_cases c17 : (Au != Av) = true
          ·rw [if_pos c17] at H;have c17b0 : (Au != Av) = true:=c17;(try (have c17b1 : decide (Au = Av) = false:=by simpa using c17));(try (have c17b2 : (Au == Av) = false:=by simpa using c17));(try (have c17b3 : ¬ (Au = Av):=by simpa using c17));clear c17;obtain rfl:=Option.some.inj H;have An : 0 ≤ (x16_1 : Int):=of_decide_eq_true (by first|(with_reducible assumption)|assumption);have Ao : x16_1 < (l2.length : Int):=of_decide_eq_true (by first|(with_reducible assumption)|assumption);obtain ⟨Bj,Bc,Ai⟩:=Kd.at_int HR2.1 x16_1 An Ao;cases Bc
           (try replace Ai:=(HB.1.cell (World.block_lt_of_cell? w _ Ai)).trans Ai);replace An:=eq_true An;replace Ao:=eq_true Ao;try go_wp2
           replace Aa:=A_ (blk_drew Aa.1);replace Ab:=A_ (blk_drew Ab.1);replace HB:=A_ (below_drew1 HB.1);have Aw : 0 ≤ ((rd l2 x16_1) : Int):=of_decide_eq_true (by first|(with_reducible assumption)|assumption);have Ax : (rd l2 x16_1) < (l0_1.length : Int):=of_decide_eq_true (by first|(with_reducible assumption)|assumption);obtain ⟨Al,Bh,Ag⟩:=Kd.at_int HR0_1.1 (rd l2 x16_1) Aw Ax;have Ac:=Ag;cases Bh
           (try replace Ag:=(HB.1.cell (World.block_lt_of_cell? w _ Ag)).trans Ag);replace Aw:=eq_true Aw;replace Ax:=eq_true Ax;have Ay : 0 ≤ (x16_1 : Int):=of_decide_eq_true (by first|(with_reducible assumption)|assumption);have Az : x16_1 < (l1_1.length : Int):=of_decide_eq_true (by first|(with_reducible assumption)|assumption);obtain ⟨Am,Bi,Ah⟩:=Kd.at_int HR1_1.1 x16_1 Ay Az;have Ad:=Ah;cases Bi
           (try replace Ah:=(HB.1.cell (World.block_lt_of_cell? w _ Ah)).trans Ah);replace Ay:=eq_true Ay;replace Az:=eq_true Az;refine start_ (n:=37) (S:=fun w'=>w'.cell? ⟨Ap,0,none⟩ = some (.int .i64 a0_0) ∧ w'.cell? ⟨Ap,1,none⟩ = some (.slice (some Al) l0_1.length c0_1) ∧ w'.cell? ⟨Aq,0,none⟩ = some (.int .i64 a1_0) ∧ w'.cell? ⟨Aq,1,none⟩ = some (.slice (some Am) l1_1.length c1_1) ∧ w'.cell? (Al.add ((rd l2 x16_1)).toNat) = some (.int .i64 (rd l0_1 (rd l2 x16_1))) ∧ w'.cell? (Am.add (x16_1).toNat) = some (.int .i64 (rd l1_1 x16_1))) (ds:=[]) #[F,F,F,F,F,F,F,F,F,F,F,F,F,F,F,F,F,F,F,F,F,F,F,F,F,F,F,F,F,F,F,F,F,F,F,F,F] (by kernel_rfl) rfl rfl ⟨blk_cell Aa.1 0,blk_cell Aa.1 1,blk_cell Ab.1 0,blk_cell Ab.1 1,((HB.1.cell (World.block_lt_of_cell? w _ Ac)).trans Ac),((HB.1.cell (World.block_lt_of_cell? w _ Ad)).trans Ad)⟩ (fun hHeld=>?_);refine with_tabW Aao.tab5 Aao.bits5 (fun HT_ HW_=>?_)
           generalize wr.drew = w18 at Aa Ab HB Ag Ah hHeld ⊢
           refine pu_ (i:=0) (N:=21) #[T,F,F,F,F,F,F,F,F,F,F,F,F,F,F,F,F,F,F,F,F,F,F,F,F,F,F,F,F,F,F,F,F,F,F,F,F] HT_.1 rfl rfl (fun _ _ _ h=>h) rfl (h:=?_)
           refine pu_ (i:=1) (N:=22) #[T,T,F,F,F,F,F,F,F,F,F,F,F,F,F,F,F,F,F,F,F,F,F,F,F,F,F,F,F,F,F,F,F,F,F,F,F] HT_.1 rfl rfl (fun _ _ _ h=>h) rfl (h:=?_)
           refine pu_ (i:=2) (N:=23) #[T,T,T,F,F,F,F,F,F,F,F,F,F,F,F,F,F,F,F,F,F,F,F,F,F,F,F,F,F,F,F,F,F,F,F,F,F] HT_.1 rfl rfl (fun _ _ _ h=>h) rfl (h:=?_)
           refine pu_ (i:=3) (N:=24) #[T,T,T,T,F,F,F,F,F,F,F,F,F,F,F,F,F,F,F,F,F,F,F,F,F,F,F,F,F,F,F,F,F,F,F,F,F] HT_.1 rfl rfl (fun _ _ _ h=>h) rfl (h:=?_)
           refine pu_ (i:=4) (N:=25) #[T,T,T,T,T,F,F,F,F,F,F,F,F,F,F,F,F,F,F,F,F,F,F,F,F,F,F,F,F,F,F,F,F,F,F,F,F] HT_.1 rfl rfl (fun _ _ _ h=>h) rfl (h:=?_)
           refine pu_ (i:=6) (N:=27) #[T,T,T,T,T,F,T,F,F,F,F,F,F,F,F,F,F,F,F,F,F,F,F,F,F,F,F,F,F,F,F,F,F,F,F,F,F] HT_.1 rfl rfl (fun _ _ _ h=>h) rfl (h:=?_)
           refine pu_ (i:=9) (N:=30) #[T,T,T,T,T,F,T,F,F,T,F,F,F,F,F,F,F,F,F,F,F,F,F,F,F,F,F,F,F,F,F,F,F,F,F,F,F] HT_.1 rfl rfl (fun _ _ _ h=>h) rfl (h:=?_)
           refine pu_ (i:=11) (N:=32) #[T,T,T,T,T,F,T,F,F,T,F,T,F,F,F,F,F,F,F,F,F,F,F,F,F,F,F,F,F,F,F,F,F,F,F,F,F] HT_.1 rfl rfl (fun _ _ _ h=>h) rfl (h:=?_)
           refine pu_ (i:=13) (N:=34) #[T,T,T,T,T,F,T,F,F,T,F,T,F,T,F,F,F,F,F,F,F,F,F,F,F,F,F,F,F,F,F,F,F,F,F,F,F] HT_.1 rfl rfl (fun _ _ _ h=>h) rfl (h:=?_)
           refine pu_ (i:=16) (N:=37) #[T,T,T,T,T,F,T,F,F,T,F,T,F,T,F,F,T,F,F,F,F,F,F,F,F,F,F,F,F,F,F,F,F,F,F,F,F] HT_.1 rfl rfl (fun _ _ _ h=>h) rfl (h:=?_)
           refine take_ (i:=5) (N:=some 26) (v:=?_) (a':=?_) #[T,T,T,T,T,T,T,F,F,T,F,T,F,T,F,F,T,F,F,F,F,F,F,F,F,F,F,F,F,F,F,F,F,F,F,F,F] rfl rfl (take_ofW HT_.1 HW_.1 (by kernel_rfl)) (fun _ _ _ h=>h) (Or.inl ⟨by rfl,?_⟩) hHeld ?_ ?_
           rotate_left
           ·rintro w' ⟨s0,s1,s2,s3,s4,s5⟩
            (try simp only [Int.toNat_natCast] at s0 s1 s2 s3 s4 s5);go_simp
            with_reducible rfl
           rotate_left;·simp only [Act.put,L_,M_,N_,i64_w,i32_w];rfl
           refine pu_ (i:=7) (N:=28) #[T,T,T,T,T,T,T,T,F,T,F,T,F,T,F,F,T,F,F,F,F,F,F,F,F,F,F,F,F,F,F,F,F,F,F,F,F] HT_.1 rfl rfl (fun _ _ _ h=>h) rfl (h:=?_)
           refine take_ (i:=8) (N:=some 29) (v:=?_) (a':=?_) #[T,T,T,T,T,T,T,T,T,T,F,T,F,T,F,F,T,F,F,F,F,F,F,F,F,F,F,F,F,F,F,F,F,F,F,F,F] rfl rfl (take_ofW HT_.1 HW_.1 (by kernel_rfl)) (fun _ _ _ h=>h) (Or.inl ⟨by rfl,?_⟩) hHeld ?_ ?_
           rotate_left
           ·rintro w' ⟨s0,s1,s2,s3,s4,s5⟩
            (try simp only [Int.toNat_natCast] at s0 s1 s2 s3 s4 s5);go_simp
            with_reducible rfl
           rotate_left;·simp only [Act.put,L_,M_,N_,i64_w,i32_w];rfl
           refine take_ (i:=12) (N:=some 33) (v:=?_) (a':=?_) #[T,T,T,T,T,T,T,T,T,T,F,T,T,T,F,F,T,F,F,F,F,F,F,F,F,F,F,F,F,F,F,F,F,F,F,F,F] rfl rfl (take_ofW HT_.1 HW_.1 (by kernel_rfl)) (fun _ _ _ h=>h) (Or.inl ⟨by rfl,?_⟩) hHeld ?_ ?_
           rotate_left
           ·rintro w' ⟨s0,s1,s2,s3,s4,s5⟩
            (try simp only [Int.toNat_natCast] at s0 s1 s2 s3 s4 s5);go_simp
            with_reducible rfl
           rotate_left;·simp only [Act.put,L_,M_,N_,i64_w,i32_w];rfl
           refine pu_ (i:=14) (N:=35) #[T,T,T,T,T,T,T,T,T,T,F,T,T,T,T,F,T,F,F,F,F,F,F,F,F,F,F,F,F,F,F,F,F,F,F,F,F] HT_.1 rfl rfl (fun _ _ _ h=>h) rfl (h:=?_)
           refine take_ (i:=15) (N:=some 36) (v:=?_) (a':=?_) #[T,T,T,T,T,T,T,T,T,T,F,T,T,T,T,T,T,F,F,F,F,F,F,F,F,F,F,F,F,F,F,F,F,F,F,F,F] rfl rfl (take_ofW HT_.1 HW_.1 (by kernel_rfl)) (fun _ _ _ h=>h) (Or.inl ⟨by rfl,?_⟩) hHeld ?_ ?_
           rotate_left
           ·rintro w' ⟨s0,s1,s2,s3,s4,s5⟩
            (try simp only [Int.toNat_natCast] at s0 s1 s2 s3 s4 s5);go_simp
            with_reducible rfl
           rotate_left;·simp only [Act.put,L_,M_,N_,i64_w,i32_w];rfl
           refine one_ (i:=10) (N:=some 31) #[T,T,T,T,T,T,T,T,T,T,T,T,T,T,T,T,T,F,F,F,F,F,F,F,F,F,F,F,F,F,F,F,F,F,F,F,F] rfl rfl (one_of HT_.1 (by kernel_rfl)) (by decide) (fun K hK=>?_)
           refine goes_ Tryd.func65 (by kernel_rfl) rfl #[.int .i64 (rd l0_1 (rd l2 x16_1)),.int .i64 a3] (by rfl) rfl rfl au_ ?_
           with_reducible refine (Aay.calls (rd l0_1 (rd l2 x16_1)) a3 Au _ A14.1).mono ?_
           rintro e w' ⟨rfl,⟨nd,rfl⟩⟩
           refine ⟨_,rfl,?_⟩
           refine hK.out _ _ ⟨blk_cell Aa.1 0,blk_cell Aa.1 1,blk_cell Ab.1 0,blk_cell Ab.1 1,((HB.1.cell (World.block_lt_of_cell? w _ Ac)).trans Ac),((HB.1.cell (World.block_lt_of_cell? w _ Ad)).trans Ad)⟩ (fun hHeld=>?_)
           clear hK K;refine norm_ (a':=?_) ?_ ?_
           rotate_left
           ·show Act.put _ (some 31) _ = _
            simp only [Act.put,L_,M_,N_,i64_w,i32_w]
            rfl
           refine one_ (i:=17) (N:=some 38) #[T,T,T,T,T,T,T,T,T,T,T,T,T,T,T,T,T,T,F,F,F,F,F,F,F,F,F,F,F,F,F,F,F,F,F,F,F] rfl rfl (one_of HT_.1 (by kernel_rfl)) (by decide) (fun K hK=>?_)
           refine goes_ Tryd.func65 (by kernel_rfl) rfl #[.int .i64 (rd l1_1 x16_1),.int .i64 (l2.length : Int)] (by rfl) rfl rfl au_ ?_
           with_reducible refine (Aay.calls (rd l1_1 x16_1) (l2.length : Int) Av _ A16.1).mono ?_
           rintro e w' ⟨rfl,⟨nd,rfl⟩⟩
           refine ⟨_,rfl,?_⟩
           refine hK.out _ _ ⟨blk_cell Aa.1 0,blk_cell Aa.1 1,blk_cell Ab.1 0,blk_cell Ab.1 1,((HB.1.cell (World.block_lt_of_cell? w _ Ac)).trans Ac),((HB.1.cell (World.block_lt_of_cell? w _ Ad)).trans Ad)⟩ (fun hHeld=>?_)
           clear hK K;refine norm_ (a':=?_) ?_ ?_
           rotate_left
           ·show Act.put _ (some 38) _ = _
            simp only [Act.put,L_,M_,N_,i64_w,i32_w]
            rfl
           refine pu_ (i:=18) (N:=39) #[T,T,T,T,T,T,T,T,T,T,T,T,T,T,T,T,T,T,T,F,F,F,F,F,F,F,F,F,F,F,F,F,F,F,F,F,F] HT_.1 rfl rfl (fun _ _ _ h=>h) rfl (h:=?_)
           refine pu_ (i:=19) (N:=40) #[T,T,T,T,T,T,T,T,T,T,T,T,T,T,T,T,T,T,T,T,F,F,F,F,F,F,F,F,F,F,F,F,F,F,F,F,F] HT_.1 rfl rfl (fun _ _ _ h=>h) rfl (h:=?_)
           refine pu_ (i:=20) (N:=41) #[T,T,T,T,T,T,T,T,T,T,T,T,T,T,T,T,T,T,T,T,T,F,F,F,F,F,F,F,F,F,F,F,F,F,F,F,F] HT_.1 rfl rfl (fun _ _ _ h=>h) rfl (h:=?_)
           refine pure_ (i:=21) (N:=some 42) (v:=undef) (a':=?_) #[T,T,T,T,T,T,T,T,T,T,T,T,T,T,T,T,T,T,T,T,T,T,F,F,F,F,F,F,F,F,F,F,F,F,F,F,F] rfl rfl (any_of HT_.1 (by kernel_rfl)) (fun _ _ _ h=>h) (Or.inr ⟨by rfl,rfl⟩) ?_ ?_
           rotate_left;·simp only [Act.put,L_,M_,N_,i64_w,i32_w];rfl
           refine pure_ (i:=22) (N:=some 43) (v:=undef) (a':=?_) #[T,T,T,T,T,T,T,T,T,T,T,T,T,T,T,T,T,T,T,T,T,T,T,F,F,F,F,F,F,F,F,F,F,F,F,F,F] rfl rfl (any_of HT_.1 (by kernel_rfl)) (fun _ _ _ h=>h) (Or.inr ⟨by rfl,rfl⟩) ?_ ?_
           rotate_left;·simp only [Act.put,L_,M_,N_,i64_w,i32_w];rfl
           refine pure_ (i:=23) (N:=some 44) (v:=undef) (a':=?_) #[T,T,T,T,T,T,T,T,T,T,T,T,T,T,T,T,T,T,T,T,T,T,T,T,F,F,F,F,F,F,F,F,F,F,F,F,F] rfl rfl (any_of HT_.1 (by kernel_rfl)) (fun _ _ _ h=>h) (Or.inr ⟨by rfl,rfl⟩) ?_ ?_
           rotate_left;·simp only [Act.put,L_,M_,N_,i64_w,i32_w];rfl
           refine pure_ (i:=24) (N:=some 45) (v:=undef) (a':=?_) #[T,T,T,T,T,T,T,T,T,T,T,T,T,T,T,T,T,T,T,T,T,T,T,T,T,F,F,F,F,F,F,F,F,F,F,F,F] rfl rfl (any_of HT_.1 (by kernel_rfl)) (fun _ _ _ h=>h) (Or.inr ⟨by rfl,rfl⟩) ?_ ?_
           rotate_left;·simp only [Act.put,L_,M_,N_,i64_w,i32_w];rfl
           refine pure_ (i:=25) (N:=some 46) (v:=undef) (a':=?_) #[T,T,T,T,T,T,T,T,T,T,T,T,T,T,T,T,T,T,T,T,T,T,T,T,T,T,F,F,F,F,F,F,F,F,F,F,F] rfl rfl (any_of HT_.1 (by kernel_rfl)) (fun _ _ _ h=>h) (Or.inr ⟨by rfl,rfl⟩) ?_ ?_
           rotate_left;·simp only [Act.put,L_,M_,N_,i64_w,i32_w];rfl
           refine pure_ (i:=26) (N:=some 47) (v:=undef) (a':=?_) #[T,T,T,T,T,T,T,T,T,T,T,T,T,T,T,T,T,T,T,T,T,T,T,T,T,T,T,F,F,F,F,F,F,F,F,F,F] rfl rfl (any_of HT_.1 (by kernel_rfl)) (fun _ _ _ h=>h) (Or.inr ⟨by rfl,rfl⟩) ?_ ?_
           rotate_left;·simp only [Act.put,L_,M_,N_,i64_w,i32_w];rfl
           refine pure_ (i:=27) (N:=some 48) (v:=undef) (a':=?_) #[T,T,T,T,T,T,T,T,T,T,T,T,T,T,T,T,T,T,T,T,T,T,T,T,T,T,T,T,F,F,F,F,F,F,F,F,F] rfl rfl (any_of HT_.1 (by kernel_rfl)) (fun _ _ _ h=>h) (Or.inr ⟨by rfl,rfl⟩) ?_ ?_
           rotate_left;·simp only [Act.put,L_,M_,N_,i64_w,i32_w];rfl
           refine pure_ (i:=28) (N:=some 49) (v:=undef) (a':=?_) #[T,T,T,T,T,T,T,T,T,T,T,T,T,T,T,T,T,T,T,T,T,T,T,T,T,T,T,T,T,F,F,F,F,F,F,F,F] rfl rfl (any_of HT_.1 (by kernel_rfl)) (fun _ _ _ h=>h) (Or.inr ⟨by rfl,rfl⟩) ?_ ?_
           rotate_left;·simp only [Act.put,L_,M_,N_,i64_w,i32_w];rfl
           refine pure_ (i:=29) (N:=some 50) (v:=undef) (a':=?_) #[T,T,T,T,T,T,T,T,T,T,T,T,T,T,T,T,T,T,T,T,T,T,T,T,T,T,T,T,T,T,F,F,F,F,F,F,F] rfl rfl (any_of HT_.1 (by kernel_rfl)) (fun _ _ _ h=>h) (Or.inr ⟨by rfl,rfl⟩) ?_ ?_
           rotate_left;·simp only [Act.put,L_,M_,N_,i64_w,i32_w];rfl
           refine pure_ (i:=30) (N:=some 51) (v:=undef) (a':=?_) #[T,T,T,T,T,T,T,T,T,T,T,T,T,T,T,T,T,T,T,T,T,T,T,T,T,T,T,T,T,T,T,F,F,F,F,F,F] rfl rfl (any_of HT_.1 (by kernel_rfl)) (fun _ _ _ h=>h) (Or.inr ⟨by rfl,rfl⟩) ?_ ?_
           rotate_left;·simp only [Act.put,L_,M_,N_,i64_w,i32_w];rfl
           refine pure_ (i:=31) (N:=some 52) (v:=undef) (a':=?_) #[T,T,T,T,T,T,T,T,T,T,T,T,T,T,T,T,T,T,T,T,T,T,T,T,T,T,T,T,T,T,T,T,F,F,F,F,F] rfl rfl (any_of HT_.1 (by kernel_rfl)) (fun _ _ _ h=>h) (Or.inr ⟨by rfl,rfl⟩) ?_ ?_
           rotate_left;·simp only [Act.put,L_,M_,N_,i64_w,i32_w];rfl
           refine pure_ (i:=32) (N:=some 53) (v:=undef) (a':=?_) #[T,T,T,T,T,T,T,T,T,T,T,T,T,T,T,T,T,T,T,T,T,T,T,T,T,T,T,T,T,T,T,T,T,F,F,F,F] rfl rfl (any_of HT_.1 (by kernel_rfl)) (fun _ _ _ h=>h) (Or.inr ⟨by rfl,rfl⟩) ?_ ?_
           rotate_left;·simp only [Act.put,L_,M_,N_,i64_w,i32_w];rfl
           refine pure_ (i:=33) (N:=some 54) (v:=undef) (a':=?_) #[T,T,T,T,T,T,T,T,T,T,T,T,T,T,T,T,T,T,T,T,T,T,T,T,T,T,T,T,T,T,T,T,T,T,F,F,F] rfl rfl (any_of HT_.1 (by kernel_rfl)) (fun _ _ _ h=>h) (Or.inr ⟨by rfl,rfl⟩) ?_ ?_
           rotate_left;·simp only [Act.put,L_,M_,N_,i64_w,i32_w];rfl
           refine pure_ (i:=34) (N:=some 55) (v:=undef) (a':=?_) #[T,T,T,T,T,T,T,T,T,T,T,T,T,T,T,T,T,T,T,T,T,T,T,T,T,T,T,T,T,T,T,T,T,T,T,F,F] rfl rfl (any_of HT_.1 (by kernel_rfl)) (fun _ _ _ h=>h) (Or.inr ⟨by rfl,rfl⟩) ?_ ?_
           rotate_left;·simp only [Act.put,L_,M_,N_,i64_w,i32_w];rfl
           refine pure_ (i:=35) (N:=some 56) (v:=undef) (a':=?_) #[T,T,T,T,T,T,T,T,T,T,T,T,T,T,T,T,T,T,T,T,T,T,T,T,T,T,T,T,T,T,T,T,T,T,T,T,F] rfl rfl (any_of HT_.1 (by kernel_rfl)) (fun _ _ _ h=>h) (Or.inr ⟨by rfl,rfl⟩) ?_ ?_
           rotate_left;·simp only [Act.put,L_,M_,N_,i64_w,i32_w];rfl
           refine pu_ (i:=36) (N:=57) #[T,T,T,T,T,T,T,T,T,T,T,T,T,T,T,T,T,T,T,T,T,T,T,T,T,T,T,T,T,T,T,T,T,T,T,T,T] HT_.1 rfl rfl (fun _ _ _ h=>h) rfl (h:=?_)
           refine done_ (done_of HT_.1 (by kernel_rfl)) ?_
           try go_wp2
           go_ret
           exact ⟨by first|rfl|(simp [errW_none,errW_some] <;> rfl)|(simp [*,errW_none,errW_some] <;> rfl),bb_⟩
          ·rw [if_neg c17] at H;have c17b0 : (Au != Av) = false:=by simpa using c17
           (try (have c17b1 : decide (Au = Av) = true:=by simpa using c17));(try (have c17b2 : (Au == Av) = true:=by simpa using c17));clear c17;by_cases c19 : 0 ≤ a3
           ·rw [if_pos c19] at H;have c19b0 : decide (0 ≤ a3) = true:=decide_eq_true c19;clear c19;by_cases c20 : a3 < (l0_1.length : Int)
            ·rw [if_pos c20] at H;have c20b0 : decide (a3 < (l0_1.length : Int)) = true:=decide_eq_true c20;clear c20;replace H:=Option.bind_eq_some_iff.mp H;obtain ⟨A9,Bw,H⟩:=H;(try dsimp only at H);have A21:=A_ Bw;clear Bw;by_cases c22 : 0 ≤ (l2.length : Int)
             ·rw [if_pos c22] at H;have c22b0 : decide (0 ≤ (l2.length : Int)) = true:=decide_eq_true c22;have c22b1 : decide (0 ≤ l2.length) = true:=decide_eq_true (by omega);clear c22;by_cases c23 : (l2.length : Int) < (l1_1.length : Int)
              ·rw [if_pos c23] at H;have c23b0 : decide ((l2.length : Int) < (l1_1.length : Int)) = true:=decide_eq_true c23;have c23b1 : decide (l2.length < l1_1.length) = true:=decide_eq_true (Int.ofNat_lt.mp c23);clear c23;replace H:=Option.bind_eq_some_iff.mp H;obtain ⟨Ba,Bx,H⟩:=H;(try dsimp only at H);have A24:=A_ Bx;clear Bx;by_cases c25 : (A9 != Ba) = true
               ·rw [if_pos c25] at H;have c25b0 : (A9 != Ba) = true:=c25;(try (have c25b1 : decide (A9 = Ba) = false:=by simpa using c25));(try (have c25b2 : (A9 == Ba) = false:=by simpa using c25));(try (have c25b3 : ¬ (A9 = Ba):=by simpa using c25));clear c25;obtain rfl:=Option.some.inj H;have An : 0 ≤ (x16_1 : Int):=of_decide_eq_true (by first|(with_reducible assumption)|assumption);have Ao : x16_1 < (l2.length : Int):=of_decide_eq_true (by first|(with_reducible assumption)|assumption);obtain ⟨Bj,Bc,Ai⟩:=Kd.at_int HR2.1 x16_1 An Ao;cases Bc
                (try replace Ai:=(HB.1.cell (World.block_lt_of_cell? w _ Ai)).trans Ai);replace An:=eq_true An;replace Ao:=eq_true Ao;try go_wp2
                replace Aa:=A_ (blk_drew Aa.1);replace Ab:=A_ (blk_drew Ab.1);replace HB:=A_ (below_drew1 HB.1);have Aw : 0 ≤ ((rd l2 x16_1) : Int):=of_decide_eq_true (by first|(with_reducible assumption)|assumption);have Ax : (rd l2 x16_1) < (l0_1.length : Int):=of_decide_eq_true (by first|(with_reducible assumption)|assumption);obtain ⟨Al,Bh,Ag⟩:=Kd.at_int HR0_1.1 (rd l2 x16_1) Aw Ax;have Ac:=Ag;cases Bh
                (try replace Ag:=(HB.1.cell (World.block_lt_of_cell? w _ Ag)).trans Ag);replace Aw:=eq_true Aw;replace Ax:=eq_true Ax;have Ay : 0 ≤ (x16_1 : Int):=of_decide_eq_true (by first|(with_reducible assumption)|assumption);have Az : x16_1 < (l1_1.length : Int):=of_decide_eq_true (by first|(with_reducible assumption)|assumption);obtain ⟨Am,Bi,Ah⟩:=Kd.at_int HR1_1.1 x16_1 Ay Az;have Ad:=Ah;cases Bi
                (try replace Ah:=(HB.1.cell (World.block_lt_of_cell? w _ Ah)).trans Ah);replace Ay:=eq_true Ay;replace Az:=eq_true Az;have Bd : 0 ≤ (a3 : Int):=of_decide_eq_true (by first|(with_reducible assumption)|assumption);have Be : a3 < (l0_1.length : Int):=of_decide_eq_true (by first|(with_reducible assumption)|assumption);obtain ⟨Bk,Bm,Ak⟩:=Kd.at_int HR0_1.1 a3 Bd Be;have Ae:=Ak;obtain rfl : Al = Bk:=(by injection Bm);(try replace Ak:=(HB.1.cell (World.block_lt_of_cell? w _ Ak)).trans Ak);replace Bd:=eq_true Bd;replace Be:=eq_true Be;have Bf : 0 ≤ ((l2.length : Int) : Int):=of_decide_eq_true (by first|(with_reducible assumption)|assumption);have Bg : (l2.length : Int) < (l1_1.length : Int):=of_decide_eq_true (by first|(with_reducible assumption)|assumption);obtain ⟨Bl,Bn,Aj⟩:=Kd.at_int HR1_1.1 (l2.length : Int) Bf Bg;have Af:=Aj;obtain rfl : Am = Bl:=(by injection Bn);(try replace Aj:=(HB.1.cell (World.block_lt_of_cell? w _ Aj)).trans Aj);(try simp only [Go.IntWalk.toNatUp] at Aj);replace Bf:=eq_true Bf;replace Bg:=eq_true Bg;refine start_ (n:=37) (S:=fun w'=>w'.cell? ⟨Ap,0,none⟩ = some (.int .i64 a0_0) ∧ w'.cell? ⟨Ap,1,none⟩ = some (.slice (some Al) l0_1.length c0_1) ∧ w'.cell? ⟨Aq,0,none⟩ = some (.int .i64 a1_0) ∧ w'.cell? ⟨Aq,1,none⟩ = some (.slice (some Am) l1_1.length c1_1) ∧ w'.cell? (Al.add ((rd l2 x16_1)).toNat) = some (.int .i64 (rd l0_1 (rd l2 x16_1))) ∧ w'.cell? (Am.add (x16_1).toNat) = some (.int .i64 (rd l1_1 x16_1)) ∧ w'.cell? (Al.add (a3).toNat) = some (.int .i64 (rd l0_1 a3)) ∧ w'.cell? (Am.add ((l2.length : Int)).toNat) = some (.int .i64 (rd l1_1 (l2.length : Int)))) (ds:=[]) #[F,F,F,F,F,F,F,F,F,F,F,F,F,F,F,F,F,F,F,F,F,F,F,F,F,F,F,F,F,F,F,F,F,F,F,F,F] (by kernel_rfl) rfl rfl ⟨blk_cell Aa.1 0,blk_cell Aa.1 1,blk_cell Ab.1 0,blk_cell Ab.1 1,((HB.1.cell (World.block_lt_of_cell? w _ Ac)).trans Ac),((HB.1.cell (World.block_lt_of_cell? w _ Ad)).trans Ad),((HB.1.cell (World.block_lt_of_cell? w _ Ae)).trans Ae),((HB.1.cell (World.block_lt_of_cell? w _ Af)).trans Af)⟩ (fun hHeld=>?_);refine with_tabW Aao.tab5 Aao.bits5 (fun HT_ HW_=>?_)
                generalize wr.drew = w26 at Aa Ab HB Ag Ah Ak Aj hHeld ⊢
                refine pu_ (i:=0) (N:=21) #[T,F,F,F,F,F,F,F,F,F,F,F,F,F,F,F,F,F,F,F,F,F,F,F,F,F,F,F,F,F,F,F,F,F,F,F,F] HT_.1 rfl rfl (fun _ _ _ h=>h) rfl (h:=?_)
                refine pu_ (i:=1) (N:=22) #[T,T,F,F,F,F,F,F,F,F,F,F,F,F,F,F,F,F,F,F,F,F,F,F,F,F,F,F,F,F,F,F,F,F,F,F,F] HT_.1 rfl rfl (fun _ _ _ h=>h) rfl (h:=?_)
                refine pu_ (i:=2) (N:=23) #[T,T,T,F,F,F,F,F,F,F,F,F,F,F,F,F,F,F,F,F,F,F,F,F,F,F,F,F,F,F,F,F,F,F,F,F,F] HT_.1 rfl rfl (fun _ _ _ h=>h) rfl (h:=?_)
                refine pu_ (i:=3) (N:=24) #[T,T,T,T,F,F,F,F,F,F,F,F,F,F,F,F,F,F,F,F,F,F,F,F,F,F,F,F,F,F,F,F,F,F,F,F,F] HT_.1 rfl rfl (fun _ _ _ h=>h) rfl (h:=?_)
                refine pu_ (i:=4) (N:=25) #[T,T,T,T,T,F,F,F,F,F,F,F,F,F,F,F,F,F,F,F,F,F,F,F,F,F,F,F,F,F,F,F,F,F,F,F,F] HT_.1 rfl rfl (fun _ _ _ h=>h) rfl (h:=?_)
                refine pu_ (i:=6) (N:=27) #[T,T,T,T,T,F,T,F,F,F,F,F,F,F,F,F,F,F,F,F,F,F,F,F,F,F,F,F,F,F,F,F,F,F,F,F,F] HT_.1 rfl rfl (fun _ _ _ h=>h) rfl (h:=?_)
                refine pu_ (i:=9) (N:=30) #[T,T,T,T,T,F,T,F,F,T,F,F,F,F,F,F,F,F,F,F,F,F,F,F,F,F,F,F,F,F,F,F,F,F,F,F,F] HT_.1 rfl rfl (fun _ _ _ h=>h) rfl (h:=?_)
                refine pu_ (i:=11) (N:=32) #[T,T,T,T,T,F,T,F,F,T,F,T,F,F,F,F,F,F,F,F,F,F,F,F,F,F,F,F,F,F,F,F,F,F,F,F,F] HT_.1 rfl rfl (fun _ _ _ h=>h) rfl (h:=?_)
                refine pu_ (i:=13) (N:=34) #[T,T,T,T,T,F,T,F,F,T,F,T,F,T,F,F,F,F,F,F,F,F,F,F,F,F,F,F,F,F,F,F,F,F,F,F,F] HT_.1 rfl rfl (fun _ _ _ h=>h) rfl (h:=?_)
                refine pu_ (i:=16) (N:=37) #[T,T,T,T,T,F,T,F,F,T,F,T,F,T,F,F,T,F,F,F,F,F,F,F,F,F,F,F,F,F,F,F,F,F,F,F,F] HT_.1 rfl rfl (fun _ _ _ h=>h) rfl (h:=?_)
                refine take_ (i:=5) (N:=some 26) (v:=?_) (a':=?_) #[T,T,T,T,T,T,T,F,F,T,F,T,F,T,F,F,T,F,F,F,F,F,F,F,F,F,F,F,F,F,F,F,F,F,F,F,F] rfl rfl (take_ofW HT_.1 HW_.1 (by kernel_rfl)) (fun _ _ _ h=>h) (Or.inl ⟨by rfl,?_⟩) hHeld ?_ ?_
                rotate_left
                ·rintro w' ⟨s0,s1,s2,s3,s4,s5,s6,s7⟩
                 (try simp only [Int.toNat_natCast] at s0 s1 s2 s3 s4 s5 s6 s7);go_simp
                 with_reducible rfl
                rotate_left;·simp only [Act.put,L_,M_,N_,i64_w,i32_w];rfl
                refine pu_ (i:=7) (N:=28) #[T,T,T,T,T,T,T,T,F,T,F,T,F,T,F,F,T,F,F,F,F,F,F,F,F,F,F,F,F,F,F,F,F,F,F,F,F] HT_.1 rfl rfl (fun _ _ _ h=>h) rfl (h:=?_)
                refine take_ (i:=8) (N:=some 29) (v:=?_) (a':=?_) #[T,T,T,T,T,T,T,T,T,T,F,T,F,T,F,F,T,F,F,F,F,F,F,F,F,F,F,F,F,F,F,F,F,F,F,F,F] rfl rfl (take_ofW HT_.1 HW_.1 (by kernel_rfl)) (fun _ _ _ h=>h) (Or.inl ⟨by rfl,?_⟩) hHeld ?_ ?_
                rotate_left
                ·rintro w' ⟨s0,s1,s2,s3,s4,s5,s6,s7⟩
                 (try simp only [Int.toNat_natCast] at s0 s1 s2 s3 s4 s5 s6 s7);go_simp
                 with_reducible rfl
                rotate_left;·simp only [Act.put,L_,M_,N_,i64_w,i32_w];rfl
                refine take_ (i:=12) (N:=some 33) (v:=?_) (a':=?_) #[T,T,T,T,T,T,T,T,T,T,F,T,T,T,F,F,T,F,F,F,F,F,F,F,F,F,F,F,F,F,F,F,F,F,F,F,F] rfl rfl (take_ofW HT_.1 HW_.1 (by kernel_rfl)) (fun _ _ _ h=>h) (Or.inl ⟨by rfl,?_⟩) hHeld ?_ ?_
                rotate_left
                ·rintro w' ⟨s0,s1,s2,s3,s4,s5,s6,s7⟩
                 (try simp only [Int.toNat_natCast] at s0 s1 s2 s3 s4 s5 s6 s7);go_simp
                 with_reducible rfl
                rotate_left;·simp only [Act.put,L_,M_,N_,i64_w,i32_w];rfl
                refine pu_ (i:=14) (N:=35) #[T,T,T,T,T,T,T,T,T,T,F,T,T,T,T,F,T,F,F,F,F,F,F,F,F,F,F,F,F,F,F,F,F,F,F,F,F] HT_.1 rfl rfl (fun _ _ _ h=>h) rfl (h:=?_)
                refine take_ (i:=15) (N:=some 36) (v:=?_) (a':=?_) #[T,T,T,T,T,T,T,T,T,T,F,T,T,T,T,T,T,F,F,F,F,F,F,F,F,F,F,F,F,F,F,F,F,F,F,F,F] rfl rfl (take_ofW HT_.1 HW_.1 (by kernel_rfl)) (fun _ _ _ h=>h) (Or.inl ⟨by rfl,?_⟩) hHeld ?_ ?_
                rotate_left
                ·rintro w' ⟨s0,s1,s2,s3,s4,s5,s6,s7⟩
                 (try simp only [Int.toNat_natCast] at s0 s1 s2 s3 s4 s5 s6 s7);go_simp
                 with_reducible rfl
                rotate_left;·simp only [Act.put,L_,M_,N_,i64_w,i32_w];rfl
                refine one_ (i:=10) (N:=some 31) #[T,T,T,T,T,T,T,T,T,T,T,T,T,T,T,T,T,F,F,F,F,F,F,F,F,F,F,F,F,F,F,F,F,F,F,F,F] rfl rfl (one_of HT_.1 (by kernel_rfl)) (by decide) (fun K hK=>?_)
                refine goes_ Tryd.func65 (by kernel_rfl) rfl #[.int .i64 (rd l0_1 (rd l2 x16_1)),.int .i64 a3] (by rfl) rfl rfl au_ ?_
                with_reducible refine (Aay.calls (rd l0_1 (rd l2 x16_1)) a3 Au _ A14.1).mono ?_
                rintro e w' ⟨rfl,⟨nd,rfl⟩⟩
                refine ⟨_,rfl,?_⟩
                refine hK.out _ _ ⟨blk_cell Aa.1 0,blk_cell Aa.1 1,blk_cell Ab.1 0,blk_cell Ab.1 1,((HB.1.cell (World.block_lt_of_cell? w _ Ac)).trans Ac),((HB.1.cell (World.block_lt_of_cell? w _ Ad)).trans Ad),((HB.1.cell (World.block_lt_of_cell? w _ Ae)).trans Ae),((HB.1.cell (World.block_lt_of_cell? w _ Af)).trans Af)⟩ (fun hHeld=>?_)
                clear hK K;refine norm_ (a':=?_) ?_ ?_
                rotate_left
                ·show Act.put _ (some 31) _ = _
                 simp only [Act.put,L_,M_,N_,i64_w,i32_w]
                 rfl
                refine one_ (i:=17) (N:=some 38) #[T,T,T,T,T,T,T,T,T,T,T,T,T,T,T,T,T,T,F,F,F,F,F,F,F,F,F,F,F,F,F,F,F,F,F,F,F] rfl rfl (one_of HT_.1 (by kernel_rfl)) (by decide) (fun K hK=>?_)
                refine goes_ Tryd.func65 (by kernel_rfl) rfl #[.int .i64 (rd l1_1 x16_1),.int .i64 (l2.length : Int)] (by rfl) rfl rfl au_ ?_
                with_reducible refine (Aay.calls (rd l1_1 x16_1) (l2.length : Int) Av _ A16.1).mono ?_
                rintro e w' ⟨rfl,⟨nd,rfl⟩⟩
                refine ⟨_,rfl,?_⟩
                refine hK.out _ _ ⟨blk_cell Aa.1 0,blk_cell Aa.1 1,blk_cell Ab.1 0,blk_cell Ab.1 1,((HB.1.cell (World.block_lt_of_cell? w _ Ac)).trans Ac),((HB.1.cell (World.block_lt_of_cell? w _ Ad)).trans Ad),((HB.1.cell (World.block_lt_of_cell? w _ Ae)).trans Ae),((HB.1.cell (World.block_lt_of_cell? w _ Af)).trans Af)⟩ (fun hHeld=>?_)
                clear hK K;refine norm_ (a':=?_) ?_ ?_
                rotate_left
                ·show Act.put _ (some 38) _ = _
                 simp only [Act.put,L_,M_,N_,i64_w,i32_w]
                 rfl
                refine pu_ (i:=18) (N:=39) #[T,T,T,T,T,T,T,T,T,T,T,T,T,T,T,T,T,T,T,F,F,F,F,F,F,F,F,F,F,F,F,F,F,F,F,F,F] HT_.1 rfl rfl (fun _ _ _ h=>h) rfl (h:=?_)
                refine pu_ (i:=19) (N:=40) #[T,T,T,T,T,T,T,T,T,T,T,T,T,T,T,T,T,T,T,T,F,F,F,F,F,F,F,F,F,F,F,F,F,F,F,F,F] HT_.1 rfl rfl (fun _ _ _ h=>h) rfl (h:=?_)
                refine pu_ (i:=20) (N:=41) #[T,T,T,T,T,T,T,T,T,T,T,T,T,T,T,T,T,T,T,T,T,F,F,F,F,F,F,F,F,F,F,F,F,F,F,F,F] HT_.1 rfl rfl (fun _ _ _ h=>h) rfl (h:=?_)
                refine pu_ (i:=21) (N:=42) #[T,T,T,T,T,T,T,T,T,T,T,T,T,T,T,T,T,T,T,T,T,T,F,F,F,F,F,F,F,F,F,F,F,F,F,F,F] HT_.1 rfl rfl (fun _ _ _ h=>h) rfl (h:=?_)
                refine pu_ (i:=23) (N:=44) #[T,T,T,T,T,T,T,T,T,T,T,T,T,T,T,T,T,T,T,T,T,T,F,T,F,F,F,F,F,F,F,F,F,F,F,F,F] HT_.1 rfl rfl (fun _ _ _ h=>h) rfl (h:=?_)
                refine pu_ (i:=26) (N:=47) #[T,T,T,T,T,T,T,T,T,T,T,T,T,T,T,T,T,T,T,T,T,T,F,T,F,F,T,F,F,F,F,F,F,F,F,F,F] HT_.1 rfl rfl (fun _ _ _ h=>h) rfl (h:=?_)
                refine pu_ (i:=28) (N:=49) #[T,T,T,T,T,T,T,T,T,T,T,T,T,T,T,T,T,T,T,T,T,T,F,T,F,F,T,F,T,F,F,F,F,F,F,F,F] HT_.1 rfl rfl (fun _ _ _ h=>h) rfl (h:=?_)
                refine pu_ (i:=30) (N:=51) #[T,T,T,T,T,T,T,T,T,T,T,T,T,T,T,T,T,T,T,T,T,T,F,T,F,F,T,F,T,F,T,F,F,F,F,F,F] HT_.1 rfl rfl (fun _ _ _ h=>h) rfl (h:=?_)
                refine pu_ (i:=33) (N:=54) #[T,T,T,T,T,T,T,T,T,T,T,T,T,T,T,T,T,T,T,T,T,T,F,T,F,F,T,F,T,F,T,F,F,T,F,F,F] HT_.1 rfl rfl (fun _ _ _ h=>h) rfl (h:=?_)
                refine take_ (i:=22) (N:=some 43) (v:=?_) (a':=?_) #[T,T,T,T,T,T,T,T,T,T,T,T,T,T,T,T,T,T,T,T,T,T,T,T,F,F,T,F,T,F,T,F,F,T,F,F,F] rfl rfl (take_ofW HT_.1 HW_.1 (by kernel_rfl)) (fun _ _ _ h=>h) (Or.inl ⟨by rfl,?_⟩) hHeld ?_ ?_
                rotate_left
                ·rintro w' ⟨s0,s1,s2,s3,s4,s5,s6,s7⟩
                 (try simp only [Int.toNat_natCast] at s0 s1 s2 s3 s4 s5 s6 s7);go_simp
                 with_reducible rfl
                rotate_left;·simp only [Act.put,L_,M_,N_,i64_w,i32_w];rfl
                refine pu_ (i:=24) (N:=45) #[T,T,T,T,T,T,T,T,T,T,T,T,T,T,T,T,T,T,T,T,T,T,T,T,T,F,T,F,T,F,T,F,F,T,F,F,F] HT_.1 rfl rfl (fun _ _ _ h=>h) rfl (h:=?_)
                refine take_ (i:=25) (N:=some 46) (v:=?_) (a':=?_) #[T,T,T,T,T,T,T,T,T,T,T,T,T,T,T,T,T,T,T,T,T,T,T,T,T,T,T,F,T,F,T,F,F,T,F,F,F] rfl rfl (take_ofW HT_.1 HW_.1 (by kernel_rfl)) (fun _ _ _ h=>h) (Or.inl ⟨by rfl,?_⟩) hHeld ?_ ?_
                rotate_left
                ·rintro w' ⟨s0,s1,s2,s3,s4,s5,s6,s7⟩
                 (try simp only [Int.toNat_natCast] at s0 s1 s2 s3 s4 s5 s6 s7);go_simp
                 with_reducible rfl
                rotate_left;·simp only [Act.put,L_,M_,N_,i64_w,i32_w];rfl
                refine take_ (i:=29) (N:=some 50) (v:=?_) (a':=?_) #[T,T,T,T,T,T,T,T,T,T,T,T,T,T,T,T,T,T,T,T,T,T,T,T,T,T,T,F,T,T,T,F,F,T,F,F,F] rfl rfl (take_ofW HT_.1 HW_.1 (by kernel_rfl)) (fun _ _ _ h=>h) (Or.inl ⟨by rfl,?_⟩) hHeld ?_ ?_
                rotate_left
                ·rintro w' ⟨s0,s1,s2,s3,s4,s5,s6,s7⟩
                 (try simp only [Int.toNat_natCast] at s0 s1 s2 s3 s4 s5 s6 s7);go_simp
                 with_reducible rfl
                rotate_left;·simp only [Act.put,L_,M_,N_,i64_w,i32_w];rfl
                refine pu_ (i:=31) (N:=52) #[T,T,T,T,T,T,T,T,T,T,T,T,T,T,T,T,T,T,T,T,T,T,T,T,T,T,T,F,T,T,T,T,F,T,F,F,F] HT_.1 rfl rfl (fun _ _ _ h=>h) rfl (h:=?_)
                refine take_ (i:=32) (N:=some 53) (v:=?_) (a':=?_) #[T,T,T,T,T,T,T,T,T,T,T,T,T,T,T,T,T,T,T,T,T,T,T,T,T,T,T,F,T,T,T,T,T,T,F,F,F] rfl rfl (take_ofW HT_.1 HW_.1 (by kernel_rfl)) (fun _ _ _ h=>h) (Or.inl ⟨by rfl,?_⟩) hHeld ?_ ?_
                rotate_left
                ·rintro w' ⟨s0,s1,s2,s3,s4,s5,s6,s7⟩
                 (try simp only [Int.toNat_natCast] at s0 s1 s2 s3 s4 s5 s6 s7);go_simp
                 with_reducible rfl
                rotate_left;·simp only [Act.put,L_,M_,N_,i64_w,i32_w];rfl
                refine one_ (i:=27) (N:=some 48) #[T,T,T,T,T,T,T,T,T,T,T,T,T,T,T,T,T,T,T,T,T,T,T,T,T,T,T,T,T,T,T,T,T,T,F,F,F] rfl rfl (one_of HT_.1 (by kernel_rfl)) (by decide) (fun K hK=>?_)
                refine goes_ Tryd.func65 (by kernel_rfl) rfl #[.int .i64 (rd l0_1 a3),.int .i64 (rd l2 x16_1)] (by rfl) rfl rfl au_ ?_
                with_reducible refine (Aay.calls (rd l0_1 a3) (rd l2 x16_1) A9 _ A21.1).mono ?_
                rintro e w' ⟨rfl,⟨nd,rfl⟩⟩
                refine ⟨_,rfl,?_⟩
                refine hK.out _ _ ⟨blk_cell Aa.1 0,blk_cell Aa.1 1,blk_cell Ab.1 0,blk_cell Ab.1 1,((HB.1.cell (World.block_lt_of_cell? w _ Ac)).trans Ac),((HB.1.cell (World.block_lt_of_cell? w _ Ad)).trans Ad),((HB.1.cell (World.block_lt_of_cell? w _ Ae)).trans Ae),((HB.1.cell (World.block_lt_of_cell? w _ Af)).trans Af)⟩ (fun hHeld=>?_)
                clear hK K;refine norm_ (a':=?_) ?_ ?_
                rotate_left
                ·show Act.put _ (some 48) _ = _
                 simp only [Act.put,L_,M_,N_,i64_w,i32_w]
                 rfl
                refine one_ (i:=34) (N:=some 55) #[T,T,T,T,T,T,T,T,T,T,T,T,T,T,T,T,T,T,T,T,T,T,T,T,T,T,T,T,T,T,T,T,T,T,T,F,F] rfl rfl (one_of HT_.1 (by kernel_rfl)) (by decide) (fun K hK=>?_)
                refine goes_ Tryd.func65 (by kernel_rfl) rfl #[.int .i64 (rd l1_1 (l2.length : Int)),.int .i64 x16_1] (by rfl) rfl rfl au_ ?_
                with_reducible refine (Aay.calls (rd l1_1 (l2.length : Int)) x16_1 Ba _ A24.1).mono ?_
                rintro e w' ⟨rfl,⟨nd,rfl⟩⟩
                refine ⟨_,rfl,?_⟩
                refine hK.out _ _ ⟨blk_cell Aa.1 0,blk_cell Aa.1 1,blk_cell Ab.1 0,blk_cell Ab.1 1,((HB.1.cell (World.block_lt_of_cell? w _ Ac)).trans Ac),((HB.1.cell (World.block_lt_of_cell? w _ Ad)).trans Ad),((HB.1.cell (World.block_lt_of_cell? w _ Ae)).trans Ae),((HB.1.cell (World.block_lt_of_cell? w _ Af)).trans Af)⟩ (fun hHeld=>?_)
                clear hK K;refine norm_ (a':=?_) ?_ ?_
                rotate_left
                ·show Act.put _ (some 55) _ = _
                 simp only [Act.put,L_,M_,N_,i64_w,i32_w]
                 rfl
                refine pu_ (i:=35) (N:=56) #[T,T,T,T,T,T,T,T,T,T,T,T,T,T,T,T,T,T,T,T,T,T,T,T,T,T,T,T,T,T,T,T,T,T,T,T,F] HT_.1 rfl rfl (fun _ _ _ h=>h) rfl (h:=?_)
                refine pu_ (i:=36) (N:=57) #[T,T,T,T,T,T,T,T,T,T,T,T,T,T,T,T,T,T,T,T,T,T,T,T,T,T,T,T,T,T,T,T,T,T,T,T,T] HT_.1 rfl rfl (fun _ _ _ h=>h) rfl (h:=?_)
                refine done_ (done_of HT_.1 (by kernel_rfl)) ?_
                try go_wp2
                go_ret
                exact ⟨by first|rfl|(simp [errW_none,errW_some] <;> rfl)|(simp [*,errW_none,errW_some] <;> rfl),bb_⟩
               ·rw [if_neg c25] at H;have c25b0 : (A9 != Ba) = false:=by simpa using c25
                (try (have c25b1 : decide (A9 = Ba) = true:=by simpa using c25));(try (have c25b2 : (A9 == Ba) = true:=by simpa using c25));clear c25;have H':=A_ H;clear H;have An : 0 ≤ (x16_1 : Int):=of_decide_eq_true (by first|(with_reducible assumption)|assumption);have Ao : x16_1 < (l2.length : Int):=of_decide_eq_true (by first|(with_reducible assumption)|assumption);obtain ⟨Bj,Bc,Ai⟩:=Kd.at_int HR2.1 x16_1 An Ao;cases Bc
                (try replace Ai:=(HB.1.cell (World.block_lt_of_cell? w _ Ai)).trans Ai);replace An:=eq_true An;replace Ao:=eq_true Ao;try go_wp2
                replace Aa:=A_ (blk_drew Aa.1);replace Ab:=A_ (blk_drew Ab.1);replace HB:=A_ (below_drew1 HB.1);have Aw : 0 ≤ ((rd l2 x16_1) : Int):=of_decide_eq_true (by first|(with_reducible assumption)|assumption);have Ax : (rd l2 x16_1) < (l0_1.length : Int):=of_decide_eq_true (by first|(with_reducible assumption)|assumption);obtain ⟨Al,Bh,Ag⟩:=Kd.at_int HR0_1.1 (rd l2 x16_1) Aw Ax;have Ac:=Ag;cases Bh
                (try replace Ag:=(HB.1.cell (World.block_lt_of_cell? w _ Ag)).trans Ag);replace Aw:=eq_true Aw;replace Ax:=eq_true Ax;have Ay : 0 ≤ (x16_1 : Int):=of_decide_eq_true (by first|(with_reducible assumption)|assumption);have Az : x16_1 < (l1_1.length : Int):=of_decide_eq_true (by first|(with_reducible assumption)|assumption);obtain ⟨Am,Bi,Ah⟩:=Kd.at_int HR1_1.1 x16_1 Ay Az;have Ad:=Ah;cases Bi
                (try replace Ah:=(HB.1.cell (World.block_lt_of_cell? w _ Ah)).trans Ah);replace Ay:=eq_true Ay;replace Az:=eq_true Az;have Bd : 0 ≤ (a3 : Int):=of_decide_eq_true (by first|(with_reducible assumption)|assumption);have Be : a3 < (l0_1.length : Int):=of_decide_eq_true (by first|(with_reducible assumption)|assumption);obtain ⟨Bk,Bm,Ak⟩:=Kd.at_int HR0_1.1 a3 Bd Be;have Ae:=Ak;obtain rfl : Al = Bk:=(by injection Bm);(try replace Ak:=(HB.1.cell (World.block_lt_of_cell? w _ Ak)).trans Ak);replace Bd:=eq_true Bd;replace Be:=eq_true Be;have Bf : 0 ≤ ((l2.length : Int) : Int):=of_decide_eq_true (by first|(with_reducible assumption)|assumption);have Bg : (l2.length : Int) < (l1_1.length : Int):=of_decide_eq_true (by first|(with_reducible assumption)|assumption);obtain ⟨Bl,Bn,Aj⟩:=Kd.at_int HR1_1.1 (l2.length : Int) Bf Bg;have Af:=Aj;obtain rfl : Am = Bl:=(by injection Bn);(try replace Aj:=(HB.1.cell (World.block_lt_of_cell? w _ Aj)).trans Aj);(try simp only [Go.IntWalk.toNatUp] at Aj);replace Bf:=eq_true Bf;replace Bg:=eq_true Bg;refine start_ (n:=37) (S:=fun w'=>w'.cell? ⟨Ap,0,none⟩ = some (.int .i64 a0_0) ∧ w'.cell? ⟨Ap,1,none⟩ = some (.slice (some Al) l0_1.length c0_1) ∧ w'.cell? ⟨Aq,0,none⟩ = some (.int .i64 a1_0) ∧ w'.cell? ⟨Aq,1,none⟩ = some (.slice (some Am) l1_1.length c1_1) ∧ w'.cell? (Al.add ((rd l2 x16_1)).toNat) = some (.int .i64 (rd l0_1 (rd l2 x16_1))) ∧ w'.cell? (Am.add (x16_1).toNat) = some (.int .i64 (rd l1_1 x16_1)) ∧ w'.cell? (Al.add (a3).toNat) = some (.int .i64 (rd l0_1 a3)) ∧ w'.cell? (Am.add ((l2.length : Int)).toNat) = some (.int .i64 (rd l1_1 (l2.length : Int)))) (ds:=[]) #[F,F,F,F,F,F,F,F,F,F,F,F,F,F,F,F,F,F,F,F,F,F,F,F,F,F,F,F,F,F,F,F,F,F,F,F,F] (by kernel_rfl) rfl rfl ⟨blk_cell Aa.1 0,blk_cell Aa.1 1,blk_cell Ab.1 0,blk_cell Ab.1 1,((HB.1.cell (World.block_lt_of_cell? w _ Ac)).trans Ac),((HB.1.cell (World.block_lt_of_cell? w _ Ad)).trans Ad),((HB.1.cell (World.block_lt_of_cell? w _ Ae)).trans Ae),((HB.1.cell (World.block_lt_of_cell? w _ Af)).trans Af)⟩ (fun hHeld=>?_);refine with_tabW Aao.tab5 Aao.bits5 (fun HT_ HW_=>?_)
                generalize wr.drew = w27 at Aa Ab HB Ag Ah Ak Aj hHeld ⊢
                refine pu_ (i:=0) (N:=21) #[T,F,F,F,F,F,F,F,F,F,F,F,F,F,F,F,F,F,F,F,F,F,F,F,F,F,F,F,F,F,F,F,F,F,F,F,F] HT_.1 rfl rfl (fun _ _ _ h=>h) rfl (h:=?_)
                refine pu_ (i:=1) (N:=22) #[T,T,F,F,F,F,F,F,F,F,F,F,F,F,F,F,F,F,F,F,F,F,F,F,F,F,F,F,F,F,F,F,F,F,F,F,F] HT_.1 rfl rfl (fun _ _ _ h=>h) rfl (h:=?_)
                refine pu_ (i:=2) (N:=23) #[T,T,T,F,F,F,F,F,F,F,F,F,F,F,F,F,F,F,F,F,F,F,F,F,F,F,F,F,F,F,F,F,F,F,F,F,F] HT_.1 rfl rfl (fun _ _ _ h=>h) rfl (h:=?_)
                refine pu_ (i:=3) (N:=24) #[T,T,T,T,F,F,F,F,F,F,F,F,F,F,F,F,F,F,F,F,F,F,F,F,F,F,F,F,F,F,F,F,F,F,F,F,F] HT_.1 rfl rfl (fun _ _ _ h=>h) rfl (h:=?_)
                refine pu_ (i:=4) (N:=25) #[T,T,T,T,T,F,F,F,F,F,F,F,F,F,F,F,F,F,F,F,F,F,F,F,F,F,F,F,F,F,F,F,F,F,F,F,F] HT_.1 rfl rfl (fun _ _ _ h=>h) rfl (h:=?_)
                refine pu_ (i:=6) (N:=27) #[T,T,T,T,T,F,T,F,F,F,F,F,F,F,F,F,F,F,F,F,F,F,F,F,F,F,F,F,F,F,F,F,F,F,F,F,F] HT_.1 rfl rfl (fun _ _ _ h=>h) rfl (h:=?_)
                refine pu_ (i:=9) (N:=30) #[T,T,T,T,T,F,T,F,F,T,F,F,F,F,F,F,F,F,F,F,F,F,F,F,F,F,F,F,F,F,F,F,F,F,F,F,F] HT_.1 rfl rfl (fun _ _ _ h=>h) rfl (h:=?_)
                refine pu_ (i:=11) (N:=32) #[T,T,T,T,T,F,T,F,F,T,F,T,F,F,F,F,F,F,F,F,F,F,F,F,F,F,F,F,F,F,F,F,F,F,F,F,F] HT_.1 rfl rfl (fun _ _ _ h=>h) rfl (h:=?_)
                refine pu_ (i:=13) (N:=34) #[T,T,T,T,T,F,T,F,F,T,F,T,F,T,F,F,F,F,F,F,F,F,F,F,F,F,F,F,F,F,F,F,F,F,F,F,F] HT_.1 rfl rfl (fun _ _ _ h=>h) rfl (h:=?_)
                refine pu_ (i:=16) (N:=37) #[T,T,T,T,T,F,T,F,F,T,F,T,F,T,F,F,T,F,F,F,F,F,F,F,F,F,F,F,F,F,F,F,F,F,F,F,F] HT_.1 rfl rfl (fun _ _ _ h=>h) rfl (h:=?_)
                refine take_ (i:=5) (N:=some 26) (v:=?_) (a':=?_) #[T,T,T,T,T,T,T,F,F,T,F,T,F,T,F,F,T,F,F,F,F,F,F,F,F,F,F,F,F,F,F,F,F,F,F,F,F] rfl rfl (take_ofW HT_.1 HW_.1 (by kernel_rfl)) (fun _ _ _ h=>h) (Or.inl ⟨by rfl,?_⟩) hHeld ?_ ?_
                rotate_left
                ·rintro w' ⟨s0,s1,s2,s3,s4,s5,s6,s7⟩
                 (try simp only [Int.toNat_natCast] at s0 s1 s2 s3 s4 s5 s6 s7);go_simp
                 with_reducible rfl
                rotate_left;·simp only [Act.put,L_,M_,N_,i64_w,i32_w];rfl
                refine pu_ (i:=7) (N:=28) #[T,T,T,T,T,T,T,T,F,T,F,T,F,T,F,F,T,F,F,F,F,F,F,F,F,F,F,F,F,F,F,F,F,F,F,F,F] HT_.1 rfl rfl (fun _ _ _ h=>h) rfl (h:=?_)
                refine take_ (i:=8) (N:=some 29) (v:=?_) (a':=?_) #[T,T,T,T,T,T,T,T,T,T,F,T,F,T,F,F,T,F,F,F,F,F,F,F,F,F,F,F,F,F,F,F,F,F,F,F,F] rfl rfl (take_ofW HT_.1 HW_.1 (by kernel_rfl)) (fun _ _ _ h=>h) (Or.inl ⟨by rfl,?_⟩) hHeld ?_ ?_
                rotate_left
                ·rintro w' ⟨s0,s1,s2,s3,s4,s5,s6,s7⟩
                 (try simp only [Int.toNat_natCast] at s0 s1 s2 s3 s4 s5 s6 s7);go_simp
                 with_reducible rfl
                rotate_left;·simp only [Act.put,L_,M_,N_,i64_w,i32_w];rfl
                refine take_ (i:=12) (N:=some 33) (v:=?_) (a':=?_) #[T,T,T,T,T,T,T,T,T,T,F,T,T,T,F,F,T,F,F,F,F,F,F,F,F,F,F,F,F,F,F,F,F,F,F,F,F] rfl rfl (take_ofW HT_.1 HW_.1 (by kernel_rfl)) (fun _ _ _ h=>h) (Or.inl ⟨by rfl,?_⟩) hHeld ?_ ?_
                rotate_left
                ·rintro w' ⟨s0,s1,s2,s3,s4,s5,s6,s7⟩
                 (try simp only [Int.toNat_natCast] at s0 s1 s2 s3 s4 s5 s6 s7);go_simp
                 with_reducible rfl
                rotate_left;·simp only [Act.put,L_,M_,N_,i64_w,i32_w];rfl
                refine pu_ (i:=14) (N:=35) #[T,T,T,T,T,T,T,T,T,T,F,T,T,T,T,F,T,F,F,F,F,F,F,F,F,F,F,F,F,F,F,F,F,F,F,F,F] HT_.1 rfl rfl (fun _ _ _ h=>h) rfl (h:=?_)
                refine take_ (i:=15) (N:=some 36) (v:=?_) (a':=?_) #[T,T,T,T,T,T,T,T,T,T,F,T,T,T,T,T,T,F,F,F,F,F,F,F,F,F,F,F,F,F,F,F,F,F,F,F,F] rfl rfl (take_ofW HT_.1 HW_.1 (by kernel_rfl)) (fun _ _ _ h=>h) (Or.inl ⟨by rfl,?_⟩) hHeld ?_ ?_
                rotate_left
                ·rintro w' ⟨s0,s1,s2,s3,s4,s5,s6,s7⟩
                 (try simp only [Int.toNat_natCast] at s0 s1 s2 s3 s4 s5 s6 s7);go_simp
                 with_reducible rfl
                rotate_left;·simp only [Act.put,L_,M_,N_,i64_w,i32_w];rfl
                refine one_ (i:=10) (N:=some 31) #[T,T,T,T,T,T,T,T,T,T,T,T,T,T,T,T,T,F,F,F,F,F,F,F,F,F,F,F,F,F,F,F,F,F,F,F,F] rfl rfl (one_of HT_.1 (by kernel_rfl)) (by decide) (fun K hK=>?_)
                refine goes_ Tryd.func65 (by kernel_rfl) rfl #[.int .i64 (rd l0_1 (rd l2 x16_1)),.int .i64 a3] (by rfl) rfl rfl au_ ?_
                with_reducible refine (Aay.calls (rd l0_1 (rd l2 x16_1)) a3 Au _ A14.1).mono ?_
                rintro e w' ⟨rfl,⟨nd,rfl⟩⟩
                refine ⟨_,rfl,?_⟩
                refine hK.out _ _ ⟨blk_cell Aa.1 0,blk_cell Aa.1 1,blk_cell Ab.1 0,blk_cell Ab.1 1,((HB.1.cell (World.block_lt_of_cell? w _ Ac)).trans Ac),((HB.1.cell (World.block_lt_of_cell? w _ Ad)).trans Ad),((HB.1.cell (World.block_lt_of_cell? w _ Ae)).trans Ae),((HB.1.cell (World.block_lt_of_cell? w _ Af)).trans Af)⟩ (fun hHeld=>?_)
                clear hK K;refine norm_ (a':=?_) ?_ ?_
                rotate_left
                ·show Act.put _ (some 31) _ = _
                 simp only [Act.put,L_,M_,N_,i64_w,i32_w]
                 rfl
                refine one_ (i:=17) (N:=some 38) #[T,T,T,T,T,T,T,T,T,T,T,T,T,T,T,T,T,T,F,F,F,F,F,F,F,F,F,F,F,F,F,F,F,F,F,F,F] rfl rfl (one_of HT_.1 (by kernel_rfl)) (by decide) (fun K hK=>?_)
                refine goes_ Tryd.func65 (by kernel_rfl) rfl #[.int .i64 (rd l1_1 x16_1),.int .i64 (l2.length : Int)] (by rfl) rfl rfl au_ ?_
                with_reducible refine (Aay.calls (rd l1_1 x16_1) (l2.length : Int) Av _ A16.1).mono ?_
                rintro e w' ⟨rfl,⟨nd,rfl⟩⟩
                refine ⟨_,rfl,?_⟩
                refine hK.out _ _ ⟨blk_cell Aa.1 0,blk_cell Aa.1 1,blk_cell Ab.1 0,blk_cell Ab.1 1,((HB.1.cell (World.block_lt_of_cell? w _ Ac)).trans Ac),((HB.1.cell (World.block_lt_of_cell? w _ Ad)).trans Ad),((HB.1.cell (World.block_lt_of_cell? w _ Ae)).trans Ae),((HB.1.cell (World.block_lt_of_cell? w _ Af)).trans Af)⟩ (fun hHeld=>?_)
                clear hK K;refine norm_ (a':=?_) ?_ ?_
                rotate_left
                ·show Act.put _ (some 38) _ = _
                 simp only [Act.put,L_,M_,N_,i64_w,i32_w]
                 rfl
                refine pu_ (i:=18) (N:=39) #[T,T,T,T,T,T,T,T,T,T,T,T,T,T,T,T,T,T,T,F,F,F,F,F,F,F,F,F,F,F,F,F,F,F,F,F,F] HT_.1 rfl rfl (fun _ _ _ h=>h) rfl (h:=?_)
                refine pu_ (i:=19) (N:=40) #[T,T,T,T,T,T,T,T,T,T,T,T,T,T,T,T,T,T,T,T,F,F,F,F,F,F,F,F,F,F,F,F,F,F,F,F,F] HT_.1 rfl rfl (fun _ _ _ h=>h) rfl (h:=?_)
                refine pu_ (i:=20) (N:=41) #[T,T,T,T,T,T,T,T,T,T,T,T,T,T,T,T,T,T,T,T,T,F,F,F,F,F,F,F,F,F,F,F,F,F,F,F,F] HT_.1 rfl rfl (fun _ _ _ h=>h) rfl (h:=?_)
                refine pu_ (i:=21) (N:=42) #[T,T,T,T,T,T,T,T,T,T,T,T,T,T,T,T,T,T,T,T,T,T,F,F,F,F,F,F,F,F,F,F,F,F,F,F,F] HT_.1 rfl rfl (fun _ _ _ h=>h) rfl (h:=?_)
                refine pu_ (i:=23) (N:=44) #[T,T,T,T,T,T,T,T,T,T,T,T,T,T,T,T,T,T,T,T,T,T,F,T,F,F,F,F,F,F,F,F,F,F,F,F,F] HT_.1 rfl rfl (fun _ _ _ h=>h) rfl (h:=?_)
                refine pu_ (i:=26) (N:=47) #[T,T,T,T,T,T,T,T,T,T,T,T,T,T,T,T,T,T,T,T,T,T,F,T,F,F,T,F,F,F,F,F,F,F,F,F,F] HT_.1 rfl rfl (fun _ _ _ h=>h) rfl (h:=?_)
                refine pu_ (i:=28) (N:=49) #[T,T,T,T,T,T,T,T,T,T,T,T,T,T,T,T,T,T,T,T,T,T,F,T,F,F,T,F,T,F,F,F,F,F,F,F,F] HT_.1 rfl rfl (fun _ _ _ h=>h) rfl (h:=?_)
                refine pu_ (i:=30) (N:=51) #[T,T,T,T,T,T,T,T,T,T,T,T,T,T,T,T,T,T,T,T,T,T,F,T,F,F,T,F,T,F,T,F,F,F,F,F,F] HT_.1 rfl rfl (fun _ _ _ h=>h) rfl (h:=?_)
                refine pu_ (i:=33) (N:=54) #[T,T,T,T,T,T,T,T,T,T,T,T,T,T,T,T,T,T,T,T,T,T,F,T,F,F,T,F,T,F,T,F,F,T,F,F,F] HT_.1 rfl rfl (fun _ _ _ h=>h) rfl (h:=?_)
                refine take_ (i:=22) (N:=some 43) (v:=?_) (a':=?_) #[T,T,T,T,T,T,T,T,T,T,T,T,T,T,T,T,T,T,T,T,T,T,T,T,F,F,T,F,T,F,T,F,F,T,F,F,F] rfl rfl (take_ofW HT_.1 HW_.1 (by kernel_rfl)) (fun _ _ _ h=>h) (Or.inl ⟨by rfl,?_⟩) hHeld ?_ ?_
                rotate_left
                ·rintro w' ⟨s0,s1,s2,s3,s4,s5,s6,s7⟩
                 (try simp only [Int.toNat_natCast] at s0 s1 s2 s3 s4 s5 s6 s7);go_simp
                 with_reducible rfl
                rotate_left;·simp only [Act.put,L_,M_,N_,i64_w,i32_w];rfl
                refine pu_ (i:=24) (N:=45) #[T,T,T,T,T,T,T,T,T,T,T,T,T,T,T,T,T,T,T,T,T,T,T,T,T,F,T,F,T,F,T,F,F,T,F,F,F] HT_.1 rfl rfl (fun _ _ _ h=>h) rfl (h:=?_)
                refine take_ (i:=25) (N:=some 46) (v:=?_) (a':=?_) #[T,T,T,T,T,T,T,T,T,T,T,T,T,T,T,T,T,T,T,T,T,T,T,T,T,T,T,F,T,F,T,F,F,T,F,F,F] rfl rfl (take_ofW HT_.1 HW_.1 (by kernel_rfl)) (fun _ _ _ h=>h) (Or.inl ⟨by rfl,?_⟩) hHeld ?_ ?_
                rotate_left
                ·rintro w' ⟨s0,s1,s2,s3,s4,s5,s6,s7⟩
                 (try simp only [Int.toNat_natCast] at s0 s1 s2 s3 s4 s5 s6 s7);go_simp
                 with_reducible rfl
                rotate_left;·simp only [Act.put,L_,M_,N_,i64_w,i32_w];rfl
                refine take_ (i:=29) (N:=some 50) (v:=?_) (a':=?_) #[T,T,T,T,T,T,T,T,T,T,T,T,T,T,T,T,T,T,T,T,T,T,T,T,T,T,T,F,T,T,T,F,F,T,F,F,F] rfl rfl (take_ofW HT_.1 HW_.1 (by kernel_rfl)) (fun _ _ _ h=>h) (Or.inl ⟨by rfl,?_⟩) hHeld ?_ ?_
                rotate_left
                ·rintro w' ⟨s0,s1,s2,s3,s4,s5,s6,s7⟩
                 (try simp only [Int.toNat_natCast] at s0 s1 s2 s3 s4 s5 s6 s7);go_simp
                 with_reducible rfl
                rotate_left;·simp only [Act.put,L_,M_,N_,i64_w,i32_w];rfl
                refine pu_ (i:=31) (N:=52) #[T,T,T,T,T,T,T,T,T,T,T,T,T,T,T,T,T,T,T,T,T,T,T,T,T,T,T,F,T,T,T,T,F,T,F,F,F] HT_.1 rfl rfl (fun _ _ _ h=>h) rfl (h:=?_)
                refine take_ (i:=32) (N:=some 53) (v:=?_) (a':=?_) #[T,T,T,T,T,T,T,T,T,T,T,T,T,T,T,T,T,T,T,T,T,T,T,T,T,T,T,F,T,T,T,T,T,T,F,F,F] rfl rfl (take_ofW HT_.1 HW_.1 (by kernel_rfl)) (fun _ _ _ h=>h) (Or.inl ⟨by rfl,?_⟩) hHeld ?_ ?_
                rotate_left
                ·rintro w' ⟨s0,s1,s2,s3,s4,s5,s6,s7⟩
                 (try simp only [Int.toNat_natCast] at s0 s1 s2 s3 s4 s5 s6 s7);go_simp
                 with_reducible rfl
                rotate_left;·simp only [Act.put,L_,M_,N_,i64_w,i32_w];rfl
                refine one_ (i:=27) (N:=some 48) #[T,T,T,T,T,T,T,T,T,T,T,T,T,T,T,T,T,T,T,T,T,T,T,T,T,T,T,T,T,T,T,T,T,T,F,F,F] rfl rfl (one_of HT_.1 (by kernel_rfl)) (by decide) (fun K hK=>?_)
                refine goes_ Tryd.func65 (by kernel_rfl) rfl #[.int .i64 (rd l0_1 a3),.int .i64 (rd l2 x16_1)] (by rfl) rfl rfl au_ ?_
                with_reducible refine (Aay.calls (rd l0_1 a3) (rd l2 x16_1) A9 _ A21.1).mono ?_
                rintro e w' ⟨rfl,⟨nd,rfl⟩⟩
                refine ⟨_,rfl,?_⟩
                refine hK.out _ _ ⟨blk_cell Aa.1 0,blk_cell Aa.1 1,blk_cell Ab.1 0,blk_cell Ab.1 1,((HB.1.cell (World.block_lt_of_cell? w _ Ac)).trans Ac),((HB.1.cell (World.block_lt_of_cell? w _ Ad)).trans Ad),((HB.1.cell (World.block_lt_of_cell? w _ Ae)).trans Ae),((HB.1.cell (World.block_lt_of_cell? w _ Af)).trans Af)⟩ (fun hHeld=>?_)
                clear hK K;refine norm_ (a':=?_) ?_ ?_
                rotate_left
                ·show Act.put _ (some 48) _ = _
                 simp only [Act.put,L_,M_,N_,i64_w,i32_w]
                 rfl
                refine one_ (i:=34) (N:=some 55) #[T,T,T,T,T,T,T,T,T,T,T,T,T,T,T,T,T,T,T,T,T,T,T,T,T,T,T,T,T,T,T,T,T,T,T,F,F] rfl rfl (one_of HT_.1 (by kernel_rfl)) (by decide) (fun K hK=>?_)
                refine goes_ Tryd.func65 (by kernel_rfl) rfl #[.int .i64 (rd l1_1 (l2.length : Int)),.int .i64 x16_1] (by rfl) rfl rfl au_ ?_
                with_reducible refine (Aay.calls (rd l1_1 (l2.length : Int)) x16_1 Ba _ A24.1).mono ?_
                rintro e w' ⟨rfl,⟨nd,rfl⟩⟩
                refine ⟨_,rfl,?_⟩
                refine hK.out _ _ ⟨blk_cell Aa.1 0,blk_cell Aa.1 1,blk_cell Ab.1 0,blk_cell Ab.1 1,((HB.1.cell (World.block_lt_of_cell? w _ Ac)).trans Ac),((HB.1.cell (World.block_lt_of_cell? w _ Ad)).trans Ad),((HB.1.cell (World.block_lt_of_cell? w _ Ae)).trans Ae),((HB.1.cell (World.block_lt_of_cell? w _ Af)).trans Af)⟩ (fun hHeld=>?_)
                clear hK K;refine norm_ (a':=?_) ?_ ?_
                rotate_left
                ·show Act.put _ (some 55) _ = _
                 simp only [Act.put,L_,M_,N_,i64_w,i32_w]
                 rfl
                refine pu_ (i:=35) (N:=56) #[T,T,T,T,T,T,T,T,T,T,T,T,T,T,T,T,T,T,T,T,T,T,T,T,T,T,T,T,T,T,T,T,T,T,T,T,F] HT_.1 rfl rfl (fun _ _ _ h=>h) rfl (h:=?_)
                refine pu_ (i:=36) (N:=57) #[T,T,T,T,T,T,T,T,T,T,T,T,T,T,T,T,T,T,T,T,T,T,T,T,T,T,T,T,T,T,T,T,T,T,T,T,T] HT_.1 rfl rfl (fun _ _ _ h=>h) rfl (h:=?_)
                refine done_ (done_of HT_.1 (by kernel_rfl)) ?_
                try go_wp2
                go_roundg k1
                case measure=>have:=HK1.1;omega
                case rel=>exact ⟨(wrap64 (x16_1 + 1)),(by first|rfl|(simp;done)|(simp [*];done)),H',⟨by have:=HK1.1;omega⟩,⟨bl_ Aa⟩,⟨bl_ Ab⟩,⟨bb_⟩⟩
              ·rw [if_neg c23] at H;exact absurd H (by simp)
             ·rw [if_neg c22] at H;exact absurd H (by simp)
            ·rw [if_neg c20] at H;exact absurd H (by simp)
           ·rw [if_neg c19] at H;exact absurd H (by simp)
         ·rw [if_neg c15] at H;exact absurd H (by simp)
        ·rw [if_neg c13] at H;exact absurd H (by simp)
       ·rw [if_neg c12] at H;exact absurd H (by simp)
     ·rw [if_neg c9] at H;exact absurd H (by simp)
    ·rw [if_neg c8] at H;exact absurd H (by simp)
   ·rw [if_neg c7] at H;have c7b0 : decide (x16_1 < (l2.length : Int)) = false:=decide_eq_false c7;clear c7;by_cases c28 : 0 ≤ a3
    ·rw [if_pos c28] at H;have c28b0 : decide (0 ≤ a3) = true:=decide_eq_true c28;clear c28;by_cases c29 : a3 < (l0_1.length : Int)
     ·rw [if_pos c29] at H;have c29b0 : decide (a3 < (l0_1.length : Int)) = true:=decide_eq_true c29;clear c29;replace H:=Option.bind_eq_some_iff.mp H;obtain ⟨B4,Bz,H⟩:=H;(try dsimp only at H);have A30:=A_ Bz;clear Bz;by_cases c31 : 0 ≤ (l2.length : Int)
      ·rw [if_pos c31] at H;have c31b0 : decide (0 ≤ (l2.length : Int)) = true:=decide_eq_true c31;have c31b1 : decide (0 ≤ l2.length) = true:=decide_eq_true (by omega);clear c31;by_cases c32 : (l2.length : Int) < (l1_1.length : Int)
       ·rw [if_pos c32] at H;have c32b0 : decide ((l2.length : Int) < (l1_1.length : Int)) = true:=decide_eq_true c32;have c32b1 : decide (l2.length < l1_1.length) = true:=decide_eq_true (Int.ofNat_lt.mp c32);clear c32;replace H:=Option.bind_eq_some_iff.mp H;obtain ⟨Ca,B0,H⟩:=H;(try dsimp only at H);have A33:=A_ B0;clear B0;obtain rfl:=Option.some.inj H;try go_wp2
        replace Aa:=A_ (blk_drew Aa.1);replace Ab:=A_ (blk_drew Ab.1);replace HB:=A_ (below_drew1 HB.1);have Bo : 0 ≤ (a3 : Int):=of_decide_eq_true (by first|(with_reducible assumption)|assumption);have Bp : a3 < (l0_1.length : Int):=of_decide_eq_true (by first|(with_reducible assumption)|assumption);obtain ⟨Bs,Cb,Bb⟩:=Kd.at_int HR0_1.1 a3 Bo Bp;have Ar:=Bb;cases Cb
        (try replace Bb:=(HB.1.cell (World.block_lt_of_cell? w _ Bb)).trans Bb);replace Bo:=eq_true Bo;replace Bp:=eq_true Bp;have Bq : 0 ≤ ((l2.length : Int) : Int):=of_decide_eq_true (by first|(with_reducible assumption)|assumption);have Br : (l2.length : Int) < (l1_1.length : Int):=of_decide_eq_true (by first|(with_reducible assumption)|assumption);obtain ⟨Bt,Cc,As⟩:=Kd.at_int HR1_1.1 (l2.length : Int) Bq Br;have At:=As;cases Cc
        (try replace As:=(HB.1.cell (World.block_lt_of_cell? w _ As)).trans As);(try simp only [Go.IntWalk.toNatUp] at As);replace Bq:=eq_true Bq;replace Br:=eq_true Br;refine start_ (n:=16) (S:=fun w'=>w'.cell? ⟨Ap,0,none⟩ = some (.int .i64 a0_0) ∧ w'.cell? ⟨Ap,1,none⟩ = some (.slice (some Bs) l0_1.length c0_1) ∧ w'.cell? ⟨Aq,0,none⟩ = some (.int .i64 a1_0) ∧ w'.cell? ⟨Aq,1,none⟩ = some (.slice (some Bt) l1_1.length c1_1) ∧ w'.cell? (Bs.add (a3).toNat) = some (.int .i64 (rd l0_1 a3)) ∧ w'.cell? (Bt.add ((l2.length : Int)).toNat) = some (.int .i64 (rd l1_1 (l2.length : Int)))) (ds:=[]) #[F,F,F,F,F,F,F,F,F,F,F,F,F,F,F,F] (by kernel_rfl) rfl rfl ⟨blk_cell Aa.1 0,blk_cell Aa.1 1,blk_cell Ab.1 0,blk_cell Ab.1 1,((HB.1.cell (World.block_lt_of_cell? w _ Ar)).trans Ar),((HB.1.cell (World.block_lt_of_cell? w _ At)).trans At)⟩ (fun hHeld=>?_);refine with_tabW Aao.tab8 Aao.bits8 (fun HT_ HW_=>?_)
        generalize wr.drew = w34 at Aa Ab HB Bb As hHeld ⊢
        refine pu_ (i:=0) (N:=59) #[T,F,F,F,F,F,F,F,F,F,F,F,F,F,F,F] HT_.1 rfl rfl (fun _ _ _ h=>h) rfl (h:=?_)
        refine pu_ (i:=2) (N:=61) #[T,F,T,F,F,F,F,F,F,F,F,F,F,F,F,F] HT_.1 rfl rfl (fun _ _ _ h=>h) rfl (h:=?_)
        refine pu_ (i:=5) (N:=64) #[T,F,T,F,F,T,F,F,F,F,F,F,F,F,F,F] HT_.1 rfl rfl (fun _ _ _ h=>h) rfl (h:=?_)
        refine pu_ (i:=7) (N:=66) #[T,F,T,F,F,T,F,T,F,F,F,F,F,F,F,F] HT_.1 rfl rfl (fun _ _ _ h=>h) rfl (h:=?_)
        refine pu_ (i:=9) (N:=68) #[T,F,T,F,F,T,F,T,F,T,F,F,F,F,F,F] HT_.1 rfl rfl (fun _ _ _ h=>h) rfl (h:=?_)
        refine pu_ (i:=12) (N:=71) #[T,F,T,F,F,T,F,T,F,T,F,F,T,F,F,F] HT_.1 rfl rfl (fun _ _ _ h=>h) rfl (h:=?_)
        refine take_ (i:=1) (N:=some 60) (v:=?_) (a':=?_) #[T,T,T,F,F,T,F,T,F,T,F,F,T,F,F,F] rfl rfl (take_ofW HT_.1 HW_.1 (by kernel_rfl)) (fun _ _ _ h=>h) (Or.inl ⟨by rfl,?_⟩) hHeld ?_ ?_
        rotate_left
        ·rintro w' ⟨s0,s1,s2,s3,s4,s5⟩
         (try simp only [Int.toNat_natCast] at s0 s1 s2 s3 s4 s5);go_simp
         with_reducible rfl
        rotate_left;·simp only [Act.put,L_,M_,N_,i64_w,i32_w];rfl
        refine pu_ (i:=3) (N:=62) #[T,T,T,T,F,T,F,T,F,T,F,F,T,F,F,F] HT_.1 rfl rfl (fun _ _ _ h=>h) rfl (h:=?_)
        refine take_ (i:=4) (N:=some 63) (v:=?_) (a':=?_) #[T,T,T,T,T,T,F,T,F,T,F,F,T,F,F,F] rfl rfl (take_ofW HT_.1 HW_.1 (by kernel_rfl)) (fun _ _ _ h=>h) (Or.inl ⟨by rfl,?_⟩) hHeld ?_ ?_
        rotate_left
        ·rintro w' ⟨s0,s1,s2,s3,s4,s5⟩
         (try simp only [Int.toNat_natCast] at s0 s1 s2 s3 s4 s5);go_simp
         with_reducible rfl
        rotate_left;·simp only [Act.put,L_,M_,N_,i64_w,i32_w];rfl
        refine take_ (i:=8) (N:=some 67) (v:=?_) (a':=?_) #[T,T,T,T,T,T,F,T,T,T,F,F,T,F,F,F] rfl rfl (take_ofW HT_.1 HW_.1 (by kernel_rfl)) (fun _ _ _ h=>h) (Or.inl ⟨by rfl,?_⟩) hHeld ?_ ?_
        rotate_left
        ·rintro w' ⟨s0,s1,s2,s3,s4,s5⟩
         (try simp only [Int.toNat_natCast] at s0 s1 s2 s3 s4 s5);go_simp
         with_reducible rfl
        rotate_left;·simp only [Act.put,L_,M_,N_,i64_w,i32_w];rfl
        refine pu_ (i:=10) (N:=69) #[T,T,T,T,T,T,F,T,T,T,T,F,T,F,F,F] HT_.1 rfl rfl (fun _ _ _ h=>h) rfl (h:=?_)
        refine take_ (i:=11) (N:=some 70) (v:=?_) (a':=?_) #[T,T,T,T,T,T,F,T,T,T,T,T,T,F,F,F] rfl rfl (take_ofW HT_.1 HW_.1 (by kernel_rfl)) (fun _ _ _ h=>h) (Or.inl ⟨by rfl,?_⟩) hHeld ?_ ?_
        rotate_left
        ·rintro w' ⟨s0,s1,s2,s3,s4,s5⟩
         (try simp only [Int.toNat_natCast] at s0 s1 s2 s3 s4 s5);go_simp
         with_reducible rfl
        rotate_left;·simp only [Act.put,L_,M_,N_,i64_w,i32_w];rfl
        refine one_ (i:=6) (N:=some 65) #[T,T,T,T,T,T,T,T,T,T,T,T,T,F,F,F] rfl rfl (one_of HT_.1 (by kernel_rfl)) (by decide) (fun K hK=>?_)
        refine goes_ Tryd.func65 (by kernel_rfl) rfl #[.int .i64 (rd l0_1 a3),.int .i64 a3] (by rfl) rfl rfl au_ ?_
        with_reducible refine (Aay.calls (rd l0_1 a3) a3 B4 _ A30.1).mono ?_
        rintro e w' ⟨rfl,⟨nd,rfl⟩⟩
        refine ⟨_,rfl,?_⟩
        refine hK.out _ _ ⟨blk_cell Aa.1 0,blk_cell Aa.1 1,blk_cell Ab.1 0,blk_cell Ab.1 1,((HB.1.cell (World.block_lt_of_cell? w _ Ar)).trans Ar),((HB.1.cell (World.block_lt_of_cell? w _ At)).trans At)⟩ (fun hHeld=>?_)
        clear hK K;refine norm_ (a':=?_) ?_ ?_
        rotate_left
        ·show Act.put _ (some 65) _ = _
         simp only [Act.put,L_,M_,N_,i64_w,i32_w]
         rfl
        refine one_ (i:=13) (N:=some 72) #[T,T,T,T,T,T,T,T,T,T,T,T,T,T,F,F] rfl rfl (one_of HT_.1 (by kernel_rfl)) (by decide) (fun K hK=>?_)
        refine goes_ Tryd.func65 (by kernel_rfl) rfl #[.int .i64 (rd l1_1 (l2.length : Int)),.int .i64 (l2.length : Int)] (by rfl) rfl rfl au_ ?_
        with_reducible refine (Aay.calls (rd l1_1 (l2.length : Int)) (l2.length : Int) Ca _ A33.1).mono ?_
        rintro e w' ⟨rfl,⟨nd,rfl⟩⟩
        refine ⟨_,rfl,?_⟩
        refine hK.out _ _ ⟨blk_cell Aa.1 0,blk_cell Aa.1 1,blk_cell Ab.1 0,blk_cell Ab.1 1,((HB.1.cell (World.block_lt_of_cell? w _ Ar)).trans Ar),((HB.1.cell (World.block_lt_of_cell? w _ At)).trans At)⟩ (fun hHeld=>?_)
        clear hK K;refine norm_ (a':=?_) ?_ ?_
        rotate_left
        ·show Act.put _ (some 72) _ = _
         simp only [Act.put,L_,M_,N_,i64_w,i32_w]
         rfl
        refine pu_ (i:=14) (N:=73) #[T,T,T,T,T,T,T,T,T,T,T,T,T,T,T,F] HT_.1 rfl rfl (fun _ _ _ h=>h) rfl (h:=?_)
        refine pu_ (i:=15) (N:=8) #[T,T,T,T,T,T,T,T,T,T,T,T,T,T,T,T] HT_.1 rfl rfl (fun _ _ _ h=>h) rfl (h:=?_)
        refine done_ (done_of HT_.1 (by kernel_rfl)) ?_
        try go_wp2
        go_ret
        exact ⟨by first|rfl|(simp [errW_none,errW_some] <;> rfl)|(simp [*,errW_none,errW_some] <;> rfl),bb_⟩
       ·rw [if_neg c32] at H;exact absurd H (by simp)
      ·rw [if_neg c31] at H;exact absurd H (by simp)
     ·rw [if_neg c29] at H;exact absurd H (by simp)
    ·rw [if_neg c28] at H;exact absurd H (by simp)
mutual
def Aak.l0 : Nat → List Int → Int → Int → List Int → Int → List Int → Option (List Int × Bool)
 | 0,_,_,_,_,_,_=>none
 | k + 1,x2,x8,x602000,x602001,x603000,x603001=>if x8 < x602000 then ((Aao.f k x602000 x602001 x603000 x603001 x2 x8).bind fun t603=>(if t603 = true then ((Abd.f x2).bind fun t604=>((some (([x8] : List Int) : List Int)).bind fun y607=>(if t604.length + y607.length < 17592186044416 then ((Aak.f k x602000 x602001 x603000 x603001 (t604 ++ y607)).bind fun bt613=>(if bt613.2 = true then (some (bt613.1,true)) else (Aak.l0 k x2 (wrap64 (x8 + 1)) x602000 x602001 x603000 x603001))) else (none)))) else (Aak.l0 k x2 (wrap64 (x8 + 1)) x602000 x602001 x603000 x603001))) else (some (([] : List Int),false))
def Aak.f : Nat → Int → List Int → Int → List Int → List Int → Option (List Int × Bool)
 | 0,_,_,_,_,_=>none
 | k + 1,a0_0,l0_1,a1_0,l1_1,l2=>if (l2.length : Int) = a1_0 then (some (l2,true)) else (Aak.l0 k l2 0 a0_0 l0_1 a1_0 l1_1)
end
def Aak.T7 : Bool × List (List Nat × List Nat) := (true, [([], []), ([], []), ([], []), ([2], [2]), ([], []), ([4], [4]), ([3, 5, 3], [3, 5]), ([0, 1, 6, 6], [0, 1, 6]), ([7], [7]), ([8], [8]), ([8], [8]), ([9, 7, 0, 1, 2, 3, 4, 5, 6, 7, 8, 9], [9]), ([10, 11, 0, 1, 2, 3, 4, 5, 6, 7, 8, 9, 10, 11], [10])])
def Aak.B7 : List Nat := [0, 0, 0, 4, 0, 16, 60, 127, 255, 511, 511, 1023, 4095]
theorem Aak.tab7 : rtab .any (opsOf Tryd.f83 7) = Aak.T7:=by kernel_rfl
theorem Aak.bits7 : waitsOk Aak.T7.2 Aak.B7 = true:=by kernel_rfl
set_option maxHeartbeats 8000000 in
set_option maxRecDepth 100000 in
theorem Aak.calls (k : Nat) : ∀ (a0_0 : Int) (A0_1 : Option Addr) (c0_1 : Nat) (l0_1 : List Int) (a1_0 : Int) (A1_1 : Option Addr) (c1_1 : Nat) (l1_1 : List Int) (P2_ : Nat → Prop) (As : Value) (l2 : List Int) (r1 : List Int) (r2 : Bool) (w0 w : World) (hB : Below w0.heap.size w0 w) (hr0_1 : ∀ W_,Kept w W_ (fun k_=>P2_ k_) → Kd.C (Kd.int .i64) W_ A0_1 l0_1.length l0_1) (hc0_1 : l0_1.length ≤ c0_1) (hr1_1 : ∀ W_,Kept w W_ (fun k_=>P2_ k_) → Kd.C (Kd.int .i64) W_ A1_1 l1_1.length l1_1) (hc1_1 : l1_1.length ≤ c1_1) (ho2 : Kd.R (Kd.int .i64) 3 w w0.heap.size P2_ As l2) (h : Aak.f k a0_0 l0_1 a1_0 l1_1 l2 = some (r1,r2)),
 Calls Tryd.prog 83 #[.agg #[.int .i64 a0_0,.slice A0_1 l0_1.length c0_1],.agg #[.int .i64 a1_0,.slice A1_1 l1_1.length c1_1],As] w fun e w'=>∃ v0_ : Value,e = .returned (.tuple #[v0_,.bool r2]) ∧ Kd.R (Kd.int .i64) 3 w' w0.heap.size (fun k_=>(P2_ k_ ∨ w.heap.size ≤ k_)) v0_ r1 ∧ Below w0.heap.size w0 w' ∧ Kept w w' (fun k_=>P2_ k_):=by
 induction k using Nat.strongRecOn with
 | _ k ih =>
 intro a0_0 A0_1 c0_1 l0_1 a1_0 A1_1 c1_1 l1_1 P2_ As l2 r1 r2 w0 w hB hr0_1 hc0_1 hr1_1 hc1_1 ho2 h
 cases k with
 | zero=>exact absurd h (by simp [Aak.f])
 | succ k =>
 simp only [Aak.f] at h
 have hu26:=Tryd.underlying26;have HR0_1:=A_ hr0_1;have HC0_1:=A_ hc0_1;clear hr0_1 hc0_1;have HR1_1:=A_ hr1_1;have HC1_1:=A_ hc1_1;clear hr1_1 hc1_1;have HO2:=A_ (show Kd.R (Kd.int .i64) 3 w w0.heap.size (fun k_=>(P2_ k_ ∨ w.heap.size ≤ k_)) As l2 from Kd.R_mono ho2 (fun k_ hk=>(.inl hk)));have HK:=A_ (Kept.refl w (fun k_=>P2_ k_));have HW0:=A_ hB.size;have HB:=A_ hB;clear hB;have H : (if (l2.length : Int) = a1_0 then (some (l2,true)) else (Aak.l0 k l2 0 a0_0 l0_1 a1_0 l1_1)) = some (r1,r2):=h;clear h;by_cases c4 : (l2.length : Int) = a1_0
 ·rw [if_pos c4] at H;have c4b0 : ((l2.length : Int) == a1_0) = true:=beq_iff_eq.mpr c4;have c4b1 : ((l2.length : Int) != a1_0) = false:=bne_eq_false_iff_eq.mpr c4;clear c4;simp only [Option.some.injEq,Prod.mk.injEq] at H
  obtain ⟨rfl,rfl⟩:=H;go_enter Tryd.func83,Tryd.ntmps83
  go_wp2_with (first|((with_reducible refine gate_dst (N:=3) rfl ?_);refine box_event ?hg (N:=3) ?hd (cs:=#[.int .i64 a0_0,.slice A0_1 l0_1.length c0_1]) (t:=26) ?hr ?_;(case hd=>rfl);(case hg=>rfl);(case hr=>go_simp;try rfl);intro Ag hg w5 hbox hb;replace HO2:=rb_ HO2 hb;have Aa:=A_ (hbox);have Ac:=A_ ((by rw [hg];exact (by first|exact HK.1.1|exact (show Kept w _ (fun k_=>P2_ k_) from by repeat (first|(with_reducible first|exact HK.1|apply Kept.alloc|apply Kept.drewN|apply Kept.drew)|exact HK.1)).1) : w.heap.size ≤ Ag));replace HK:=A_ (Kept.below (S:=(fun k_=>P2_ k_)) (by repeat (with_reducible first|exact HK.1|apply Kept.alloc|apply Kept.drewN|apply Kept.drew)) hb);have Bd:=A_ ((by rw [hg];exact (below_size bb_) : w0.heap.size ≤ Ag));replace HB:=A_ (below_step bb_ hb);clear hb hbox hg)|((with_reducible refine gate_dst (N:=4) rfl ?_);refine box_event ?hg (N:=4) ?hd (cs:=#[.int .i64 a1_0,.slice A1_1 l1_1.length c1_1]) (t:=26) ?hr ?_;(case hd=>rfl);(case hg=>rfl);(case hr=>go_simp;try rfl);intro Ah hg w6 hbox hb;replace HO2:=rb_ HO2 hb;have Ab:=A_ (hbox);have Ad:=A_ ((by rw [hg];exact (by first|exact HK.1.1|exact (show Kept w _ (fun k_=>P2_ k_) from by repeat (first|(with_reducible first|exact HK.1|apply Kept.alloc|apply Kept.drewN|apply Kept.drew|refine Kept.setCell ?_ (.inr Ac.1) _)|exact HK.1)).1) : w.heap.size ≤ Ah));replace HK:=A_ (Kept.below (S:=(fun k_=>P2_ k_)) (by repeat (first|(with_reducible first|exact HK.1|apply Kept.alloc|apply Kept.drewN|apply Kept.drew|refine Kept.setCell ?_ (.inr Ac.1) _)|exact HK.1)) hb);have Be:=A_ ((by rw [hg];exact (below_size bb_) : w0.heap.size ≤ Ah));replace HB:=A_ (below_step bb_ hb);have Am:=A_ (nl_ hg Aa);have An:=A_ (ng_ hg Aa);replace Aa:=bz Aa hb;clear hb hbox hg;obtain ⟨Ao7,co7,eo7⟩:=Kd.R_slice HO2.1;subst eo7;have Z:=An.1;have Z:=Am.1;obtain ⟨Z,Z,Z,Z⟩:=o2_ Ab.1))
  go_ret2
  exact ⟨_,by first|rfl|(simp [errW_none,errW_some] <;> rfl)|(simp [*,errW_none,errW_some] <;> rfl),rl_ HO2,bb_,by repeat (first|(with_reducible first|exact HK.1|apply Kept.alloc|apply Kept.drewN|apply Kept.drew|refine Kept.setCell ?_ (.inr Ac.1) _|refine Kept.setCell ?_ (.inr Ad.1) _)|exact HK.1)⟩
 ·rw [if_neg c4] at H;have c4b0 : ((l2.length : Int) == a1_0) = false:=beq_eq_false_iff_ne.mpr c4;have c4b1 : ((l2.length : Int) != a1_0) = true:=bne_iff_ne.mpr c4;have H':=A_ H;clear H;go_enter Tryd.func83,Tryd.ntmps83
  go_wp2_with (first|((with_reducible refine gate_dst (N:=3) rfl ?_);refine box_event ?hg (N:=3) ?hd (cs:=#[.int .i64 a0_0,.slice A0_1 l0_1.length c0_1]) (t:=26) ?hr ?_;(case hd=>rfl);(case hg=>rfl);(case hr=>go_simp;try rfl);intro Ag hg w10 hbox hb;replace HO2:=rb_ HO2 hb;have Aa:=A_ (hbox);have Ac:=A_ ((by rw [hg];exact (by first|exact HK.1.1|exact (show Kept w _ (fun k_=>P2_ k_) from by repeat (first|(with_reducible first|exact HK.1|apply Kept.alloc|apply Kept.drewN|apply Kept.drew)|exact HK.1)).1) : w.heap.size ≤ Ag));replace HK:=A_ (Kept.below (S:=(fun k_=>P2_ k_)) (by repeat (with_reducible first|exact HK.1|apply Kept.alloc|apply Kept.drewN|apply Kept.drew)) hb);have Bd:=A_ ((by rw [hg];exact (below_size bb_) : w0.heap.size ≤ Ag));replace HB:=A_ (below_step bb_ hb);clear hb hbox hg)|((with_reducible refine gate_dst (N:=4) rfl ?_);refine box_event ?hg (N:=4) ?hd (cs:=#[.int .i64 a1_0,.slice A1_1 l1_1.length c1_1]) (t:=26) ?hr ?_;(case hd=>rfl);(case hg=>rfl);(case hr=>go_simp;try rfl);intro Ah hg w11 hbox hb;replace HO2:=rb_ HO2 hb;have Ab:=A_ (hbox);have Ad:=A_ ((by rw [hg];exact (by first|exact HK.1.1|exact (show Kept w _ (fun k_=>P2_ k_) from by repeat (first|(with_reducible first|exact HK.1|apply Kept.alloc|apply Kept.drewN|apply Kept.drew|refine Kept.setCell ?_ (.inr Ac.1) _)|exact HK.1)).1) : w.heap.size ≤ Ah));replace HK:=A_ (Kept.below (S:=(fun k_=>P2_ k_)) (by repeat (first|(with_reducible first|exact HK.1|apply Kept.alloc|apply Kept.drewN|apply Kept.drew|refine Kept.setCell ?_ (.inr Ac.1) _)|exact HK.1)) hb);have Be:=A_ ((by rw [hg];exact (below_size bb_) : w0.heap.size ≤ Ah));replace HB:=A_ (below_step bb_ hb);have Am:=A_ (nl_ hg Aa);have An:=A_ (ng_ hg Aa);replace Aa:=bz Aa hb;clear hb hbox hg;obtain ⟨Ao12,co12,eo12⟩:=Kd.R_slice HO2.1;subst eo12;have Z:=An.1;have Z:=Am.1;obtain ⟨Z,Z,Z,Z⟩:=o2_ Ab.1))
  go_loopg [8] k (fun kq v8 w'=>∃ (x8_1 : Int),v8 = .int .i64 x8_1 ∧ Aside0 (Aak.l0 kq l2 x8_1 a0_0 l0_1 a1_0 l1_1 = some (r1,r2)) ∧ Aside0 (kq ≤ k) ∧ Aside0 (Kd.R (Kd.int .i64) 3 w' w0.heap.size (fun k_=>(P2_ k_ ∨ w.heap.size ≤ k_)) (.slice Ao12 l2.length co12) l2) ∧ Aside0 (w'.heap[Ag]? = some (.cells #[.int .i64 a0_0,(.slice A0_1 l0_1.length c0_1)] 26 (0,0))) ∧ Aside0 (w'.heap[Ah]? = some (.cells #[.int .i64 a1_0,(.slice A1_1 l1_1.length c1_1)] 26 (0,0))) ∧ Aside0 (Kept w w' (fun k_=>P2_ k_)) ∧ Aside0 (Below w0.heap.size w0 w'))
  case atStart=>exact ⟨(0),(by first|rfl|(simp;done)|(simp [*];done)),H',⟨Nat.le_refl _⟩,⟨rl_ HO2⟩,⟨bl_ Aa⟩,⟨bl_ Ab⟩,⟨by repeat (first|(with_reducible first|exact HK.1|apply Kept.alloc|apply Kept.drewN|apply Kept.drew|refine Kept.setCell ?_ (.inr Ac.1) _|refine Kept.setCell ?_ (.inr Ad.1) _)|exact HK.1)⟩,⟨bb_⟩⟩
  case round =>
   clear H';try clear c1
   try clear p2
   try clear c4
   try clear c4b0
   try clear c4b1
   try clear c8
   try clear c13
   repeat clear Z
   obtain ⟨x8_1,rfl,HA,HK1,HO_2,Aa,Ab,HK,HB⟩:=hrel;cases gk with
   | zero=>exact absurd HA.1 (by simp [Aak.l0])
   | succ k1 =>
    have H:=HA.1;clear HA;simp only [Aak.l0] at H
    by_cases c15 : x8_1 < a0_0
    ·rw [if_pos c15] at H;have c15b0 : decide (x8_1 < a0_0) = true:=decide_eq_true c15;clear c15;replace H:=Option.bind_eq_some_iff.mp H;obtain ⟨Az,A9,H⟩:=H;replace H : (if Az = true then ((Abd.f l2).bind fun Ak=>((some (([x8_1] : List Int) : List Int)).bind fun Ai=>(if Ak.length + Ai.length < 17592186044416 then ((Aak.f k1 a0_0 l0_1 a1_0 l1_1 (Ak ++ Ai)).bind fun Al=>(if Al.2 = true then (some (Al.1,true)) else (Aak.l0 k1 l2 (wrap64 (x8_1 + 1)) a0_0 l0_1 a1_0 l1_1))) else (none)))) else (Aak.l0 k1 l2 (wrap64 (x8_1 + 1)) a0_0 l0_1 a1_0 l1_1)) = some (r1,r2):=H;have A16:=A_ A9;clear A9;by_cases c17 : Az = true
     ·subst c17;have H1 : ((Abd.f l2).bind fun Ak=>((some (([x8_1] : List Int) : List Int)).bind fun Ai=>(if Ak.length + Ai.length < 17592186044416 then ((Aak.f k1 a0_0 l0_1 a1_0 l1_1 (Ak ++ Ai)).bind fun Al=>(if Al.2 = true then (some (Al.1,true)) else (Aak.l0 k1 l2 (wrap64 (x8_1 + 1)) a0_0 l0_1 a1_0 l1_1))) else (none)))) = some (r1,r2):=by rw [if_pos rfl] at H;exact H
      clear H;have H:=H1;clear H1;replace H:=Option.bind_eq_some_iff.mp H;obtain ⟨Ak,Ba,H⟩:=H;replace H : ((some (([x8_1] : List Int) : List Int)).bind fun Ai=>(if Ak.length + Ai.length < 17592186044416 then ((Aak.f k1 a0_0 l0_1 a1_0 l1_1 (Ak ++ Ai)).bind fun Al=>(if Al.2 = true then (some (Al.1,true)) else (Aak.l0 k1 l2 (wrap64 (x8_1 + 1)) a0_0 l0_1 a1_0 l1_1))) else (none))) = some (r1,r2):=H;have A18:=A_ Ba;clear Ba;obtain ⟨Ai,At⟩ : ∃ y_ : List Int,y_ = (([x8_1] : List Int)):=⟨_,rfl⟩;replace H : (if Ak.length + Ai.length < 17592186044416 then ((Aak.f k1 a0_0 l0_1 a1_0 l1_1 (Ak ++ Ai)).bind fun Al=>(if Al.2 = true then (some (Al.1,true)) else (Aak.l0 k1 l2 (wrap64 (x8_1 + 1)) a0_0 l0_1 a1_0 l1_1))) else (none)) = some (r1,r2):=by first|(rw [At];with_reducible exact H)|(have H2_:=(Option.bind_some _ _).symm.trans H;rw [At];with_reducible exact H2_)|(have H2_:=(Option.bind_some _ _).symm.trans H;with_reducible exact H2_)|with_reducible exact H|(rw [At];exact H)|exact H
      have Aq:=A_ At;clear At;by_cases c19 : Ak.length + Ai.length < 17592186044416
      ·rw [if_pos c19] at H;have LMc19:=A_ c19;clear c19;obtain ⟨Ar,Au⟩ : ∃ y_ : List Int,y_ = (Ak ++ Ai):=⟨_,rfl⟩;replace H : ((Aak.f k1 a0_0 l0_1 a1_0 l1_1 Ar).bind fun Al=>(if Al.2 = true then (some (Al.1,true)) else (Aak.l0 k1 l2 (wrap64 (x8_1 + 1)) a0_0 l0_1 a1_0 l1_1))) = some (r1,r2):=by first|(rw [Au];with_reducible exact H)|(have H2_:=(Option.bind_some _ _).symm.trans H;rw [Au];with_reducible exact H2_)|(have H2_:=(Option.bind_some _ _).symm.trans H;with_reducible exact H2_)|with_reducible exact H|(rw [Au];exact H)|exact H
       have Ax:=A_ Au;clear Au;replace H:=Option.bind_eq_some_iff.mp H;obtain ⟨⟨Aw,Bb⟩,Bc,H⟩:=H;replace H : (if Bb = true then (some (Aw,true)) else (Aak.l0 k1 l2 (wrap64 (x8_1 + 1)) a0_0 l0_1 a1_0 l1_1)) = some (r1,r2):=H;have A20:=A_ Bc;clear Bc;by_cases c21 : Bb = true
       ·subst c21;have H1 : (some (Aw,true)) = some (r1,r2):=by rw [if_pos rfl] at H;exact H
        clear H;have H:=H1;clear H1;simp only [Option.some.injEq,Prod.mk.injEq] at H
        obtain ⟨rfl,rfl⟩:=H;have Z:=Am.1;have Z:=An.1;obtain ⟨Z,Z,Z,Z⟩:=o2_ Aa.1;obtain ⟨Z,Z,Z,Z⟩:=o2_ Ab.1;try go_wp2_with (first|((with_reducible refine gate_callee (f:=130) rfl ?_);refine goesL_ (some 27) rfl rfl Tryd.func130 (by kernel_rfl) rfl #[.agg #[.int .i64 a0_0,.slice A0_1 l0_1.length c0_1],.agg #[.int .i64 a1_0,.slice A1_1 l1_1.length c1_1],.slice Ao12 l2.length co12,.int .i64 x8_1] rfl au_ ?_;(with_reducible refine (Aao.calls k1 a0_0 _ _ l0_1 a1_0 _ _ l1_1 _ _ l2 x8_1 true _ ?side1 ?side2 ?side3 ?side4 ?side5 ?side6 A16.1).mono ?_);(case side1=>exact Kd.C_kept_now HR0_1.1 (by repeat (first|(with_reducible first|exact HK.1|apply Kept.alloc|apply Kept.drewN|apply Kept.drew|refine Kept.setCell ?_ (.inr Ac.1) _|refine Kept.setCell ?_ (.inr Ad.1) _)|exact HK.1)));(case side2=>exact HC0_1.1);(case side3=>exact Kd.C_kept_now HR1_1.1 (by repeat (first|(with_reducible first|exact HK.1|apply Kept.alloc|apply Kept.drewN|apply Kept.drew|refine Kept.setCell ?_ (.inr Ac.1) _|refine Kept.setCell ?_ (.inr Ad.1) _)|exact HK.1)));(case side4=>exact HC1_1.1);(case side5=>exact cl_ (Kd.R_reads' HO_2.1).2.2);(case side6=>exact (Kd.R_reads' HO_2.1).2.1);rintro e w25 ⟨rfl,hb⟩;refine ⟨_,rfl,?_⟩;replace HO_2:=rb_ HO_2 hb;replace Aa:=bz Aa hb;replace Ab:=bz Ab hb;replace HK:=A_ (Kept.below (S:=(fun k_=>P2_ k_)) (by repeat (first|(with_reducible first|exact HK.1|apply Kept.alloc|apply Kept.drewN|apply Kept.drew|refine Kept.setCell ?_ (.inr Ac.1) _|refine Kept.setCell ?_ (.inr Ad.1) _)|exact HK.1)) hb);replace HB:=A_ (below_step bb_ hb);(try clear hb);(try clear hb2);(try clear hk);(try clear hi)))
        replace HO_2:=A_ (Kd.R_drew HO_2.1);replace Aa:=A_ (blk_drew Aa.1);replace Ab:=A_ (blk_drew Ab.1);replace HK:=A_ (Kept.drew HK.1);replace HB:=A_ (below_drew1 HB.1);refine start_ (n:=13) (S:=fun w'=>w'.cell? ⟨Ag,0,none⟩ = some (.int .i64 a0_0) ∧ w'.cell? ⟨Ag,1,none⟩ = some (.slice A0_1 l0_1.length c0_1) ∧ w'.cell? ⟨Ah,0,none⟩ = some (.int .i64 a1_0) ∧ w'.cell? ⟨Ah,1,none⟩ = some (.slice A1_1 l1_1.length c1_1)) (ds:=[]) #[F,F,F,F,F,F,F,F,F,F,F,F,F] (by kernel_rfl) rfl rfl ⟨blk_cell Aa.1 0,blk_cell Aa.1 1,blk_cell Ab.1 0,blk_cell Ab.1 1⟩ (fun hHeld=>?_);refine with_tabW Aak.tab7 Aak.bits7 (fun HT_ HW_=>?_)
        generalize w25.drew = w26 at HO_2 Aa Ab HK HB hHeld ⊢
        refine pu_ (i:=2) (N:=32) #[F,F,T,F,F,F,F,F,F,F,F,F,F] HT_.1 rfl rfl (fun _ _ _ h=>h) rfl (h:=?_)
        refine pu_ (i:=4) (N:=34) #[F,F,T,F,T,F,F,F,F,F,F,F,F] HT_.1 rfl rfl (fun _ _ _ h=>h) rfl (h:=?_)
        refine take_ (i:=0) (N:=some 30) (v:=?_) (a':=?_) #[T,F,T,F,T,F,F,F,F,F,F,F,F] rfl rfl (take_ofW HT_.1 HW_.1 (by kernel_rfl)) (fun _ _ _ h=>h) (Or.inl ⟨by rfl,?_⟩) hHeld ?_ ?_
        rotate_left
        ·rintro w' ⟨s0,s1,s2,s3⟩
         go_simp
         with_reducible rfl
        rotate_left;·simp only [Act.put,L_,M_,N_,i64_w,i32_w];rfl
        refine take_ (i:=1) (N:=some 31) (v:=?_) (a':=?_) #[T,T,T,F,T,F,F,F,F,F,F,F,F] rfl rfl (take_ofW HT_.1 HW_.1 (by kernel_rfl)) (fun _ _ _ h=>h) (Or.inl ⟨by rfl,?_⟩) hHeld ?_ ?_
        rotate_left
        ·rintro w' ⟨s0,s1,s2,s3⟩
         go_simp
         with_reducible rfl
        rotate_left;·simp only [Act.put,L_,M_,N_,i64_w,i32_w];rfl
        refine join_ (σ:=Value × Value) 7 #[T,T,T,T,T,T,F,F,F,F,F,F,F] (fun s_=>[(33,s_.1),(35,s_.2)]) (fun s_ w'=>(w'.cell? ⟨Ag,0,none⟩ = some (.int .i64 a0_0) ∧ w'.cell? ⟨Ag,1,none⟩ = some (.slice A0_1 l0_1.length c0_1) ∧ w'.cell? ⟨Ah,0,none⟩ = some (.int .i64 a1_0) ∧ w'.cell? ⟨Ah,1,none⟩ = some (.slice A1_1 l1_1.length c1_1)) ∧ (Kd.R (Kd.int .i64) 3 w' w0.heap.size (fun k_=>(P2_ k_ ∨ w.heap.size ≤ k_) ∧ some k_ ≠ (s_.2 : Value).ownBlock ∧ some k_ ≠ (.slice Ao12 l2.length co12 : Value).ownBlock) s_.1 Ak) ∧ (Kd.R (Kd.int .i64) 3 w' w0.heap.size (fun k_=>(P2_ k_ ∨ w.heap.size ≤ k_) ∧ some k_ ≠ (s_.1 : Value).ownBlock ∧ some k_ ≠ (.slice Ao12 l2.length co12 : Value).ownBlock) s_.2 Ai) ∧ (Kd.R (Kd.int .i64) 3 w' w0.heap.size (fun k_=>(P2_ k_ ∨ w.heap.size ≤ k_) ∧ some k_ ≠ (s_.1 : Value).ownBlock ∧ some k_ ≠ (s_.2 : Value).ownBlock) (.slice Ao12 l2.length co12) l2) ∧ (w'.heap[Ag]? = some (.cells #[.int .i64 a0_0,.slice A0_1 l0_1.length c0_1] 26 (0,0))) ∧ (w'.heap[Ah]? = some (.cells #[.int .i64 a1_0,.slice A1_1 l1_1.length c1_1] 26 (0,0))) ∧ (Kept w w' (fun k_=>P2_ k_)) ∧ (Below w0.heap.size w0 w')) ?_ ?_
        rotate_left
        ·intro hCont
         refine two_ (i:=3) (j:=5) (Ni:=some 33) (Nj:=some 35) #[T,T,T,T,T,F,F,F,F,F,F,F,F] #[T,T,T,F,T,T,F,F,F,F,F,F,F] rfl rfl rfl rfl (two_of HT_.1 (by kernel_rfl)) (by decide) (by decide) (fun K hK=>?_) (fun K hK=>?_)
         ·skip
          refine goes_ Tryd.func64 (by kernel_rfl) rfl #[.slice Ao12 l2.length co12] (by rfl) rfl rfl au_ ?_
          with_reducible refine (Abd.calls _ _ l2 Ak _ ?side1 ?side2 A18.1).mono ?_
          (case side1=>exact cl_ (Kd.R_reads' HO_2.1).2.2)
          (case side2=>exact (Kd.R_reads' HO_2.1).2.1)
          rintro e w27 ⟨Ao,rfl,ho0,hb⟩
          refine ⟨_,rfl,?_⟩
          have Af:=A_ (Kd.R_lower (Kd.R_new' (Kd.R_newM (M:=fun k_=>(P2_ k_ ∨ w.heap.size ≤ k_)) ho0 (by first|exact HK.1.1|exact (show Kept w _ (fun k_=>P2_ k_) from by repeat (first|(with_reducible first|exact HK.1|apply Kept.alloc|apply Kept.drewN|apply Kept.drew|refine Kept.setCell ?_ (.inr Ac.1) _|refine Kept.setCell ?_ (.inr Ad.1) _)|exact HK.1)).1) (fun k_ h_=>.inr h_)) (Kd.R_lt (rl_ HO_2))) (below_size bb_));replace HO_2:=A_ (Kd.R_elder' (rl_ HO_2) (Kd.R_base ho0) hb);replace Aa:=bz Aa hb;replace Ab:=bz Ab hb;replace HK:=A_ (Kept.below (S:=(fun k_=>P2_ k_)) (by repeat (first|(with_reducible first|exact HK.1|apply Kept.alloc|apply Kept.drewN|apply Kept.drew|refine Kept.setCell ?_ (.inr Ac.1) _|refine Kept.setCell ?_ (.inr Ad.1) _)|exact HK.1)) hb);replace HB:=A_ (below_step bb_ hb);(try clear hb);(try clear hb2);(try clear hk);(try clear hi);(try clear ho0);refine hK.out _ _ ⟨blk_cell Aa.1 0,blk_cell Aa.1 1,blk_cell Ab.1 0,blk_cell Ab.1 1⟩ (fun hHeld=>?_)
          clear hK K;refine norm_ (a':=?_) ?_ ?_
          rotate_left
          ·show Act.put _ (some 33) _ = _
           simp only [Act.put,L_,M_,N_,i64_w,i32_w]
           rfl
          refine one_ (i:=5) (N:=some 35) #[T,T,T,T,T,T,F,F,F,F,F,F,F] rfl rfl (one_of HT_.1 (by kernel_rfl)) (by decide) (fun K hK=>?_)
          refine Kd.R_lit_step (Kd.int .i64) _ 3 ?hg (N:=35) ?hd (xs:=([x8_1] : List Int)) (inner:=[.int .i64 x8_1]) (ok:=fun _=>True) (okp:=fun _=>True) ?hr ?hp (fun _ hk=>hk) trivial (Below.refl _ _) (Nat.le_refl _) (by simp) ?_;(case hd=>rfl);(case hg=>rfl);(case hr=>go_simp;try rfl);(case hp=>exact (Reps.one (show Kd.M (Kd.int .i64) _ _ _ x8_1 [.int .i64 x8_1] from rfl) (Reps.none _ _)))
          intro Ap w28 ho29 hb hg_ hnew_
          clear hg_ hnew_;(first|rw [← Aq.1] at ho29|(simp only [Int.reduceToNat] at ho29;rw [← Aq.1] at ho29))
          have Ae:=A_ (Kd.R_lower (Kd.R_new' (Kd.R_new' (Kd.R_newM (M:=fun k_=>(P2_ k_ ∨ w.heap.size ≤ k_)) ho29 (by first|exact HK.1.1|exact (show Kept w _ (fun k_=>P2_ k_) from by repeat (first|(with_reducible first|exact HK.1|apply Kept.alloc|apply Kept.drewN|apply Kept.drew|refine Kept.setCell ?_ (.inr Ac.1) _|refine Kept.setCell ?_ (.inr Ad.1) _)|exact HK.1)).1) (fun k_ h_=>.inr h_)) (Kd.R_lt (rl_ HO_2))) (Kd.R_lt (rl_ Af))) (below_size bb_));replace HO_2:=A_ (Kd.R_elder' (rl_ HO_2) (Kd.R_base ho29) hb);replace Af:=A_ (Kd.R_elder' (rl_ Af) (Kd.R_base ho29) hb);replace Aa:=bz Aa hb;replace Ab:=bz Ab hb;replace HK:=A_ (Kept.below (S:=(fun k_=>P2_ k_)) (by repeat (first|(with_reducible first|exact HK.1|apply Kept.alloc|apply Kept.drewN|apply Kept.drew|refine Kept.setCell ?_ (.inr Ac.1) _|refine Kept.setCell ?_ (.inr Ad.1) _)|exact HK.1)) hb);replace HB:=A_ (below_step bb_ hb);clear hb ho29;refine hK.out _ _ ⟨blk_cell Aa.1 0,blk_cell Aa.1 1,blk_cell Ab.1 0,blk_cell Ab.1 1⟩ (fun hHeld=>?_)
          clear hK K;refine norm_ (a':=?_) ?_ ?_
          rotate_left
          ·show Act.put _ (some 35) _ = _
           simp only [Act.put,L_,M_,N_,i64_w,i32_w]
           rfl
          exact norm_ (by simp only [putAll,Act.put,L_,M_,N_]) (hCont (Ao,Ap) _ ⟨hHeld,(rq_ (Kd.R_mono Af.1 (fun _ hk=>⟨hk.1.1.1,⟨hk.2,hk.1.2⟩⟩))),(rq_ (Kd.R_mono Ae.1 (fun _ hk=>⟨hk.1.1.1,⟨hk.2,hk.1.2⟩⟩))),(rq_ (Kd.R_mono HO_2.1 (fun _ hk=>⟨hk.1.1,⟨hk.1.2,hk.2⟩⟩))),(bl_ Aa),(bl_ Ab),(by repeat (first|(with_reducible first|exact HK.1|apply Kept.alloc|apply Kept.drewN|apply Kept.drew|refine Kept.setCell ?_ (.inr Ac.1) _|refine Kept.setCell ?_ (.inr Ad.1) _)|exact HK.1)),bb_⟩)
         ·skip
          refine Kd.R_lit_step (Kd.int .i64) _ 3 ?hg (N:=35) ?hd (xs:=([x8_1] : List Int)) (inner:=[.int .i64 x8_1]) (ok:=fun _=>True) (okp:=fun _=>True) ?hr ?hp (fun _ hk=>hk) trivial (Below.refl _ _) (Nat.le_refl _) (by simp) ?_;(case hd=>rfl);(case hg=>rfl);(case hr=>go_simp;try rfl);(case hp=>exact (Reps.one (show Kd.M (Kd.int .i64) _ _ _ x8_1 [.int .i64 x8_1] from rfl) (Reps.none _ _)))
          intro Ap w27 ho28 hb hg_ hnew_
          clear hg_ hnew_;(first|rw [← Aq.1] at ho28|(simp only [Int.reduceToNat] at ho28;rw [← Aq.1] at ho28))
          have Ae:=A_ (Kd.R_lower (Kd.R_new' (Kd.R_newM (M:=fun k_=>(P2_ k_ ∨ w.heap.size ≤ k_)) ho28 (by first|exact HK.1.1|exact (show Kept w _ (fun k_=>P2_ k_) from by repeat (first|(with_reducible first|exact HK.1|apply Kept.alloc|apply Kept.drewN|apply Kept.drew|refine Kept.setCell ?_ (.inr Ac.1) _|refine Kept.setCell ?_ (.inr Ad.1) _)|exact HK.1)).1) (fun k_ h_=>.inr h_)) (Kd.R_lt (rl_ HO_2))) (below_size bb_));replace HO_2:=A_ (Kd.R_elder' (rl_ HO_2) (Kd.R_base ho28) hb);replace Aa:=bz Aa hb;replace Ab:=bz Ab hb;replace HK:=A_ (Kept.below (S:=(fun k_=>P2_ k_)) (by repeat (first|(with_reducible first|exact HK.1|apply Kept.alloc|apply Kept.drewN|apply Kept.drew|refine Kept.setCell ?_ (.inr Ac.1) _|refine Kept.setCell ?_ (.inr Ad.1) _)|exact HK.1)) hb);replace HB:=A_ (below_step bb_ hb);clear hb ho28;refine hK.out _ _ ⟨blk_cell Aa.1 0,blk_cell Aa.1 1,blk_cell Ab.1 0,blk_cell Ab.1 1⟩ (fun hHeld=>?_)
          clear hK K;refine norm_ (a':=?_) ?_ ?_
          rotate_left
          ·show Act.put _ (some 35) _ = _
           simp only [Act.put,L_,M_,N_,i64_w,i32_w]
           rfl
          refine one_ (i:=3) (N:=some 33) #[T,T,T,T,T,T,F,F,F,F,F,F,F] rfl rfl (one_of HT_.1 (by kernel_rfl)) (by decide) (fun K hK=>?_)
          refine goes_ Tryd.func64 (by kernel_rfl) rfl #[.slice Ao12 l2.length co12] (by rfl) rfl rfl au_ ?_
          with_reducible refine (Abd.calls _ _ l2 Ak _ ?side1 ?side2 A18.1).mono ?_
          (case side1=>exact cl_ (Kd.R_reads' HO_2.1).2.2)
          (case side2=>exact (Kd.R_reads' HO_2.1).2.1)
          rintro e w29 ⟨Ao,rfl,ho0,hb⟩
          refine ⟨_,rfl,?_⟩
          have Af:=A_ (Kd.R_lower (Kd.R_new' (Kd.R_new' (Kd.R_newM (M:=fun k_=>(P2_ k_ ∨ w.heap.size ≤ k_)) ho0 (by first|exact HK.1.1|exact (show Kept w _ (fun k_=>P2_ k_) from by repeat (first|(with_reducible first|exact HK.1|apply Kept.alloc|apply Kept.drewN|apply Kept.drew|refine Kept.setCell ?_ (.inr Ac.1) _|refine Kept.setCell ?_ (.inr Ad.1) _)|exact HK.1)).1) (fun k_ h_=>.inr h_)) (Kd.R_lt (rl_ HO_2))) (Kd.R_lt (rl_ Ae))) (below_size bb_));replace HO_2:=A_ (Kd.R_elder' (rl_ HO_2) (Kd.R_base ho0) hb);replace Ae:=A_ (Kd.R_elder' (rl_ Ae) (Kd.R_base ho0) hb);replace Aa:=bz Aa hb;replace Ab:=bz Ab hb;replace HK:=A_ (Kept.below (S:=(fun k_=>P2_ k_)) (by repeat (first|(with_reducible first|exact HK.1|apply Kept.alloc|apply Kept.drewN|apply Kept.drew|refine Kept.setCell ?_ (.inr Ac.1) _|refine Kept.setCell ?_ (.inr Ad.1) _)|exact HK.1)) hb);replace HB:=A_ (below_step bb_ hb);(try clear hb);(try clear hb2);(try clear hk);(try clear hi);(try clear ho0);refine hK.out _ _ ⟨blk_cell Aa.1 0,blk_cell Aa.1 1,blk_cell Ab.1 0,blk_cell Ab.1 1⟩ (fun hHeld=>?_)
          clear hK K;refine norm_ (a':=?_) ?_ ?_
          rotate_left
          ·show Act.put _ (some 33) _ = _
           simp only [Act.put,L_,M_,N_,i64_w,i32_w]
           rfl
          exact norm_ (by simp only [putAll,Act.put,L_,M_,N_]) (hCont (Ao,Ap) _ ⟨hHeld,(rq_ (Kd.R_mono Af.1 (fun _ hk=>⟨hk.1.1.1,⟨hk.2,hk.1.2⟩⟩))),(rq_ (Kd.R_mono Ae.1 (fun _ hk=>⟨hk.1.1.1,⟨hk.2,hk.1.2⟩⟩))),(rq_ (Kd.R_mono HO_2.1 (fun _ hk=>⟨hk.1.1,⟨hk.2,hk.1.2⟩⟩))),(bl_ Aa),(bl_ Ab),(by repeat (first|(with_reducible first|exact HK.1|apply Kept.alloc|apply Kept.drewN|apply Kept.drew|refine Kept.setCell ?_ (.inr Ac.1) _|refine Kept.setCell ?_ (.inr Ad.1) _)|exact HK.1)),bb_⟩)
        rintro ⟨Ao,Ap⟩ w30 ⟨hS_,h0_,h1_,h2_,h3_,h4_,h5_,h6_⟩
        have n0_ : Aside0 (Kd.R (Kd.int .i64) 3 w30 w0.heap.size (fun k_=>(P2_ k_ ∨ w.heap.size ≤ k_) ∧ some k_ ≠ (Ap : Value).ownBlock ∧ some k_ ≠ (.slice Ao12 l2.length co12 : Value).ownBlock) Ao Ak):=⟨h0_⟩;have n1_ : Aside0 (Kd.R (Kd.int .i64) 3 w30 w0.heap.size (fun k_=>(P2_ k_ ∨ w.heap.size ≤ k_) ∧ some k_ ≠ (Ao : Value).ownBlock ∧ some k_ ≠ (.slice Ao12 l2.length co12 : Value).ownBlock) Ap Ai):=⟨h1_⟩;have n2_ : Aside0 (Kd.R (Kd.int .i64) 3 w30 w0.heap.size (fun k_=>(P2_ k_ ∨ w.heap.size ≤ k_) ∧ some k_ ≠ (Ao : Value).ownBlock ∧ some k_ ≠ (Ap : Value).ownBlock) (.slice Ao12 l2.length co12) l2):=⟨h2_⟩;have n3_ : Aside0 (w30.heap[Ag]? = some (.cells #[.int .i64 a0_0,.slice A0_1 l0_1.length c0_1] 26 (0,0))):=⟨h3_⟩;have n4_ : Aside0 (w30.heap[Ah]? = some (.cells #[.int .i64 a1_0,.slice A1_1 l1_1.length c1_1] 26 (0,0))):=⟨h4_⟩;have n5_ : Aside0 (Kept w w30 (fun k_=>P2_ k_)):=⟨h5_⟩;have n6_ : Aside0 (Below w0.heap.size w0 w30):=⟨h6_⟩;clear HO_2;clear Aa;clear Ab;clear HK;clear HB;clear h0_ h1_ h2_ h3_ h4_ h5_ h6_;have Af:=n0_;have Ae:=n1_;have HO_2:=n2_;have Aa:=n3_;have Ab:=n4_;have HK:=n5_;have HB:=n6_;clear n0_ n1_ n2_ n3_ n4_ n5_ n6_;have hHeld : w30.cell? ⟨Ag,0,none⟩ = some (.int .i64 a0_0) ∧ w30.cell? ⟨Ag,1,none⟩ = some (.slice A0_1 l0_1.length c0_1) ∧ w30.cell? ⟨Ah,0,none⟩ = some (.int .i64 a1_0) ∧ w30.cell? ⟨Ah,1,none⟩ = some (.slice A1_1 l1_1.length c1_1):=hS_;obtain ⟨Ao32,co32,eo32⟩:=Kd.R_slice Ae.1;(first|subst eo32|(injection eo32 with f1_ f2_ f3_;have f4_:=f1_.symm;have f5_:=f3_.symm;clear f1_ f2_ f3_;subst f4_;subst f5_))
        refine norm_ (a':=?_) ?_ ?_
        rotate_left;·simp only [putAll,Act.put,L_,M_,N_];rfl
        refine one_ (i:=6) (N:=some 36) #[T,T,T,T,T,T,T,F,F,F,F,F,F] rfl rfl (one_of HT_.1 (by kernel_rfl)) (by decide) (fun K hK=>?_)
        refine Kd.R_append_rows_step (Kd.int .i64) (w0:=w0) w0.heap.size (by rfl) (.tmp 33) (.tmp 35) 24 3 (.int .i64 0) 8 rfl Tryd.underlying24 info3 rfl (by decide) (by omega) Ao Ak Ai _ _ _ (fun k_=>(P2_ k_ ∨ w.heap.size ≤ k_) ∧ some k_ ≠ (.slice Ao12 l2.length co12 : Value).ownBlock ∧ some k_ ≠ (.slice Ao32 Ai.length co32 : Value).ownBlock) (fun _=>False) rfl rfl ?aO ?aR (fun _ _ h=>h) (fun _ h=>h.elim) ?aF ?aB ?aS ?aL ?_
        (case aR=>exact cl_ (Kd.R_reads' Ae.1).2.2)
        (case aB=>exact bb_)
        (case aF=>exact (fun k_ hk=>⟨(.inr (Nat.le_trans (by first|exact HK.1.1|exact (show Kept w _ (fun k_=>P2_ k_) from by repeat (first|(with_reducible first|exact HK.1|apply Kept.alloc|apply Kept.drewN|apply Kept.drew|refine Kept.setCell ?_ (.inr Ac.1) _|refine Kept.setCell ?_ (.inr Ad.1) _)|exact HK.1)).1) hk)),Kd.fresh' (Kd.R_lt (rl_ HO_2)) k_ hk,Kd.fresh' (Kd.R_lt (rl_ Ae)) k_ hk⟩))
        (case aO=>exact (rq_ (Kd.R_mono Af.1 (fun _ hk=>⟨hk.1,⟨hk.2.2,hk.2.1⟩⟩))))
        (case aS=>exact (below_size bb_))
        (case aL=>have:=LMc19.1;omega)
        intro Bf w31 ho hb hg hat
        rw [← Ax.1] at ho;replace HO_2:=A_ (Kd.R_after (ok:=(fun k_=>(P2_ k_ ∨ w.heap.size ≤ k_) ∧ some k_ ≠ (.slice Ao32 Ai.length co32 : Value).ownBlock)) (rq_ (Kd.R_mono HO_2.1 (fun _ hk=>⟨⟨hk.1,hk.2.2⟩,hk.2.1⟩))) hg hat);replace Aa:=A_ (blk_grown (g:=Ag) (o:=.cells #[.int .i64 a0_0,.slice A0_1 l0_1.length c0_1] 26 (0,0)) (bl_ Aa) hg (Kd.R_ne Af.1 Aa.1 (by decide)));replace Ab:=A_ (blk_grown (g:=Ah) (o:=.cells #[.int .i64 a1_0,.slice A1_1 l1_1.length c1_1] 26 (0,0)) (bl_ Ab) hg (Kd.R_ne Af.1 Ab.1 (by decide)));replace Ae:=A_ (Kd.R_after (ok:=(fun k_=>(P2_ k_ ∨ w.heap.size ≤ k_) ∧ some k_ ≠ (.slice Ao12 l2.length co12 : Value).ownBlock)) (rq_ (Kd.R_mono Ae.1 (fun _ hk=>⟨⟨hk.1,hk.2.2⟩,hk.2.1⟩))) hg hat);replace HB:=A_ (hb);replace HK:=A_ (Kept.of_grown (S:=(fun k_=>P2_ k_)) hg (by repeat (first|(with_reducible first|exact HK.1|apply Kept.alloc|apply Kept.drewN|apply Kept.drew|refine Kept.setCell ?_ (.inr Ac.1) _|refine Kept.setCell ?_ (.inr Ad.1) _)|exact HK.1)) (fun k_ e_=>(Af.1.1 k_ e_).1));have Aj:=A_ (ho);clear Af;clear ho hb hg hat;obtain ⟨Ao33,co33,eo33⟩:=Kd.R_slice Aj.1;(first|subst eo33|(injection eo33 with f1_ f2_ f3_;have f4_:=f1_.symm;have f5_:=f3_.symm;clear f1_ f2_ f3_;subst f4_;subst f5_))
        refine hK.out _ _ ⟨blk_cell Aa.1 0,blk_cell Aa.1 1,blk_cell Ab.1 0,blk_cell Ab.1 1⟩ (fun hHeld=>?_)
        clear hK K;refine norm_ (a':=?_) ?_ ?_
        rotate_left
        ·show Act.put _ (some 36) _ = _
         simp only [Act.put,L_,M_,N_,i64_w,i32_w]
         rfl
        refine one_ (i:=7) (N:=some 37) #[T,T,T,T,T,T,T,T,F,F,F,F,F] rfl rfl (one_of HT_.1 (by kernel_rfl)) (by decide) (fun K hK=>?_)
        refine goes_ Tryd.func83 (by kernel_rfl) rfl #[.agg #[.int .i64 a0_0,.slice A0_1 l0_1.length c0_1],.agg #[.int .i64 a1_0,.slice A1_1 l1_1.length c1_1],.slice Ao33 Ar.length co33] (by rfl) rfl rfl au_ ?_
        with_reducible refine (ih k1 (by have:=HK1.1;omega) a0_0 _ _ l0_1 a1_0 _ _ l1_1 (fun k_=>some k_ = (.slice Ao33 Ar.length co33 : Value).ownBlock) (.slice Ao33 Ar.length co33) Ar Aw true w0 _ ?side1 ?side2 ?side3 ?side4 ?side5 ?side6 A20.1).mono ?_
        (case side1=>repeat (first|(with_reducible first|exact HB.1|apply below_alloc|apply pw_below_drewN|apply below_drew1|refine below_set ?_ (Aside0.out (by assumption)))|exact HB.1))
        (case side2=>exact Kd.C_kept_call HR0_1.1 (by repeat (first|(with_reducible first|exact HK.1|apply Kept.alloc|apply Kept.drewN|apply Kept.drew|refine Kept.setCell ?_ (.inr Ac.1) _|refine Kept.setCell ?_ (.inr Ad.1) _)|exact HK.1)) (fun k_ hs_=>(fun e_=>(Aj.1.1 k_ e_.symm).1) hs_))
        (case side3=>exact HC0_1.1)
        (case side4=>exact Kd.C_kept_call HR1_1.1 (by repeat (first|(with_reducible first|exact HK.1|apply Kept.alloc|apply Kept.drewN|apply Kept.drew|refine Kept.setCell ?_ (.inr Ac.1) _|refine Kept.setCell ?_ (.inr Ad.1) _)|exact HK.1)) (fun k_ hs_=>(fun e_=>(Aj.1.1 k_ e_.symm).1) hs_))
        (case side5=>exact HC1_1.1)
        (case side6=>exact Kd.R_tight rfl Aj.1)
        rintro e w34 ⟨Av,rfl,ho0,hb,hkp⟩
        refine ⟨_,rfl,?_⟩
        replace Aa:=A_ (blk_kept (bl_ Aa) hkp (fun hs_=>(fun e_=>(Kd.R_ne Aj.1 Aa.1 (by decide)) e_) hs_));replace Ab:=A_ (blk_kept (bl_ Ab) hkp (fun hs_=>(fun e_=>(Kd.R_ne Aj.1 Ab.1 (by decide)) e_) hs_));have Ay:=A_ (Kd.R_mono (ok':=fun k_=>(P2_ k_ ∨ w.heap.size ≤ k_) ∧ some k_ ≠ (.slice Ao12 l2.length co12 : Value).ownBlock ∧ some k_ ≠ (.slice Ao32 Ai.length co32 : Value).ownBlock) ho0 (fun k_ hk_=>⟨Or.elim hk_ (fun hs_=>(Aj.1.1 k_ (hs_).symm).1) (fun hn_=>(.inr (Nat.le_trans (by first|exact HK.1.1|exact (show Kept w _ (fun k_=>P2_ k_) from by repeat (first|(with_reducible first|exact HK.1|apply Kept.alloc|apply Kept.drewN|apply Kept.drew|refine Kept.setCell ?_ (.inr Ac.1) _|refine Kept.setCell ?_ (.inr Ad.1) _)|exact HK.1)).1) hn_))),Or.elim hk_ (fun hs_=>fun e_=>(((HO_2.1).1 k_ e_.symm).2) hs_) (fun hn_=>(Kd.fresh' (Kd.R_lt (rl_ HO_2)) k_ hn_)),Or.elim hk_ (fun hs_=>fun e_=>(((Ae.1).1 k_ e_.symm).2) hs_) (fun hn_=>(Kd.fresh' (Kd.R_lt (rl_ Ae)) k_ hn_))⟩));replace HO_2:=A_ (Kd.R_mono (ok':=fun k_=>(P2_ k_ ∨ w.heap.size ≤ k_) ∧ some k_ ≠ (.slice Ao32 Ai.length co32 : Value).ownBlock ∧ some k_ ≠ (Av : Value).ownBlock) (Kd.R_keptB (HO_2.1) hkp (fun k_ hk_ hs_=>(hk_.2) hs_)) (fun k_ hk_=>⟨hk_.1.1.1,hk_.1.1.2,fun e_=>Or.elim (ho0.1 k_ e_.symm) (fun hs_=>hk_.2.1 hs_) (fun hn_=>Nat.not_le.2 hk_.2.2 hn_)⟩));replace Ae:=A_ (Kd.R_mono (ok':=fun k_=>(P2_ k_ ∨ w.heap.size ≤ k_) ∧ some k_ ≠ (.slice Ao12 l2.length co12 : Value).ownBlock ∧ some k_ ≠ (Av : Value).ownBlock) (Kd.R_keptB (Ae.1) hkp (fun k_ hk_ hs_=>(hk_.2) hs_)) (fun k_ hk_=>⟨hk_.1.1.1,hk_.1.1.2,fun e_=>Or.elim (ho0.1 k_ e_.symm) (fun hs_=>hk_.2.1 hs_) (fun hn_=>Nat.not_le.2 hk_.2.2 hn_)⟩));replace HK:=A_ (Kept.then_ (S:=(fun k_=>P2_ k_)) (by repeat (first|(with_reducible first|exact HK.1|apply Kept.alloc|apply Kept.drewN|apply Kept.drew|refine Kept.setCell ?_ (.inr Ac.1) _|refine Kept.setCell ?_ (.inr Ad.1) _)|exact HK.1)) hkp (fun k_ hs_=>(fun e_=>(Aj.1.1 k_ e_.symm).1) hs_));replace HB:=A_ (hb);clear Aj;(try clear hb);(try clear hkp);(try clear ho0);refine hK.out _ _ ⟨blk_cell Aa.1 0,blk_cell Aa.1 1,blk_cell Ab.1 0,blk_cell Ab.1 1⟩ (fun hHeld=>?_)
        clear hK K;refine norm_ (a':=?_) ?_ ?_
        rotate_left
        ·show Act.put _ (some 37) _ = _
         simp only [Act.put,L_,M_,N_,i64_w,i32_w]
         rfl
        refine pu_ (i:=8) (N:=29) #[T,T,T,T,T,T,T,T,T,F,F,F,F] HT_.1 rfl rfl (fun _ _ _ h=>h) rfl (h:=?_)
        refine pu_ (i:=9) (N:=38) #[T,T,T,T,T,T,T,T,T,T,F,F,F] HT_.1 rfl rfl (fun _ _ _ h=>h) rfl (h:=?_)
        refine pu_ (i:=10) (N:=39) #[T,T,T,T,T,T,T,T,T,T,T,F,F] HT_.1 rfl rfl (fun _ _ _ h=>h) rfl (h:=?_)
        refine pu_ (i:=11) (N:=9) #[T,T,T,T,T,T,T,T,T,T,T,T,F] HT_.1 rfl rfl (fun _ _ _ h=>h) rfl (h:=?_)
        refine pu_ (i:=12) (N:=10) #[T,T,T,T,T,T,T,T,T,T,T,T,T] HT_.1 rfl rfl (fun _ _ _ h=>h) rfl (h:=?_)
        refine done_ (done_of HT_.1 (by kernel_rfl)) ?_
        try go_wp2
        go_ret2
        exact ⟨_,by first|rfl|(simp [errW_none,errW_some] <;> rfl)|(simp [*,errW_none,errW_some] <;> rfl),rq_ (Kd.R_mono Ay.1 (fun _ hk=>hk.1)),bb_,by repeat (first|(with_reducible first|exact HK.1|apply Kept.alloc|apply Kept.drewN|apply Kept.drew|refine Kept.setCell ?_ (.inr Ac.1) _|refine Kept.setCell ?_ (.inr Ad.1) _)|exact HK.1)⟩
       ·replace c21:=Bool.eq_false_iff.mpr c21;subst c21;have H1 : (Aak.l0 k1 l2 (wrap64 (x8_1 + 1)) a0_0 l0_1 a1_0 l1_1) = some (r1,r2):=by rw [if_neg (show ¬ (false = true) by decide)] at H;exact H
        clear H;have H:=H1;clear H1;have H':=A_ H;clear H;have Z:=Am.1;have Z:=An.1;obtain ⟨Z,Z,Z,Z⟩:=o2_ Aa.1;obtain ⟨Z,Z,Z,Z⟩:=o2_ Ab.1;try go_wp2_with (first|((with_reducible refine gate_callee (f:=130) rfl ?_);refine goesL_ (some 27) rfl rfl Tryd.func130 (by kernel_rfl) rfl #[.agg #[.int .i64 a0_0,.slice A0_1 l0_1.length c0_1],.agg #[.int .i64 a1_0,.slice A1_1 l1_1.length c1_1],.slice Ao12 l2.length co12,.int .i64 x8_1] rfl au_ ?_;(with_reducible refine (Aao.calls k1 a0_0 _ _ l0_1 a1_0 _ _ l1_1 _ _ l2 x8_1 true _ ?side1 ?side2 ?side3 ?side4 ?side5 ?side6 A16.1).mono ?_);(case side1=>exact Kd.C_kept_now HR0_1.1 (by repeat (first|(with_reducible first|exact HK.1|apply Kept.alloc|apply Kept.drewN|apply Kept.drew|refine Kept.setCell ?_ (.inr Ac.1) _|refine Kept.setCell ?_ (.inr Ad.1) _)|exact HK.1)));(case side2=>exact HC0_1.1);(case side3=>exact Kd.C_kept_now HR1_1.1 (by repeat (first|(with_reducible first|exact HK.1|apply Kept.alloc|apply Kept.drewN|apply Kept.drew|refine Kept.setCell ?_ (.inr Ac.1) _|refine Kept.setCell ?_ (.inr Ad.1) _)|exact HK.1)));(case side4=>exact HC1_1.1);(case side5=>exact cl_ (Kd.R_reads' HO_2.1).2.2);(case side6=>exact (Kd.R_reads' HO_2.1).2.1);rintro e w38 ⟨rfl,hb⟩;refine ⟨_,rfl,?_⟩;replace HO_2:=rb_ HO_2 hb;replace Aa:=bz Aa hb;replace Ab:=bz Ab hb;replace HK:=A_ (Kept.below (S:=(fun k_=>P2_ k_)) (by repeat (first|(with_reducible first|exact HK.1|apply Kept.alloc|apply Kept.drewN|apply Kept.drew|refine Kept.setCell ?_ (.inr Ac.1) _|refine Kept.setCell ?_ (.inr Ad.1) _)|exact HK.1)) hb);replace HB:=A_ (below_step bb_ hb);(try clear hb);(try clear hb2);(try clear hk);(try clear hi)))
        replace HO_2:=A_ (Kd.R_drew HO_2.1);replace Aa:=A_ (blk_drew Aa.1);replace Ab:=A_ (blk_drew Ab.1);replace HK:=A_ (Kept.drew HK.1);replace HB:=A_ (below_drew1 HB.1);refine start_ (n:=13) (S:=fun w'=>w'.cell? ⟨Ag,0,none⟩ = some (.int .i64 a0_0) ∧ w'.cell? ⟨Ag,1,none⟩ = some (.slice A0_1 l0_1.length c0_1) ∧ w'.cell? ⟨Ah,0,none⟩ = some (.int .i64 a1_0) ∧ w'.cell? ⟨Ah,1,none⟩ = some (.slice A1_1 l1_1.length c1_1)) (ds:=[]) #[F,F,F,F,F,F,F,F,F,F,F,F,F] (by kernel_rfl) rfl rfl ⟨blk_cell Aa.1 0,blk_cell Aa.1 1,blk_cell Ab.1 0,blk_cell Ab.1 1⟩ (fun hHeld=>?_);refine with_tabW Aak.tab7 Aak.bits7 (fun HT_ HW_=>?_)
        generalize w38.drew = w39 at HO_2 Aa Ab HK HB hHeld ⊢
        refine pu_ (i:=2) (N:=32) #[F,F,T,F,F,F,F,F,F,F,F,F,F] HT_.1 rfl rfl (fun _ _ _ h=>h) rfl (h:=?_)
        refine pu_ (i:=4) (N:=34) #[F,F,T,F,T,F,F,F,F,F,F,F,F] HT_.1 rfl rfl (fun _ _ _ h=>h) rfl (h:=?_)
        refine take_ (i:=0) (N:=some 30) (v:=?_) (a':=?_) #[T,F,T,F,T,F,F,F,F,F,F,F,F] rfl rfl (take_ofW HT_.1 HW_.1 (by kernel_rfl)) (fun _ _ _ h=>h) (Or.inl ⟨by rfl,?_⟩) hHeld ?_ ?_
        rotate_left
        ·rintro w' ⟨s0,s1,s2,s3⟩
         go_simp
         with_reducible rfl
        rotate_left;·simp only [Act.put,L_,M_,N_,i64_w,i32_w];rfl
        refine take_ (i:=1) (N:=some 31) (v:=?_) (a':=?_) #[T,T,T,F,T,F,F,F,F,F,F,F,F] rfl rfl (take_ofW HT_.1 HW_.1 (by kernel_rfl)) (fun _ _ _ h=>h) (Or.inl ⟨by rfl,?_⟩) hHeld ?_ ?_
        rotate_left
        ·rintro w' ⟨s0,s1,s2,s3⟩
         go_simp
         with_reducible rfl
        rotate_left;·simp only [Act.put,L_,M_,N_,i64_w,i32_w];rfl
        refine join_ (σ:=Value × Value) 7 #[T,T,T,T,T,T,F,F,F,F,F,F,F] (fun s_=>[(33,s_.1),(35,s_.2)]) (fun s_ w'=>(w'.cell? ⟨Ag,0,none⟩ = some (.int .i64 a0_0) ∧ w'.cell? ⟨Ag,1,none⟩ = some (.slice A0_1 l0_1.length c0_1) ∧ w'.cell? ⟨Ah,0,none⟩ = some (.int .i64 a1_0) ∧ w'.cell? ⟨Ah,1,none⟩ = some (.slice A1_1 l1_1.length c1_1)) ∧ (Kd.R (Kd.int .i64) 3 w' w0.heap.size (fun k_=>(P2_ k_ ∨ w.heap.size ≤ k_) ∧ some k_ ≠ (s_.2 : Value).ownBlock ∧ some k_ ≠ (.slice Ao12 l2.length co12 : Value).ownBlock) s_.1 Ak) ∧ (Kd.R (Kd.int .i64) 3 w' w0.heap.size (fun k_=>(P2_ k_ ∨ w.heap.size ≤ k_) ∧ some k_ ≠ (s_.1 : Value).ownBlock ∧ some k_ ≠ (.slice Ao12 l2.length co12 : Value).ownBlock) s_.2 Ai) ∧ (Kd.R (Kd.int .i64) 3 w' w0.heap.size (fun k_=>(P2_ k_ ∨ w.heap.size ≤ k_) ∧ some k_ ≠ (s_.1 : Value).ownBlock ∧ some k_ ≠ (s_.2 : Value).ownBlock) (.slice Ao12 l2.length co12) l2) ∧ (w'.heap[Ag]? = some (.cells #[.int .i64 a0_0,.slice A0_1 l0_1.length c0_1] 26 (0,0))) ∧ (w'.heap[Ah]? = some (.cells #[.int .i64 a1_0,.slice A1_1 l1_1.length c1_1] 26 (0,0))) ∧ (Kept w w' (fun k_=>P2_ k_)) ∧ (Below w0.heap.size w0 w')) ?_ ?_
        rotate_left
        ·intro hCont
         refine two_ (i:=3) (j:=5) (Ni:=some 33) (Nj:=some 35) #[T,T,T,T,T,F,F,F,F,F,F,F,F] #[T,T,T,F,T,T,F,F,F,F,F,F,F] rfl rfl rfl rfl (two_of HT_.1 (by kernel_rfl)) (by decide) (by decide) (fun K hK=>?_) (fun K hK=>?_)
         ·skip
          refine goes_ Tryd.func64 (by kernel_rfl) rfl #[.slice Ao12 l2.length co12] (by rfl) rfl rfl au_ ?_
          with_reducible refine (Abd.calls _ _ l2 Ak _ ?side1 ?side2 A18.1).mono ?_
          (case side1=>exact cl_ (Kd.R_reads' HO_2.1).2.2)
          (case side2=>exact (Kd.R_reads' HO_2.1).2.1)
          rintro e w40 ⟨Ao,rfl,ho0,hb⟩
          refine ⟨_,rfl,?_⟩
          have Af:=A_ (Kd.R_lower (Kd.R_new' (Kd.R_newM (M:=fun k_=>(P2_ k_ ∨ w.heap.size ≤ k_)) ho0 (by first|exact HK.1.1|exact (show Kept w _ (fun k_=>P2_ k_) from by repeat (first|(with_reducible first|exact HK.1|apply Kept.alloc|apply Kept.drewN|apply Kept.drew|refine Kept.setCell ?_ (.inr Ac.1) _|refine Kept.setCell ?_ (.inr Ad.1) _)|exact HK.1)).1) (fun k_ h_=>.inr h_)) (Kd.R_lt (rl_ HO_2))) (below_size bb_));replace HO_2:=A_ (Kd.R_elder' (rl_ HO_2) (Kd.R_base ho0) hb);replace Aa:=bz Aa hb;replace Ab:=bz Ab hb;replace HK:=A_ (Kept.below (S:=(fun k_=>P2_ k_)) (by repeat (first|(with_reducible first|exact HK.1|apply Kept.alloc|apply Kept.drewN|apply Kept.drew|refine Kept.setCell ?_ (.inr Ac.1) _|refine Kept.setCell ?_ (.inr Ad.1) _)|exact HK.1)) hb);replace HB:=A_ (below_step bb_ hb);(try clear hb);(try clear hb2);(try clear hk);(try clear hi);(try clear ho0);refine hK.out _ _ ⟨blk_cell Aa.1 0,blk_cell Aa.1 1,blk_cell Ab.1 0,blk_cell Ab.1 1⟩ (fun hHeld=>?_)
          clear hK K;refine norm_ (a':=?_) ?_ ?_
          rotate_left
          ·show Act.put _ (some 33) _ = _
           simp only [Act.put,L_,M_,N_,i64_w,i32_w]
           rfl
          refine one_ (i:=5) (N:=some 35) #[T,T,T,T,T,T,F,F,F,F,F,F,F] rfl rfl (one_of HT_.1 (by kernel_rfl)) (by decide) (fun K hK=>?_)
          refine Kd.R_lit_step (Kd.int .i64) _ 3 ?hg (N:=35) ?hd (xs:=([x8_1] : List Int)) (inner:=[.int .i64 x8_1]) (ok:=fun _=>True) (okp:=fun _=>True) ?hr ?hp (fun _ hk=>hk) trivial (Below.refl _ _) (Nat.le_refl _) (by simp) ?_;(case hd=>rfl);(case hg=>rfl);(case hr=>go_simp;try rfl);(case hp=>exact (Reps.one (show Kd.M (Kd.int .i64) _ _ _ x8_1 [.int .i64 x8_1] from rfl) (Reps.none _ _)))
          intro Ap w41 ho42 hb hg_ hnew_
          clear hg_ hnew_;(first|rw [← Aq.1] at ho42|(simp only [Int.reduceToNat] at ho42;rw [← Aq.1] at ho42))
          have Ae:=A_ (Kd.R_lower (Kd.R_new' (Kd.R_new' (Kd.R_newM (M:=fun k_=>(P2_ k_ ∨ w.heap.size ≤ k_)) ho42 (by first|exact HK.1.1|exact (show Kept w _ (fun k_=>P2_ k_) from by repeat (first|(with_reducible first|exact HK.1|apply Kept.alloc|apply Kept.drewN|apply Kept.drew|refine Kept.setCell ?_ (.inr Ac.1) _|refine Kept.setCell ?_ (.inr Ad.1) _)|exact HK.1)).1) (fun k_ h_=>.inr h_)) (Kd.R_lt (rl_ HO_2))) (Kd.R_lt (rl_ Af))) (below_size bb_));replace HO_2:=A_ (Kd.R_elder' (rl_ HO_2) (Kd.R_base ho42) hb);replace Af:=A_ (Kd.R_elder' (rl_ Af) (Kd.R_base ho42) hb);replace Aa:=bz Aa hb;replace Ab:=bz Ab hb;replace HK:=A_ (Kept.below (S:=(fun k_=>P2_ k_)) (by repeat (first|(with_reducible first|exact HK.1|apply Kept.alloc|apply Kept.drewN|apply Kept.drew|refine Kept.setCell ?_ (.inr Ac.1) _|refine Kept.setCell ?_ (.inr Ad.1) _)|exact HK.1)) hb);replace HB:=A_ (below_step bb_ hb);clear hb ho42;refine hK.out _ _ ⟨blk_cell Aa.1 0,blk_cell Aa.1 1,blk_cell Ab.1 0,blk_cell Ab.1 1⟩ (fun hHeld=>?_)
          clear hK K;refine norm_ (a':=?_) ?_ ?_
          rotate_left
          ·show Act.put _ (some 35) _ = _
           simp only [Act.put,L_,M_,N_,i64_w,i32_w]
           rfl
          exact norm_ (by simp only [putAll,Act.put,L_,M_,N_]) (hCont (Ao,Ap) _ ⟨hHeld,(rq_ (Kd.R_mono Af.1 (fun _ hk=>⟨hk.1.1.1,⟨hk.2,hk.1.2⟩⟩))),(rq_ (Kd.R_mono Ae.1 (fun _ hk=>⟨hk.1.1.1,⟨hk.2,hk.1.2⟩⟩))),(rq_ (Kd.R_mono HO_2.1 (fun _ hk=>⟨hk.1.1,⟨hk.1.2,hk.2⟩⟩))),(bl_ Aa),(bl_ Ab),(by repeat (first|(with_reducible first|exact HK.1|apply Kept.alloc|apply Kept.drewN|apply Kept.drew|refine Kept.setCell ?_ (.inr Ac.1) _|refine Kept.setCell ?_ (.inr Ad.1) _)|exact HK.1)),bb_⟩)
         ·skip
          refine Kd.R_lit_step (Kd.int .i64) _ 3 ?hg (N:=35) ?hd (xs:=([x8_1] : List Int)) (inner:=[.int .i64 x8_1]) (ok:=fun _=>True) (okp:=fun _=>True) ?hr ?hp (fun _ hk=>hk) trivial (Below.refl _ _) (Nat.le_refl _) (by simp) ?_;(case hd=>rfl);(case hg=>rfl);(case hr=>go_simp;try rfl);(case hp=>exact (Reps.one (show Kd.M (Kd.int .i64) _ _ _ x8_1 [.int .i64 x8_1] from rfl) (Reps.none _ _)))
          intro Ap w40 ho41 hb hg_ hnew_
          clear hg_ hnew_;(first|rw [← Aq.1] at ho41|(simp only [Int.reduceToNat] at ho41;rw [← Aq.1] at ho41))
          have Ae:=A_ (Kd.R_lower (Kd.R_new' (Kd.R_newM (M:=fun k_=>(P2_ k_ ∨ w.heap.size ≤ k_)) ho41 (by first|exact HK.1.1|exact (show Kept w _ (fun k_=>P2_ k_) from by repeat (first|(with_reducible first|exact HK.1|apply Kept.alloc|apply Kept.drewN|apply Kept.drew|refine Kept.setCell ?_ (.inr Ac.1) _|refine Kept.setCell ?_ (.inr Ad.1) _)|exact HK.1)).1) (fun k_ h_=>.inr h_)) (Kd.R_lt (rl_ HO_2))) (below_size bb_));replace HO_2:=A_ (Kd.R_elder' (rl_ HO_2) (Kd.R_base ho41) hb);replace Aa:=bz Aa hb;replace Ab:=bz Ab hb;replace HK:=A_ (Kept.below (S:=(fun k_=>P2_ k_)) (by repeat (first|(with_reducible first|exact HK.1|apply Kept.alloc|apply Kept.drewN|apply Kept.drew|refine Kept.setCell ?_ (.inr Ac.1) _|refine Kept.setCell ?_ (.inr Ad.1) _)|exact HK.1)) hb);replace HB:=A_ (below_step bb_ hb);clear hb ho41;refine hK.out _ _ ⟨blk_cell Aa.1 0,blk_cell Aa.1 1,blk_cell Ab.1 0,blk_cell Ab.1 1⟩ (fun hHeld=>?_)
          clear hK K;refine norm_ (a':=?_) ?_ ?_
          rotate_left
          ·show Act.put _ (some 35) _ = _
           simp only [Act.put,L_,M_,N_,i64_w,i32_w]
           rfl
          refine one_ (i:=3) (N:=some 33) #[T,T,T,T,T,T,F,F,F,F,F,F,F] rfl rfl (one_of HT_.1 (by kernel_rfl)) (by decide) (fun K hK=>?_)
          refine goes_ Tryd.func64 (by kernel_rfl) rfl #[.slice Ao12 l2.length co12] (by rfl) rfl rfl au_ ?_
          with_reducible refine (Abd.calls _ _ l2 Ak _ ?side1 ?side2 A18.1).mono ?_
          (case side1=>exact cl_ (Kd.R_reads' HO_2.1).2.2)
          (case side2=>exact (Kd.R_reads' HO_2.1).2.1)
          rintro e w42 ⟨Ao,rfl,ho0,hb⟩
          refine ⟨_,rfl,?_⟩
          have Af:=A_ (Kd.R_lower (Kd.R_new' (Kd.R_new' (Kd.R_newM (M:=fun k_=>(P2_ k_ ∨ w.heap.size ≤ k_)) ho0 (by first|exact HK.1.1|exact (show Kept w _ (fun k_=>P2_ k_) from by repeat (first|(with_reducible first|exact HK.1|apply Kept.alloc|apply Kept.drewN|apply Kept.drew|refine Kept.setCell ?_ (.inr Ac.1) _|refine Kept.setCell ?_ (.inr Ad.1) _)|exact HK.1)).1) (fun k_ h_=>.inr h_)) (Kd.R_lt (rl_ HO_2))) (Kd.R_lt (rl_ Ae))) (below_size bb_));replace HO_2:=A_ (Kd.R_elder' (rl_ HO_2) (Kd.R_base ho0) hb);replace Ae:=A_ (Kd.R_elder' (rl_ Ae) (Kd.R_base ho0) hb);replace Aa:=bz Aa hb;replace Ab:=bz Ab hb;replace HK:=A_ (Kept.below (S:=(fun k_=>P2_ k_)) (by repeat (first|(with_reducible first|exact HK.1|apply Kept.alloc|apply Kept.drewN|apply Kept.drew|refine Kept.setCell ?_ (.inr Ac.1) _|refine Kept.setCell ?_ (.inr Ad.1) _)|exact HK.1)) hb);replace HB:=A_ (below_step bb_ hb);(try clear hb);(try clear hb2);(try clear hk);(try clear hi);(try clear ho0);refine hK.out _ _ ⟨blk_cell Aa.1 0,blk_cell Aa.1 1,blk_cell Ab.1 0,blk_cell Ab.1 1⟩ (fun hHeld=>?_)
          clear hK K;refine norm_ (a':=?_) ?_ ?_
          rotate_left
          ·show Act.put _ (some 33) _ = _
           simp only [Act.put,L_,M_,N_,i64_w,i32_w]
           rfl
          exact norm_ (by simp only [putAll,Act.put,L_,M_,N_]) (hCont (Ao,Ap) _ ⟨hHeld,(rq_ (Kd.R_mono Af.1 (fun _ hk=>⟨hk.1.1.1,⟨hk.2,hk.1.2⟩⟩))),(rq_ (Kd.R_mono Ae.1 (fun _ hk=>⟨hk.1.1.1,⟨hk.2,hk.1.2⟩⟩))),(rq_ (Kd.R_mono HO_2.1 (fun _ hk=>⟨hk.1.1,⟨hk.2,hk.1.2⟩⟩))),(bl_ Aa),(bl_ Ab),(by repeat (first|(with_reducible first|exact HK.1|apply Kept.alloc|apply Kept.drewN|apply Kept.drew|refine Kept.setCell ?_ (.inr Ac.1) _|refine Kept.setCell ?_ (.inr Ad.1) _)|exact HK.1)),bb_⟩)
        rintro ⟨Ao,Ap⟩ w43 ⟨hS_,h0_,h1_,h2_,h3_,h4_,h5_,h6_⟩
        have n0_ : Aside0 (Kd.R (Kd.int .i64) 3 w43 w0.heap.size (fun k_=>(P2_ k_ ∨ w.heap.size ≤ k_) ∧ some k_ ≠ (Ap : Value).ownBlock ∧ some k_ ≠ (.slice Ao12 l2.length co12 : Value).ownBlock) Ao Ak):=⟨h0_⟩;have n1_ : Aside0 (Kd.R (Kd.int .i64) 3 w43 w0.heap.size (fun k_=>(P2_ k_ ∨ w.heap.size ≤ k_) ∧ some k_ ≠ (Ao : Value).ownBlock ∧ some k_ ≠ (.slice Ao12 l2.length co12 : Value).ownBlock) Ap Ai):=⟨h1_⟩;have n2_ : Aside0 (Kd.R (Kd.int .i64) 3 w43 w0.heap.size (fun k_=>(P2_ k_ ∨ w.heap.size ≤ k_) ∧ some k_ ≠ (Ao : Value).ownBlock ∧ some k_ ≠ (Ap : Value).ownBlock) (.slice Ao12 l2.length co12) l2):=⟨h2_⟩;have n3_ : Aside0 (w43.heap[Ag]? = some (.cells #[.int .i64 a0_0,.slice A0_1 l0_1.length c0_1] 26 (0,0))):=⟨h3_⟩;have n4_ : Aside0 (w43.heap[Ah]? = some (.cells #[.int .i64 a1_0,.slice A1_1 l1_1.length c1_1] 26 (0,0))):=⟨h4_⟩;have n5_ : Aside0 (Kept w w43 (fun k_=>P2_ k_)):=⟨h5_⟩;have n6_ : Aside0 (Below w0.heap.size w0 w43):=⟨h6_⟩;clear HO_2;clear Aa;clear Ab;clear HK;clear HB;clear h0_ h1_ h2_ h3_ h4_ h5_ h6_;have Af:=n0_;have Ae:=n1_;have HO_2:=n2_;have Aa:=n3_;have Ab:=n4_;have HK:=n5_;have HB:=n6_;clear n0_ n1_ n2_ n3_ n4_ n5_ n6_;have hHeld : w43.cell? ⟨Ag,0,none⟩ = some (.int .i64 a0_0) ∧ w43.cell? ⟨Ag,1,none⟩ = some (.slice A0_1 l0_1.length c0_1) ∧ w43.cell? ⟨Ah,0,none⟩ = some (.int .i64 a1_0) ∧ w43.cell? ⟨Ah,1,none⟩ = some (.slice A1_1 l1_1.length c1_1):=hS_;obtain ⟨Ao45,co45,eo45⟩:=Kd.R_slice Ae.1;(first|subst eo45|(injection eo45 with f1_ f2_ f3_;have f4_:=f1_.symm;have f5_:=f3_.symm;clear f1_ f2_ f3_;subst f4_;subst f5_))
        refine norm_ (a':=?_) ?_ ?_
        rotate_left;·simp only [putAll,Act.put,L_,M_,N_];rfl
        refine one_ (i:=6) (N:=some 36) #[T,T,T,T,T,T,T,F,F,F,F,F,F] rfl rfl (one_of HT_.1 (by kernel_rfl)) (by decide) (fun K hK=>?_)
        refine Kd.R_append_rows_step (Kd.int .i64) (w0:=w0) w0.heap.size (by rfl) (.tmp 33) (.tmp 35) 24 3 (.int .i64 0) 8 rfl Tryd.underlying24 info3 rfl (by decide) (by omega) Ao Ak Ai _ _ _ (fun k_=>(P2_ k_ ∨ w.heap.size ≤ k_) ∧ some k_ ≠ (.slice Ao12 l2.length co12 : Value).ownBlock ∧ some k_ ≠ (.slice Ao45 Ai.length co45 : Value).ownBlock) (fun _=>False) rfl rfl ?aO ?aR (fun _ _ h=>h) (fun _ h=>h.elim) ?aF ?aB ?aS ?aL ?_
        (case aR=>exact cl_ (Kd.R_reads' Ae.1).2.2)
        (case aB=>exact bb_)
        (case aF=>exact (fun k_ hk=>⟨(.inr (Nat.le_trans (by first|exact HK.1.1|exact (show Kept w _ (fun k_=>P2_ k_) from by repeat (first|(with_reducible first|exact HK.1|apply Kept.alloc|apply Kept.drewN|apply Kept.drew|refine Kept.setCell ?_ (.inr Ac.1) _|refine Kept.setCell ?_ (.inr Ad.1) _)|exact HK.1)).1) hk)),Kd.fresh' (Kd.R_lt (rl_ HO_2)) k_ hk,Kd.fresh' (Kd.R_lt (rl_ Ae)) k_ hk⟩))
        (case aO=>exact (rq_ (Kd.R_mono Af.1 (fun _ hk=>⟨hk.1,⟨hk.2.2,hk.2.1⟩⟩))))
        (case aS=>exact (below_size bb_))
        (case aL=>have:=LMc19.1;omega)
        intro Bf w44 ho hb hg hat
        rw [← Ax.1] at ho;replace HO_2:=A_ (Kd.R_after (ok:=(fun k_=>(P2_ k_ ∨ w.heap.size ≤ k_) ∧ some k_ ≠ (.slice Ao45 Ai.length co45 : Value).ownBlock)) (rq_ (Kd.R_mono HO_2.1 (fun _ hk=>⟨⟨hk.1,hk.2.2⟩,hk.2.1⟩))) hg hat);replace Aa:=A_ (blk_grown (g:=Ag) (o:=.cells #[.int .i64 a0_0,.slice A0_1 l0_1.length c0_1] 26 (0,0)) (bl_ Aa) hg (Kd.R_ne Af.1 Aa.1 (by decide)));replace Ab:=A_ (blk_grown (g:=Ah) (o:=.cells #[.int .i64 a1_0,.slice A1_1 l1_1.length c1_1] 26 (0,0)) (bl_ Ab) hg (Kd.R_ne Af.1 Ab.1 (by decide)));replace Ae:=A_ (Kd.R_after (ok:=(fun k_=>(P2_ k_ ∨ w.heap.size ≤ k_) ∧ some k_ ≠ (.slice Ao12 l2.length co12 : Value).ownBlock)) (rq_ (Kd.R_mono Ae.1 (fun _ hk=>⟨⟨hk.1,hk.2.2⟩,hk.2.1⟩))) hg hat);replace HB:=A_ (hb);replace HK:=A_ (Kept.of_grown (S:=(fun k_=>P2_ k_)) hg (by repeat (first|(with_reducible first|exact HK.1|apply Kept.alloc|apply Kept.drewN|apply Kept.drew|refine Kept.setCell ?_ (.inr Ac.1) _|refine Kept.setCell ?_ (.inr Ad.1) _)|exact HK.1)) (fun k_ e_=>(Af.1.1 k_ e_).1));have Aj:=A_ (ho);clear Af;clear ho hb hg hat;obtain ⟨Ao46,co46,eo46⟩:=Kd.R_slice Aj.1;(first|subst eo46|(injection eo46 with f1_ f2_ f3_;have f4_:=f1_.symm;have f5_:=f3_.symm;clear f1_ f2_ f3_;subst f4_;subst f5_))
        refine hK.out _ _ ⟨blk_cell Aa.1 0,blk_cell Aa.1 1,blk_cell Ab.1 0,blk_cell Ab.1 1⟩ (fun hHeld=>?_)
        clear hK K;refine norm_ (a':=?_) ?_ ?_
        rotate_left
        ·show Act.put _ (some 36) _ = _
         simp only [Act.put,L_,M_,N_,i64_w,i32_w]
         rfl
        refine one_ (i:=7) (N:=some 37) #[T,T,T,T,T,T,T,T,F,F,F,F,F] rfl rfl (one_of HT_.1 (by kernel_rfl)) (by decide) (fun K hK=>?_)
        refine goes_ Tryd.func83 (by kernel_rfl) rfl #[.agg #[.int .i64 a0_0,.slice A0_1 l0_1.length c0_1],.agg #[.int .i64 a1_0,.slice A1_1 l1_1.length c1_1],.slice Ao46 Ar.length co46] (by rfl) rfl rfl au_ ?_
        with_reducible refine (ih k1 (by have:=HK1.1;omega) a0_0 _ _ l0_1 a1_0 _ _ l1_1 (fun k_=>some k_ = (.slice Ao46 Ar.length co46 : Value).ownBlock) (.slice Ao46 Ar.length co46) Ar Aw false w0 _ ?side1 ?side2 ?side3 ?side4 ?side5 ?side6 A20.1).mono ?_
        (case side1=>repeat (first|(with_reducible first|exact HB.1|apply below_alloc|apply pw_below_drewN|apply below_drew1|refine below_set ?_ (Aside0.out (by assumption)))|exact HB.1))
        (case side2=>exact Kd.C_kept_call HR0_1.1 (by repeat (first|(with_reducible first|exact HK.1|apply Kept.alloc|apply Kept.drewN|apply Kept.drew|refine Kept.setCell ?_ (.inr Ac.1) _|refine Kept.setCell ?_ (.inr Ad.1) _)|exact HK.1)) (fun k_ hs_=>(fun e_=>(Aj.1.1 k_ e_.symm).1) hs_))
        (case side3=>exact HC0_1.1)
        (case side4=>exact Kd.C_kept_call HR1_1.1 (by repeat (first|(with_reducible first|exact HK.1|apply Kept.alloc|apply Kept.drewN|apply Kept.drew|refine Kept.setCell ?_ (.inr Ac.1) _|refine Kept.setCell ?_ (.inr Ad.1) _)|exact HK.1)) (fun k_ hs_=>(fun e_=>(Aj.1.1 k_ e_.symm).1) hs_))
        (case side5=>exact HC1_1.1)
        (case side6=>exact Kd.R_tight rfl Aj.1)
        rintro e w47 ⟨Av,rfl,ho0,hb,hkp⟩
        refine ⟨_,rfl,?_⟩
        replace Aa:=A_ (blk_kept (bl_ Aa) hkp (fun hs_=>(fun e_=>(Kd.R_ne Aj.1 Aa.1 (by decide)) e_) hs_));replace Ab:=A_ (blk_kept (bl_ Ab) hkp (fun hs_=>(fun e_=>(Kd.R_ne Aj.1 Ab.1 (by decide)) e_) hs_));have Ay:=A_ (Kd.R_mono (ok':=fun k_=>(P2_ k_ ∨ w.heap.size ≤ k_) ∧ some k_ ≠ (.slice Ao12 l2.length co12 : Value).ownBlock ∧ some k_ ≠ (.slice Ao45 Ai.length co45 : Value).ownBlock) ho0 (fun k_ hk_=>⟨Or.elim hk_ (fun hs_=>(Aj.1.1 k_ (hs_).symm).1) (fun hn_=>(.inr (Nat.le_trans (by first|exact HK.1.1|exact (show Kept w _ (fun k_=>P2_ k_) from by repeat (first|(with_reducible first|exact HK.1|apply Kept.alloc|apply Kept.drewN|apply Kept.drew|refine Kept.setCell ?_ (.inr Ac.1) _|refine Kept.setCell ?_ (.inr Ad.1) _)|exact HK.1)).1) hn_))),Or.elim hk_ (fun hs_=>fun e_=>(((HO_2.1).1 k_ e_.symm).2) hs_) (fun hn_=>(Kd.fresh' (Kd.R_lt (rl_ HO_2)) k_ hn_)),Or.elim hk_ (fun hs_=>fun e_=>(((Ae.1).1 k_ e_.symm).2) hs_) (fun hn_=>(Kd.fresh' (Kd.R_lt (rl_ Ae)) k_ hn_))⟩));replace HO_2:=A_ (Kd.R_mono (ok':=fun k_=>(P2_ k_ ∨ w.heap.size ≤ k_) ∧ some k_ ≠ (.slice Ao45 Ai.length co45 : Value).ownBlock ∧ some k_ ≠ (Av : Value).ownBlock) (Kd.R_keptB (HO_2.1) hkp (fun k_ hk_ hs_=>(hk_.2) hs_)) (fun k_ hk_=>⟨hk_.1.1.1,hk_.1.1.2,fun e_=>Or.elim (ho0.1 k_ e_.symm) (fun hs_=>hk_.2.1 hs_) (fun hn_=>Nat.not_le.2 hk_.2.2 hn_)⟩));replace Ae:=A_ (Kd.R_mono (ok':=fun k_=>(P2_ k_ ∨ w.heap.size ≤ k_) ∧ some k_ ≠ (.slice Ao12 l2.length co12 : Value).ownBlock ∧ some k_ ≠ (Av : Value).ownBlock) (Kd.R_keptB (Ae.1) hkp (fun k_ hk_ hs_=>(hk_.2) hs_)) (fun k_ hk_=>⟨hk_.1.1.1,hk_.1.1.2,fun e_=>Or.elim (ho0.1 k_ e_.symm) (fun hs_=>hk_.2.1 hs_) (fun hn_=>Nat.not_le.2 hk_.2.2 hn_)⟩));replace HK:=A_ (Kept.then_ (S:=(fun k_=>P2_ k_)) (by repeat (first|(with_reducible first|exact HK.1|apply Kept.alloc|apply Kept.drewN|apply Kept.drew|refine Kept.setCell ?_ (.inr Ac.1) _|refine Kept.setCell ?_ (.inr Ad.1) _)|exact HK.1)) hkp (fun k_ hs_=>(fun e_=>(Aj.1.1 k_ e_.symm).1) hs_));replace HB:=A_ (hb);clear Aj;(try clear hb);(try clear hkp);(try clear ho0);refine hK.out _ _ ⟨blk_cell Aa.1 0,blk_cell Aa.1 1,blk_cell Ab.1 0,blk_cell Ab.1 1⟩ (fun hHeld=>?_)
        clear hK K;refine norm_ (a':=?_) ?_ ?_
        rotate_left
        ·show Act.put _ (some 37) _ = _
         simp only [Act.put,L_,M_,N_,i64_w,i32_w]
         rfl
        refine pu_ (i:=8) (N:=29) #[T,T,T,T,T,T,T,T,T,F,F,F,F] HT_.1 rfl rfl (fun _ _ _ h=>h) rfl (h:=?_)
        refine pu_ (i:=9) (N:=38) #[T,T,T,T,T,T,T,T,T,T,F,F,F] HT_.1 rfl rfl (fun _ _ _ h=>h) rfl (h:=?_)
        refine pu_ (i:=10) (N:=39) #[T,T,T,T,T,T,T,T,T,T,T,F,F] HT_.1 rfl rfl (fun _ _ _ h=>h) rfl (h:=?_)
        refine pu_ (i:=11) (N:=9) #[T,T,T,T,T,T,T,T,T,T,T,T,F] HT_.1 rfl rfl (fun _ _ _ h=>h) rfl (h:=?_)
        refine pu_ (i:=12) (N:=10) #[T,T,T,T,T,T,T,T,T,T,T,T,T] HT_.1 rfl rfl (fun _ _ _ h=>h) rfl (h:=?_)
        refine done_ (done_of HT_.1 (by kernel_rfl)) ?_
        try go_wp2
        go_roundg k1
        case measure=>have:=HK1.1;omega
        case rel=>exact ⟨(wrap64 (x8_1 + 1)),(by first|rfl|(simp;done)|(simp [*];done)),H',⟨by have:=HK1.1;omega⟩,⟨rq_ (Kd.R_mono HO_2.1 (fun _ hk=>hk.1))⟩,⟨bl_ Aa⟩,⟨bl_ Ab⟩,⟨by repeat (first|(with_reducible first|exact HK.1|apply Kept.alloc|apply Kept.drewN|apply Kept.drew|refine Kept.setCell ?_ (.inr Ac.1) _|refine Kept.setCell ?_ (.inr Ad.1) _)|exact HK.1)⟩,⟨bb_⟩⟩
      ·rw [if_neg c19] at H;exact absurd H (by simp)
     ·replace c17:=Bool.eq_false_iff.mpr c17;subst c17;have H1 : (Aak.l0 k1 l2 (wrap64 (x8_1 + 1)) a0_0 l0_1 a1_0 l1_1) = some (r1,r2):=by rw [if_neg (show ¬ (false = true) by decide)] at H;exact H
      clear H;have H:=H1;clear H1;have H':=A_ H;clear H;have Z:=Am.1;have Z:=An.1;obtain ⟨Z,Z,Z,Z⟩:=o2_ Aa.1;obtain ⟨Z,Z,Z,Z⟩:=o2_ Ab.1;go_wp2_with (first|((with_reducible refine gate_callee (f:=130) rfl ?_);refine goesL_ (some 27) rfl rfl Tryd.func130 (by kernel_rfl) rfl #[.agg #[.int .i64 a0_0,.slice A0_1 l0_1.length c0_1],.agg #[.int .i64 a1_0,.slice A1_1 l1_1.length c1_1],.slice Ao12 l2.length co12,.int .i64 x8_1] rfl au_ ?_;(with_reducible refine (Aao.calls k1 a0_0 _ _ l0_1 a1_0 _ _ l1_1 _ _ l2 x8_1 false _ ?side1 ?side2 ?side3 ?side4 ?side5 ?side6 A16.1).mono ?_);(case side1=>exact Kd.C_kept_now HR0_1.1 (by repeat (first|(with_reducible first|exact HK.1|apply Kept.alloc|apply Kept.drewN|apply Kept.drew|refine Kept.setCell ?_ (.inr Ac.1) _|refine Kept.setCell ?_ (.inr Ad.1) _)|exact HK.1)));(case side2=>exact HC0_1.1);(case side3=>exact Kd.C_kept_now HR1_1.1 (by repeat (first|(with_reducible first|exact HK.1|apply Kept.alloc|apply Kept.drewN|apply Kept.drew|refine Kept.setCell ?_ (.inr Ac.1) _|refine Kept.setCell ?_ (.inr Ad.1) _)|exact HK.1)));(case side4=>exact HC1_1.1);(case side5=>exact cl_ (Kd.R_reads' HO_2.1).2.2);(case side6=>exact (Kd.R_reads' HO_2.1).2.1);rintro e w51 ⟨rfl,hb⟩;refine ⟨_,rfl,?_⟩;replace HO_2:=rb_ HO_2 hb;replace Aa:=bz Aa hb;replace Ab:=bz Ab hb;replace HK:=A_ (Kept.below (S:=(fun k_=>P2_ k_)) (by repeat (first|(with_reducible first|exact HK.1|apply Kept.alloc|apply Kept.drewN|apply Kept.drew|refine Kept.setCell ?_ (.inr Ac.1) _|refine Kept.setCell ?_ (.inr Ad.1) _)|exact HK.1)) hb);replace HB:=A_ (below_step bb_ hb);(try clear hb);(try clear hb2);(try clear hk);(try clear hi)))
      go_roundg k1
      case measure=>have:=HK1.1;omega
      case rel=>exact ⟨(wrap64 (x8_1 + 1)),(by first|rfl|(simp;done)|(simp [*];done)),H',⟨by have:=HK1.1;omega⟩,⟨rl_ HO_2⟩,⟨bl_ Aa⟩,⟨bl_ Ab⟩,⟨by repeat (first|(with_reducible first|exact HK.1|apply Kept.alloc|apply Kept.drewN|apply Kept.drew|refine Kept.setCell ?_ (.inr Ac.1) _|refine Kept.setCell ?_ (.inr Ad.1) _)|exact HK.1)⟩,⟨bb_⟩⟩
    ·rw [if_neg c15] at H;have c15b0 : decide (x8_1 < a0_0) = false:=decide_eq_false c15;clear c15;simp only [Option.some.injEq,Prod.mk.injEq] at H
     obtain ⟨rfl,rfl⟩:=H;have Z:=Am.1;have Z:=An.1;obtain ⟨Z,Z,Z,Z⟩:=o2_ Aa.1;go_wp2
     go_ret2
     exact ⟨_,by first|rfl|(simp [errW_none,errW_some] <;> rfl)|(simp [*,errW_none,errW_some] <;> rfl),by first|exact Kd.R_nil _ _ _ _ _|exact Kd.N_nil _ _ _ _ _|exact Kd.V_nil _ _ _ _ _|exact Kd.Q_nil _ _ _ _ _|exact Kd.S_nil _ _ _ _ _,bb_,by repeat (first|(with_reducible first|exact HK.1|apply Kept.alloc|apply Kept.drewN|apply Kept.drew|refine Kept.setCell ?_ (.inr Ac.1) _|refine Kept.setCell ?_ (.inr Ad.1) _)|exact HK.1)⟩
def Abh.f (k : Nat) (a0_0 : Int) (l0_1 : List Int) (a1_0 : Int) (l1_1 : List Int) : Option (List Int × Bool) := (Aan.f k a0_0 l0_1).bind fun t619 => (if t619 = true then ((Aan.f k a1_0 l1_1).bind fun t620 => (if t620 = true then (if a1_0 > 6 then (some (([] : List Int), false)) else ((Aak.f k a0_0 l0_1 a1_0 l1_1 ([] : List Int)).bind fun bt621 => (some (bt621.1, bt621.2)))) else (some (([] : List Int), false)))) else (some (([] : List Int), false)))
set_option maxHeartbeats 8000000 in
set_option maxRecDepth 100000 in
theorem Abh.calls (k : Nat) (a0_0 : Int) (A0_1 : Option Addr) (c0_1 : Nat) (l0_1 : List Int) (a1_0 : Int) (A1_1 : Option Addr) (c1_1 : Nat) (l1_1 : List Int) (r1 : List Int) (r2 : Bool) (w : World) (hr0_1 : Kd.C (Kd.int .i64) w A0_1 l0_1.length l0_1) (hc0_1 : l0_1.length ≤ c0_1) (hr1_1 : Kd.C (Kd.int .i64) w A1_1 l1_1.length l1_1) (hc1_1 : l1_1.length ≤ c1_1) (h : Abh.f k a0_0 l0_1 a1_0 l1_1 = some (r1,r2)) :
 Calls Tryd.prog 24 #[.agg #[.int .i64 a0_0,.slice A0_1 l0_1.length c0_1],.agg #[.int .i64 a1_0,.slice A1_1 l1_1.length c1_1]] w fun e w'=>∃ v0_ : Value,e = .returned (.tuple #[v0_,.bool r2]) ∧ Kd.R (Kd.int .i64) 3 w' w.heap.size (fun _=>True) v0_ r1 ∧ Below w.heap.size w w':=by
 have hu26:=Tryd.underlying26;have HR0_1:=A_ hr0_1;have HC0_1:=A_ hc0_1;clear hr0_1 hc0_1;have HR1_1:=A_ hr1_1;have HC1_1:=A_ hc1_1;clear hr1_1 hc1_1;have HB:=A_ (Below.refl w.heap.size w);have H : ((Aan.f k a0_0 l0_1).bind fun Ag=>(if Ag = true then ((Aan.f k a1_0 l1_1).bind fun Af=>(if Af = true then (if a1_0 > 6 then (some (([] : List Int),false)) else ((Aak.f k a0_0 l0_1 a1_0 l1_1 ([] : List Int)).bind fun Ac=>(some (Ac.1,Ac.2)))) else (some (([] : List Int),false)))) else (some (([] : List Int),false)))) = some (r1,r2):=h;clear h;replace H:=Option.bind_eq_some_iff.mp H;obtain ⟨Ag,A30,H⟩:=H;replace H : (if Ag = true then ((Aan.f k a1_0 l1_1).bind fun Af=>(if Af = true then (if a1_0 > 6 then (some (([] : List Int),false)) else ((Aak.f k a0_0 l0_1 a1_0 l1_1 ([] : List Int)).bind fun Ac=>(some (Ac.1,Ac.2)))) else (some (([] : List Int),false)))) else (some (([] : List Int),false))) = some (r1,r2):=H;have A3:=A_ A30;clear A30;by_cases c4 : Ag = true
 ·subst c4;have H1 : ((Aan.f k a1_0 l1_1).bind fun Af=>(if Af = true then (if a1_0 > 6 then (some (([] : List Int),false)) else ((Aak.f k a0_0 l0_1 a1_0 l1_1 ([] : List Int)).bind fun Ac=>(some (Ac.1,Ac.2)))) else (some (([] : List Int),false)))) = some (r1,r2):=by rw [if_pos rfl] at H;exact H
  clear H;have H:=H1;clear H1;replace H:=Option.bind_eq_some_iff.mp H;obtain ⟨Af,A50,H⟩:=H;replace H : (if Af = true then (if a1_0 > 6 then (some (([] : List Int),false)) else ((Aak.f k a0_0 l0_1 a1_0 l1_1 ([] : List Int)).bind fun Ac=>(some (Ac.1,Ac.2)))) else (some (([] : List Int),false))) = some (r1,r2):=H;have A5:=A_ A50;clear A50;by_cases c6 : Af = true
  ·subst c6;have H1 : (if a1_0 > 6 then (some (([] : List Int),false)) else ((Aak.f k a0_0 l0_1 a1_0 l1_1 ([] : List Int)).bind fun Ac=>(some (Ac.1,Ac.2)))) = some (r1,r2):=by rw [if_pos rfl] at H;exact H
   clear H;have H:=H1;clear H1;by_cases c7 : a1_0 > 6
   ·rw [if_pos c7] at H;have c7b0 : decide (6 < a1_0) = true:=decide_eq_true c7;clear c7;simp only [Option.some.injEq,Prod.mk.injEq] at H
    obtain ⟨rfl,rfl⟩:=H;go_enter Tryd.func24,Tryd.ntmps24
    go_wp2_with (first|((with_reducible refine gate_dst (N:=2) rfl ?_);refine box_event ?hg (N:=2) ?hd (cs:=#[.int .i64 a0_0,.slice A0_1 l0_1.length c0_1]) (t:=26) ?hr ?_;(case hd=>rfl);(case hg=>rfl);(case hr=>go_simp;try rfl);intro Ah hg w8 hbox hb;have Aa:=A_ (hbox);have Ai:=A_ (gw_ (w:=w) hg bb_);have Aj:=A_ (gw_ (w:=w) hg bb_);replace HB:=A_ (below_step bb_ hb);clear hb hbox hg)|((with_reducible refine gate_dst (N:=3) rfl ?_);refine box_event ?hg (N:=3) ?hd (cs:=#[.int .i64 a1_0,.slice A1_1 l1_1.length c1_1]) (t:=26) ?hr ?_;(case hd=>rfl);(case hg=>rfl);(case hr=>go_simp;try rfl);intro Ak hg w9 hbox hb;have Ab:=A_ (hbox);have Al:=A_ (gw_ (w:=w) hg bb_);have Am:=A_ (gw_ (w:=w) hg bb_);replace HB:=A_ (below_step bb_ hb);have Ad:=A_ (nl_ hg Aa);have Ae:=A_ (ng_ hg Aa);replace Aa:=bz Aa hb;clear hb hbox hg;have Z:=Ad.1;have Z:=Ae.1;obtain ⟨Z,Z,Z,Z⟩:=o2_ Aa.1)|((with_reducible refine gate_callee (f:=63) rfl ?_);refine goesL_ (some 7) rfl rfl Tryd.func63 (by kernel_rfl) rfl #[.agg #[.int .i64 a0_0,.slice A0_1 l0_1.length c0_1]] rfl au_ ?_;(with_reducible refine (Aan.calls k a0_0 _ _ l0_1 true _ ?side1 ?side2 A3.1).mono ?_);(case side1=>exact cl_ (Kd.C_below HR0_1.1 HB.1));(case side2=>exact HC0_1.1);rintro e w12 ⟨rfl,hb⟩;refine ⟨_,rfl,?_⟩;replace Aa:=bz Aa hb;replace Ab:=bz Ab hb;replace HB:=A_ (below_step bb_ hb);(try clear hb);(try clear hb2);(try clear hk);(try clear hi);obtain ⟨Z,Z,Z,Z⟩:=o2_ Ab.1)|(go_at_call 63;(with_reducible refine (Aan.calls k a1_0 _ _ l1_1 true _ ?side1 ?side2 A5.1).mono ?_);(case side1=>exact cl_ (Kd.C_below HR1_1.1 HB.1));(case side2=>exact HC1_1.1);rintro e w14 ⟨rfl,hb⟩;replace Aa:=bz Aa hb;replace Ab:=bz Ab hb;replace HB:=A_ (below_step bb_ hb);(try clear hb);(try clear hb2);(try clear hk);(try clear hi);obtain ⟨Z,Z,Z,Z⟩:=o2_ Ab.1))
    go_ret2
    exact ⟨_,by first|rfl|(simp [errW_none,errW_some] <;> rfl)|(simp [*,errW_none,errW_some] <;> rfl),by first|exact Kd.R_nil _ _ _ _ _|exact Kd.N_nil _ _ _ _ _|exact Kd.V_nil _ _ _ _ _|exact Kd.Q_nil _ _ _ _ _|exact Kd.S_nil _ _ _ _ _,bb_⟩
   ·rw [if_neg c7] at H;have c7b0 : decide (6 < a1_0) = false:=decide_eq_false c7;clear c7;replace H:=Option.bind_eq_some_iff.mp H;obtain ⟨⟨An,Ao⟩,Ap,H⟩:=H;replace H : (some (An,Ao)) = some (r1,r2):=H;have A16:=A_ Ap;clear Ap;simp only [Option.some.injEq,Prod.mk.injEq] at H
    obtain ⟨rfl,rfl⟩:=H;go_enter Tryd.func24,Tryd.ntmps24
    go_wp2_with (first|((with_reducible refine gate_dst (N:=2) rfl ?_);refine box_event ?hg (N:=2) ?hd (cs:=#[.int .i64 a0_0,.slice A0_1 l0_1.length c0_1]) (t:=26) ?hr ?_;(case hd=>rfl);(case hg=>rfl);(case hr=>go_simp;try rfl);intro Ah hg w17 hbox hb;have Aa:=A_ (hbox);have Ai:=A_ (gw_ (w:=w) hg bb_);have Aj:=A_ (gw_ (w:=w) hg bb_);replace HB:=A_ (below_step bb_ hb);clear hb hbox hg)|((with_reducible refine gate_dst (N:=3) rfl ?_);refine box_event ?hg (N:=3) ?hd (cs:=#[.int .i64 a1_0,.slice A1_1 l1_1.length c1_1]) (t:=26) ?hr ?_;(case hd=>rfl);(case hg=>rfl);(case hr=>go_simp;try rfl);intro Ak hg w18 hbox hb;have Ab:=A_ (hbox);have Al:=A_ (gw_ (w:=w) hg bb_);have Am:=A_ (gw_ (w:=w) hg bb_);replace HB:=A_ (below_step bb_ hb);have Ad:=A_ (nl_ hg Aa);have Ae:=A_ (ng_ hg Aa);replace Aa:=bz Aa hb;clear hb hbox hg;have Z:=Ad.1;have Z:=Ae.1;obtain ⟨Z,Z,Z,Z⟩:=o2_ Aa.1)|((with_reducible refine gate_callee (f:=63) rfl ?_);refine goesL_ (some 7) rfl rfl Tryd.func63 (by kernel_rfl) rfl #[.agg #[.int .i64 a0_0,.slice A0_1 l0_1.length c0_1]] rfl au_ ?_;(with_reducible refine (Aan.calls k a0_0 _ _ l0_1 true _ ?side1 ?side2 A3.1).mono ?_);(case side1=>exact cl_ (Kd.C_below HR0_1.1 HB.1));(case side2=>exact HC0_1.1);rintro e w21 ⟨rfl,hb⟩;refine ⟨_,rfl,?_⟩;replace Aa:=bz Aa hb;replace Ab:=bz Ab hb;replace HB:=A_ (below_step bb_ hb);(try clear hb);(try clear hb2);(try clear hk);(try clear hi);obtain ⟨Z,Z,Z,Z⟩:=o2_ Ab.1)|(go_at_call 63;(with_reducible refine (Aan.calls k a1_0 _ _ l1_1 true _ ?side1 ?side2 A5.1).mono ?_);(case side1=>exact cl_ (Kd.C_below HR1_1.1 HB.1));(case side2=>exact HC1_1.1);rintro e w23 ⟨rfl,hb⟩;replace Aa:=bz Aa hb;replace Ab:=bz Ab hb;replace HB:=A_ (below_step bb_ hb);(try clear hb);(try clear hb2);(try clear hk);(try clear hi);obtain ⟨Z,Z,Z,Z⟩:=o2_ Ab.1;obtain ⟨Z,Z,Z,Z⟩:=o2_ Aa.1)|((with_reducible refine gate_callee (f:=83) rfl ?_);refine goesL_ (some 21) rfl rfl Tryd.func83 (by kernel_rfl) rfl #[.agg #[.int .i64 a0_0,.slice A0_1 l0_1.length c0_1],.agg #[.int .i64 a1_0,.slice A1_1 l1_1.length c1_1],.slice none 0 0] rfl au_ ?_;(refine (Aak.calls k a0_0 _ _ l0_1 a1_0 _ _ l1_1 (fun k_=>some k_ = (.slice none 0 0 : Value).ownBlock) (.slice none 0 0) ([] : List Int) An Ao w _ ?side1 ?side2 ?side3 ?side4 ?side5 ?side6 A16.1).mono ?_);(case side1=>repeat (first|(with_reducible first|exact HB.1|apply below_alloc|apply pw_below_drewN|apply below_drew1|refine below_set ?_ (Aside0.out (by assumption)))|exact HB.1));(case side2=>exact Kd.C_kept_came (Kd.heap_int .i64) HR0_1.1 bb_ (fun k_ hs_=>(fun e_=>by simp [Value.ownBlock] at e_) hs_));(case side3=>exact HC0_1.1);(case side4=>exact Kd.C_kept_came (Kd.heap_int .i64) HR1_1.1 bb_ (fun k_ hs_=>(fun e_=>by simp [Value.ownBlock] at e_) hs_));(case side5=>exact HC1_1.1);(case side6=>exact Kd.R_nil _ _ _ _ _);rintro e w26 ⟨Ar,rfl,ho0,hb,hkp⟩;refine ⟨_,rfl,?_⟩;replace Aa:=A_ (blk_kept (bl_ Aa) hkp (fun hs_=>(fun e_=>by simp [Value.ownBlock] at e_) hs_));replace Ab:=A_ (blk_kept (bl_ Ab) hkp (fun hs_=>(fun e_=>by simp [Value.ownBlock] at e_) hs_));have Aq:=A_ (Kd.R_mono (ok':=fun k_=>True) ho0 (fun k_ hk_=>trivial));replace HB:=A_ (hb);(try clear hb);(try clear hkp);(try clear ho0)))
    go_ret2
    exact ⟨_,by first|rfl|(simp [errW_none,errW_some] <;> rfl)|(simp [*,errW_none,errW_some] <;> rfl),rl_ Aq,bb_⟩
  ·replace c6:=Bool.eq_false_iff.mpr c6;subst c6;have H1 : (some (([] : List Int),false)) = some (r1,r2):=by rw [if_neg (show ¬ (false = true) by decide)] at H;exact H
   clear H;have H:=H1;clear H1;simp only [Option.some.injEq,Prod.mk.injEq] at H
   obtain ⟨rfl,rfl⟩:=H;go_enter Tryd.func24,Tryd.ntmps24
   go_wp2_with (first|((with_reducible refine gate_dst (N:=2) rfl ?_);refine box_event ?hg (N:=2) ?hd (cs:=#[.int .i64 a0_0,.slice A0_1 l0_1.length c0_1]) (t:=26) ?hr ?_;(case hd=>rfl);(case hg=>rfl);(case hr=>go_simp;try rfl);intro Ah hg w27 hbox hb;have Aa:=A_ (hbox);have Ai:=A_ (gw_ (w:=w) hg bb_);have Aj:=A_ (gw_ (w:=w) hg bb_);replace HB:=A_ (below_step bb_ hb);clear hb hbox hg)|((with_reducible refine gate_dst (N:=3) rfl ?_);refine box_event ?hg (N:=3) ?hd (cs:=#[.int .i64 a1_0,.slice A1_1 l1_1.length c1_1]) (t:=26) ?hr ?_;(case hd=>rfl);(case hg=>rfl);(case hr=>go_simp;try rfl);intro Ak hg w28 hbox hb;have Ab:=A_ (hbox);have Al:=A_ (gw_ (w:=w) hg bb_);have Am:=A_ (gw_ (w:=w) hg bb_);replace HB:=A_ (below_step bb_ hb);have Ad:=A_ (nl_ hg Aa);have Ae:=A_ (ng_ hg Aa);replace Aa:=bz Aa hb;clear hb hbox hg;have Z:=Ad.1;have Z:=Ae.1;obtain ⟨Z,Z,Z,Z⟩:=o2_ Aa.1)|((with_reducible refine gate_callee (f:=63) rfl ?_);refine goesL_ (some 7) rfl rfl Tryd.func63 (by kernel_rfl) rfl #[.agg #[.int .i64 a0_0,.slice A0_1 l0_1.length c0_1]] rfl au_ ?_;(with_reducible refine (Aan.calls k a0_0 _ _ l0_1 true _ ?side1 ?side2 A3.1).mono ?_);(case side1=>exact cl_ (Kd.C_below HR0_1.1 HB.1));(case side2=>exact HC0_1.1);rintro e w31 ⟨rfl,hb⟩;refine ⟨_,rfl,?_⟩;replace Aa:=bz Aa hb;replace Ab:=bz Ab hb;replace HB:=A_ (below_step bb_ hb);(try clear hb);(try clear hb2);(try clear hk);(try clear hi);obtain ⟨Z,Z,Z,Z⟩:=o2_ Ab.1)|(go_at_call 63;(with_reducible refine (Aan.calls k a1_0 _ _ l1_1 false _ ?side1 ?side2 A5.1).mono ?_);(case side1=>exact cl_ (Kd.C_below HR1_1.1 HB.1));(case side2=>exact HC1_1.1);rintro e w33 ⟨rfl,hb⟩;replace Aa:=bz Aa hb;replace Ab:=bz Ab hb;replace HB:=A_ (below_step bb_ hb);(try clear hb);(try clear hb2);(try clear hk);(try clear hi)))
   go_ret2
   exact ⟨_,by first|rfl|(simp [errW_none,errW_some] <;> rfl)|(simp [*,errW_none,errW_some] <;> rfl),by first|exact Kd.R_nil _ _ _ _ _|exact Kd.N_nil _ _ _ _ _|exact Kd.V_nil _ _ _ _ _|exact Kd.Q_nil _ _ _ _ _|exact Kd.S_nil _ _ _ _ _,bb_⟩
 ·replace c4:=Bool.eq_false_iff.mpr c4;subst c4;have H1 : (some (([] : List Int),false)) = some (r1,r2):=by rw [if_neg (show ¬ (false = true) by decide)] at H;exact H
  clear H;have H:=H1;clear H1;simp only [Option.some.injEq,Prod.mk.injEq] at H
  obtain ⟨rfl,rfl⟩:=H;go_enter Tryd.func24,Tryd.ntmps24
  go_wp2_with (first|((with_reducible refine gate_dst (N:=2) rfl ?_);refine box_event ?hg (N:=2) ?hd (cs:=#[.int .i64 a0_0,.slice A0_1 l0_1.length c0_1]) (t:=26) ?hr ?_;(case hd=>rfl);(case hg=>rfl);(case hr=>go_simp;try rfl);intro Ah hg w34 hbox hb;have Aa:=A_ (hbox);have Ai:=A_ (gw_ (w:=w) hg bb_);have Aj:=A_ (gw_ (w:=w) hg bb_);replace HB:=A_ (below_step bb_ hb);clear hb hbox hg)|((with_reducible refine gate_dst (N:=3) rfl ?_);refine box_event ?hg (N:=3) ?hd (cs:=#[.int .i64 a1_0,.slice A1_1 l1_1.length c1_1]) (t:=26) ?hr ?_;(case hd=>rfl);(case hg=>rfl);(case hr=>go_simp;try rfl);intro Ak hg w35 hbox hb;have Ab:=A_ (hbox);have Al:=A_ (gw_ (w:=w) hg bb_);have Am:=A_ (gw_ (w:=w) hg bb_);replace HB:=A_ (below_step bb_ hb);have Ad:=A_ (nl_ hg Aa);have Ae:=A_ (ng_ hg Aa);replace Aa:=bz Aa hb;clear hb hbox hg;have Z:=Ad.1;have Z:=Ae.1;obtain ⟨Z,Z,Z,Z⟩:=o2_ Aa.1)|((with_reducible refine gate_callee (f:=63) rfl ?_);refine goesL_ (some 7) rfl rfl Tryd.func63 (by kernel_rfl) rfl #[.agg #[.int .i64 a0_0,.slice A0_1 l0_1.length c0_1]] rfl au_ ?_;(with_reducible refine (Aan.calls k a0_0 _ _ l0_1 false _ ?side1 ?side2 A3.1).mono ?_);(case side1=>exact cl_ (Kd.C_below HR0_1.1 HB.1));(case side2=>exact HC0_1.1);rintro e w38 ⟨rfl,hb⟩;refine ⟨_,rfl,?_⟩;replace Aa:=bz Aa hb;replace Ab:=bz Ab hb;replace HB:=A_ (below_step bb_ hb);(try clear hb);(try clear hb2);(try clear hk);(try clear hi)))
  go_ret2
  exact ⟨_,by first|rfl|(simp [errW_none,errW_some] <;> rfl)|(simp [*,errW_none,errW_some] <;> rfl),by first|exact Kd.R_nil _ _ _ _ _|exact Kd.N_nil _ _ _ _ _|exact Kd.V_nil _ _ _ _ _|exact Kd.Q_nil _ _ _ _ _|exact Kd.S_nil _ _ _ _ _,bb_⟩
def Abp.f (a0 : Int) (a1 : Int) : Option (Int) := if a0 > a1 then (some a0) else (some a1)
set_option maxHeartbeats 8000000 in
set_option maxRecDepth 100000 in
theorem Abp.calls (a0 : Int) (a1 : Int) (r : Int) (w : World) (h : Abp.f a0 a1 = some r) :
 Calls Tryd.prog 84 #[.int .i64 a0,.int .i64 a1] w fun e w'=>e = .returned (.int .i64 r) ∧ Drawn0 w w':=by
 have H : (if a0 > a1 then (some a0) else (some a1)) = some r:=h;clear h;by_cases c3 : a0 > a1
 ·rw [if_pos c3] at H;have c3b0 : decide (a1 < a0) = true:=decide_eq_true c3;clear c3;obtain rfl:=Option.some.inj H;go_enter Tryd.func84,Tryd.ntmps84
  go_wp2
  go_ret
  exact ⟨by first|rfl|(simp;done)|(simp [*];done),by repeat (first|exact Drawn0.refl _|apply Drawn0.step)⟩
 ·rw [if_neg c3] at H;have c3b0 : decide (a1 < a0) = false:=decide_eq_false c3;clear c3;obtain rfl:=Option.some.inj H;go_enter Tryd.func84,Tryd.ntmps84
  go_wp2
  go_ret
  exact ⟨by first|rfl|(simp;done)|(simp [*];done),by repeat (first|exact Drawn0.refl _|apply Drawn0.step)⟩
def Aa0.f (k : Nat) (l0 : List Int) : Option (Int × List Int × List Int) := (Aam.f k l0 0 0 6).bind fun bt627 => ((Abp.f 0 bt627.1).bind fun t634 => ((Aaq.f k l0 bt627.2.2.1 bt627.2.2.2 t634).bind fun bt635 => (some (bt627.1, bt627.2.1, bt635.1))))
def Aa0.T3 : Bool × List (List Nat × List Nat) := (true, [([], []), ([], []), ([], []), ([2], [2]), ([3], [3]), ([1, 4, 4], [1, 4]), ([0, 5, 0], [0]), ([5, 6, 0, 1, 2, 3, 4, 5, 6], [5])])
def Aa0.B3 : List Nat := [0, 0, 0, 4, 12, 30, 63, 127]
theorem Aa0.tab3 : rtab .any (opsOf Tryd.f26 3) = Aa0.T3:=by kernel_rfl
theorem Aa0.bits3 : waitsOk Aa0.T3.2 Aa0.B3 = true:=by kernel_rfl
set_option maxHeartbeats 8000000 in
set_option maxRecDepth 100000 in
theorem Aa0.calls (k : Nat) (A0 : Option Addr) (c0 : Nat) (l0 : List Int) (r1 : Int) (r2 : List Int) (r3 : List Int) (w : World) (hr0 : Kd.C (Kd.int .u8) w A0 l0.length l0) (hc0 : l0.length ≤ c0) (h : Aa0.f k l0 = some (r1,r2,r3)) :
 Calls Tryd.prog 26 #[.slice A0 l0.length c0] w fun e w'=>∃ v1_ v2_ : Value,e = .returned (.tuple #[.agg #[.int .i64 r1,v1_],v2_]) ∧ Kd.R (Kd.int .i64) 3 w' w.heap.size (fun k_=>some k_ ≠ (v2_ : Value).ownBlock) v1_ r2 ∧ Kd.R (Kd.int .i64) 3 w' w.heap.size (fun k_=>some k_ ≠ (v1_ : Value).ownBlock) v2_ r3 ∧ Below w.heap.size w w':=by
 have hu26:=Tryd.underlying26;have hu62:=Tryd.underlying62;have HR0:=A_ hr0;have HC0:=A_ hc0;clear hr0 hc0;have HB:=A_ (Below.refl w.heap.size w);have H : ((Aam.f k l0 0 0 6).bind fun Ap=>((Abp.f 0 Ap.1).bind fun Am=>((Aaq.f k l0 Ap.2.2.1 Ap.2.2.2 Am).bind fun Aq=>(some (Ap.1,Ap.2.1,Aq.1))))) = some (r1,r2,r3):=h;clear h;replace H:=Option.bind_eq_some_iff.mp H;obtain ⟨⟨Ad,Af,An,Ao⟩,A20,H⟩:=H;replace H : ((Abp.f 0 Ad).bind fun Am=>((Aaq.f k l0 An Ao Am).bind fun Aq=>(some (Ad,Af,Aq.1)))) = some (r1,r2,r3):=H;have A2:=A_ A20;clear A20;replace H:=Option.bind_eq_some_iff.mp H;obtain ⟨Am,A30,H⟩:=H;replace H : ((Aaq.f k l0 An Ao Am).bind fun Aq=>(some (Ad,Af,Aq.1))) = some (r1,r2,r3):=H;have A3:=A_ A30;clear A30;replace H:=Option.bind_eq_some_iff.mp H;obtain ⟨⟨Au,Aw,Ax⟩,A40,H⟩:=H;replace H : (some (Ad,Af,Au)) = some (r1,r2,r3):=H;have A4:=A_ A40;clear A40;simp only [Option.some.injEq,Prod.mk.injEq] at H
 obtain ⟨rfl,rfl,rfl⟩:=H;go_enter Tryd.func26,Tryd.ntmps26
 try go_wp2_with (first|((with_reducible refine gate_dst (N:=2) rfl ?_);refine box_event ?hg (N:=2) ?hd (cs:=#[.int .i64 0,.slice none 0 0]) (t:=26) ?hr ?_;(case hd=>rfl);(case hg=>rfl);(case hr=>go_simp;try rfl);intro Ag hg w5 hbox hb;have Ab:=A_ (hbox);have Ay:=A_ (gw_ (w:=w) hg bb_);have Az:=A_ (gw_ (w:=w) hg bb_);replace HB:=A_ (below_step bb_ hb);clear hb hbox hg)|((with_reducible refine gate_dst (N:=8) rfl ?_);refine box_event ?hg (N:=8) ?hd (cs:=#[.slice A0 l0.length c0,.int .i64 0,.int .u64 0]) (t:=62) ?hr ?_;(case hd=>rfl);(case hg=>rfl);(case hr=>go_simp;try rfl);intro Aj hg w6 hbox hb;have Aa:=A_ ((show Aaa w _ Aj l0 0 0 from ⟨_,_,hbox,(by rw [hg];exact (below_size bb_) : w.heap.size ≤ Aj),HR0.1⟩));have A9:=A_ (gw_ (w:=w) hg bb_);have Ba:=A_ (gw_ (w:=w) hg bb_);replace HB:=A_ (below_step bb_ hb);have Ar:=A_ (nl_ hg Ab);have Al:=A_ (ng_ hg Ab);replace Ab:=bz Ab hb;clear hb hbox hg)|((with_reducible refine gate_callee (f:=60) rfl ?_);refine goesL_ (some 10) rfl rfl Tryd.func60 (by kernel_rfl) rfl #[.pointer (some ⟨Aj,0,none⟩),.int .i64 6] rfl au_ ?_;(with_reducible refine (Aam.calls k Aj l0 0 0 6 Ad Af An Ao w _ ?side1 ?side2 A2.1).mono ?_);(case side1=>repeat (first|(with_reducible first|exact Aa.1|apply Aaa.alloc|apply Aaa.drewN|apply Aaa.drew|apply Aaa.set_1|apply Aaa.set_2|refine Aaa.far ?_ Al.1 _)|exact Aa.1));(case side2=>repeat (first|(with_reducible first|exact HB.1|apply below_alloc|apply pw_below_drewN|apply below_drew1|refine below_set ?_ (Aaa.ge Aa.1)|refine below_set ?_ (Aside0.out (by assumption)))|exact HB.1));rintro e w7 ⟨Bd,rfl,ho0,hi,hb,hk⟩;refine ⟨_,rfl,?_⟩;replace Ab:=A_ (KeepBut.blk hk (g':=Ag) (o:=.cells #[.int .i64 0,.slice none 0 0] 26 (0,0)) (bl_ Ab) Ar.1 (by simp));have Ai:=A_ (Kd.R_lower ho0 (below_size (by repeat (with_reducible first|exact HB.1|apply below_alloc|apply pw_below_drewN|apply below_drew1|refine below_set ?_ (Aaa.ge Aa.1)|refine below_set ?_ (Aside0.out (by assumption))))));replace HB:=A_ (hb);replace Aa:=A_ (hi);(try clear hb);(try clear hb2);(try clear hk);(try clear hi);(try clear ho0))|((with_reducible refine gate_dst (N:=5) rfl ?_);refine box_event ?hg (N:=5) ?hd (cs:=#[.int .i64 0,.slice none 0 0]) (t:=26) ?hr ?_;(case hd=>rfl);(case hg=>rfl);(case hr=>go_simp;try rfl);intro Ac hg w8 hbox hb;replace Ai:=rb_ Ai hb;have Ae:=A_ (hbox);have Bb:=A_ ((by rw [hg];exact (below_size (by repeat (with_reducible first|exact HB.1|apply below_alloc|apply pw_below_drewN|apply below_drew1|refine below_set ?_ (Aaa.ge Aa.1)|refine below_set ?_ (Aside0.out (by assumption))))) : w.heap.size ≤ Ac));have Bc:=A_ ((by rw [hg];exact (below_size (by repeat (with_reducible first|exact HB.1|apply below_alloc|apply pw_below_drewN|apply below_drew1|refine below_set ?_ (Aaa.ge Aa.1)|refine below_set ?_ (Aside0.out (by assumption))))) : w.heap.size ≤ Ac));replace HB:=A_ (below_step (by repeat (with_reducible first|exact HB.1|apply below_alloc|apply pw_below_drewN|apply below_drew1|refine below_set ?_ (Aaa.ge Aa.1)|refine below_set ?_ (Aside0.out (by assumption)))) hb);have Ak:=A_ (nl_ hg Ab);have Ah:=A_ (ng_ hg Ab);replace Ab:=bz Ab hb;have At:=A_ ((by rw [hg];exact Nat.ne_of_lt (Aaa.lt (show Aaa w _ Aj l0 An Ao from by repeat (first|(with_reducible first|exact Aa.1|apply Aaa.alloc|apply Aaa.drewN|apply Aaa.drew|apply Aaa.set_1|apply Aaa.set_2|refine Aaa.far ?_ Al.1 _)|exact Aa.1))) : Aj ≠ Ac));have As:=A_ ((by rw [hg];exact Nat.ne_of_gt (Aaa.lt (show Aaa w _ Aj l0 An Ao from by repeat (first|(with_reducible first|exact Aa.1|apply Aaa.alloc|apply Aaa.drewN|apply Aaa.drew|apply Aaa.set_1|apply Aaa.set_2|refine Aaa.far ?_ Al.1 _)|exact Aa.1))) : Ac ≠ Aj));replace Aa:=A_ (Aaa.below (by repeat (with_reducible first|exact Aa.1|apply Aaa.alloc|apply Aaa.drewN|apply Aaa.drew|apply Aaa.set_1|apply Aaa.set_2|refine Aaa.far ?_ Al.1 _)) hb);clear hb hbox hg;have Z:=Ah.1;have Z:=Ak.1;have Z:=As.1;have Z:=At.1;obtain ⟨Z,Z,Z,Z⟩:=o2_ Ae.1;obtain ⟨Ao12,co12,eo12⟩:=Kd.R_slice Ai.1;subst eo12))
 have n0_ : Aside0 (Kd.R (Kd.int .i64) 3 ((w8.setCell ⟨Ac,0,none⟩ (.int .i64 Ad)).setCell ⟨Ac,1,none⟩ (.slice Ao12 Af.length co12)) w.heap.size (fun _=>True) (.slice Ao12 Af.length co12) Af):=⟨rq_ (Kd.R_mono (Kd.R_far (p:=⟨Ac,1,none⟩) (Kd.R_far (p:=⟨Ac,0,none⟩) (Kd.R_types Ai.1 Ae.1 (by decide)) (fun _ hk=>hk.2) (.int .i64 Ad)) (fun _ hk=>hk.2) (.slice Ao12 Af.length co12)) (fun _ hk=>trivial))⟩;have n1_ : Aside0 (((w8.setCell ⟨Ac,0,none⟩ (.int .i64 Ad)).setCell ⟨Ac,1,none⟩ (.slice Ao12 Af.length co12)).heap[Ag]? = some (.cells #[.int .i64 0,.slice none 0 0] 26 (0,0))):=⟨by (with_reducible repeat (first|refine blk_drewN ?_ _|refine blk_drew ?_|refine blk_alloc ?_ _));refine blk_far ?_ Ak.1 _;(with_reducible repeat (first|refine blk_drewN ?_ _|refine blk_drew ?_|refine blk_alloc ?_ _));refine blk_far ?_ Ak.1 _;(with_reducible repeat (first|refine blk_drewN ?_ _|refine blk_drew ?_|refine blk_alloc ?_ _));exact Ab.1⟩;have n2_ : Aside0 (((w8.setCell ⟨Ac,0,none⟩ (.int .i64 Ad)).setCell ⟨Ac,1,none⟩ (.slice Ao12 Af.length co12)).heap[Ac]? = some (.cells #[.int .i64 Ad,.slice Ao12 Af.length co12] 26 (0,0))):=⟨by (with_reducible repeat (first|refine blk_drewN ?_ _|refine blk_drew ?_|refine blk_alloc ?_ _));refine blk_put (cs:=#[.int .i64 Ad,.slice none 0 0]) ?_ 1 _ rfl;(with_reducible repeat (first|refine blk_drewN ?_ _|refine blk_drew ?_|refine blk_alloc ?_ _));refine blk_put (cs:=#[.int .i64 0,.slice none 0 0]) ?_ 0 _ rfl;(with_reducible repeat (first|refine blk_drewN ?_ _|refine blk_drew ?_|refine blk_alloc ?_ _));exact Ae.1⟩;have n3_ : Aside0 (Aaa w ((w8.setCell ⟨Ac,0,none⟩ (.int .i64 Ad)).setCell ⟨Ac,1,none⟩ (.slice Ao12 Af.length co12)) Aj l0 An Ao):=⟨by repeat (first|(with_reducible first|exact Aa.1|apply Aaa.alloc|apply Aaa.drewN|apply Aaa.drew|apply Aaa.set_1|apply Aaa.set_2|refine Aaa.far ?_ (Aside0.out (by assumption)) _)|exact Aa.1)⟩;have n4_ : Aside0 (Below w.heap.size w ((w8.setCell ⟨Ac,0,none⟩ (.int .i64 Ad)).setCell ⟨Ac,1,none⟩ (.slice Ao12 Af.length co12))):=⟨by repeat (first|(with_reducible first|exact HB.1|apply below_alloc|apply pw_below_drewN|apply below_drew1|refine below_set ?_ (Aaa.ge Aa.1)|refine below_set ?_ (Aside0.out (by assumption)))|exact HB.1)⟩;(try clear Ai);(try clear Ab);(try clear Ae);(try clear Aa);(try clear HB);generalize ((w8.setCell ⟨Ac,0,none⟩ (.int .i64 Ad)).setCell ⟨Ac,1,none⟩ (.slice Ao12 Af.length co12)) = w13 at n0_ n1_ n2_ n3_ n4_ ⊢
 have Ai:=n0_;have Ab:=n1_;have Ae:=n2_;have Aa:=n3_;have HB:=n4_;clear n0_ n1_ n2_ n3_ n4_;replace Ai:=A_ (Kd.R_drew Ai.1);replace Ab:=A_ (blk_drew Ab.1);replace Ae:=A_ (blk_drew Ae.1);replace Aa:=A_ (Aaa.drew Aa.1);replace HB:=A_ (below_drew1 HB.1);refine start_ (n:=8) (S:=fun w'=>w'.cell? ⟨Ac,0,none⟩ = some (.int .i64 Ad) ∧ w'.cell? ⟨Ac,1,none⟩ = some (.slice Ao12 Af.length co12)) (ds:=[]) #[F,F,F,F,F,F,F,F] (by kernel_rfl) rfl rfl ⟨blk_cell Ae.1 0,blk_cell Ae.1 1⟩ (fun hHeld=>?_);refine with_tabW Aa0.tab3 Aa0.bits3 (fun HT_ HW_=>?_)
 generalize w13.drew = w14 at Ai Ab Ae Aa HB hHeld ⊢
 refine pu_ (i:=1) (N:=12) #[F,T,F,F,F,F,F,F] HT_.1 rfl rfl (fun _ _ _ h=>h) rfl (h:=?_)
 refine pu_ (i:=2) (N:=13) #[F,T,T,F,F,F,F,F] HT_.1 rfl rfl (fun _ _ _ h=>h) rfl (h:=?_)
 refine take_ (i:=0) (N:=some 11) (v:=?_) (a':=?_) #[T,T,T,F,F,F,F,F] rfl rfl (take_ofW HT_.1 HW_.1 (by kernel_rfl)) (fun _ _ _ h=>h) (Or.inl ⟨by rfl,?_⟩) hHeld ?_ ?_
 rotate_left
 ·rintro w' ⟨s0,s1⟩
  go_simp
  with_reducible rfl
 rotate_left;·simp only [Act.put,L_,M_,N_,i64_w,i32_w];rfl
 refine take_ (i:=3) (N:=some 14) (v:=?_) (a':=?_) #[T,T,T,T,F,F,F,F] rfl rfl (take_ofW HT_.1 HW_.1 (by kernel_rfl)) (fun _ _ _ h=>h) (Or.inl ⟨by rfl,?_⟩) hHeld ?_ ?_
 rotate_left
 ·rintro w' ⟨s0,s1⟩
  go_simp
  with_reducible rfl
 rotate_left;·simp only [Act.put,L_,M_,N_,i64_w,i32_w];rfl
 refine one_ (i:=4) (N:=some 15) #[T,T,T,T,T,F,F,F] rfl rfl (one_of HT_.1 (by kernel_rfl)) (by decide) (fun K hK=>?_)
 refine goes_ Tryd.func84 (by kernel_rfl) rfl #[.int .i64 0,.int .i64 Ad] (by rfl) rfl rfl au_ ?_
 with_reducible refine (Abp.calls 0 Ad Am _ A3.1).mono ?_
 rintro e w' ⟨rfl,⟨nd,rfl⟩⟩
 refine ⟨_,rfl,?_⟩
 refine hK.out _ _ ⟨blk_cell Ae.1 0,blk_cell Ae.1 1⟩ (fun hHeld=>?_)
 clear hK K;refine norm_ (a':=?_) ?_ ?_
 rotate_left
 ·show Act.put _ (some 15) _ = _
  simp only [Act.put,L_,M_,N_,i64_w,i32_w]
  rfl
 refine one_ (i:=5) (N:=some 16) #[T,T,T,T,T,T,F,F] rfl rfl (one_of HT_.1 (by kernel_rfl)) (by decide) (fun K hK=>?_)
 refine goes_ Tryd.func77 (by kernel_rfl) rfl #[.pointer (some ⟨Aj,0,none⟩),.int .i64 Am] (by rfl) rfl rfl au_ ?_
 with_reducible refine (Aaq.calls k Aj l0 An Ao Am Au Aw Ax w _ ?side1 ?side2 A4.1).mono ?_
 (case side1=>repeat (first|(with_reducible first|exact Aa.1|apply Aaa.alloc|apply Aaa.drewN|apply Aaa.drew|apply Aaa.set_1|apply Aaa.set_2|refine Aaa.far ?_ (Aside0.out (by assumption)) _)|exact Aa.1))
 (case side2=>repeat (first|(with_reducible first|exact HB.1|apply below_alloc|apply pw_below_drewN|apply below_drew1|refine below_set ?_ (Aaa.ge Aa.1)|refine below_set ?_ (Aside0.out (by assumption)))|exact HB.1))
 rintro e w15 ⟨Be,rfl,ho0,hi,hb,hk⟩
 refine ⟨_,rfl,?_⟩
 replace Ab:=A_ (KeepBut.blk hk (g':=Ag) (o:=.cells #[.int .i64 0,.slice none 0 0] 26 (0,0)) (bl_ Ab) Ar.1 (by simp));replace Ae:=A_ (KeepBut.blk hk (g':=Ac) (o:=.cells #[.int .i64 Ad,.slice Ao12 Af.length co12] 26 (0,0)) (bl_ Ae) As.1 (by simp));have Av:=A_ (Kd.R_lower (Kd.R_new' ho0 (Kd.R_lt (rl_ Ai))) (below_size (by repeat (with_reducible first|exact HB.1|apply below_alloc|apply pw_below_drewN|apply below_drew1|refine below_set ?_ (Aaa.ge Aa.1)|refine below_set ?_ (Aside0.out (by assumption))))));replace Ai:=A_ (Kd.R_mono (Kd.R_told (Kd.R_oldK (Aaa.apart (show Aaa w _ Aj l0 An Ao from by repeat (first|(with_reducible first|exact Aa.1|apply Aaa.alloc|apply Aaa.drewN|apply Aaa.drew|apply Aaa.set_1|apply Aaa.set_2|refine Aaa.far ?_ (Aside0.out (by assumption)) _)|exact Aa.1)) (rl_ Ai) (by decide)) hk) (Kd.R_base ho0)) (fun _ h_=>h_.1));replace HB:=A_ (hb);replace Aa:=A_ (hi);(try clear hb);(try clear hb2);(try clear hk);(try clear hi);(try clear ho0);refine hK.out _ _ ⟨blk_cell Ae.1 0,blk_cell Ae.1 1⟩ (fun hHeld=>?_)
 clear hK K;refine norm_ (a':=?_) ?_ ?_
 rotate_left
 ·show Act.put _ (some 16) _ = _
  simp only [Act.put,L_,M_,N_,i64_w,i32_w]
  rfl
 refine one_ (i:=6) (N:=none) #[T,T,T,T,T,T,T,F] rfl rfl (one_of HT_.1 (by kernel_rfl)) (by decide) (fun K hK=>?_)
 have Z : w15.cell? ⟨Ag,0,none⟩ = some (.int .i64 0):=blk_cell Ab.1 0;have Z:=blk_frozen Ab.1 0;have Z:=Ah.1;have Z:=Ak.1;have Z : w15.cell? ⟨Ag,1,none⟩ = some (.slice none 0 0):=blk_cell Ab.1 1;have Z:=blk_frozen Ab.1 1;have Z:=Ah.1;have Z:=Ak.1;refine skip_ (w1:=?_) (by rfl) rfl ?_ ?_
 rotate_left
 ·go_simp
  rfl
 refine hK.out _ _ ⟨((cell_far (p:=⟨Ag,_,none⟩) Ah.1 _).trans (((cell_far (p:=⟨Ag,_,none⟩) Ah.1 _).trans (hHeld.1)))),((cell_far (p:=⟨Ag,_,none⟩) Ah.1 _).trans (((cell_far (p:=⟨Ag,_,none⟩) Ah.1 _).trans (hHeld.2))))⟩ (fun hHeld=>?_)
 clear hK K;refine pu_ (i:=7) (N:=3) #[T,T,T,T,T,T,T,T] HT_.1 rfl rfl (fun _ _ _ h=>h) rfl (h:=?_)
 refine done_ (done_of HT_.1 (by kernel_rfl)) ?_
 try go_wp2
 refine bodyPost_ret (results_ct rfl _ _ Ag 26 #[.int .i64 Ad,.slice Ao12 Af.length co12] (0,0) _ rfl (by (with_reducible repeat (first|refine blk_drewN ?_ _|refine blk_drew ?_|refine blk_alloc ?_ _));refine blk_put (cs:=#[.int .i64 Ad,.slice none 0 0]) ?_ 1 _ rfl;(with_reducible repeat (first|refine blk_drewN ?_ _|refine blk_drew ?_|refine blk_alloc ?_ _));refine blk_put (cs:=#[.int .i64 0,.slice none 0 0]) ?_ 0 _ rfl;(with_reducible repeat (first|refine blk_drewN ?_ _|refine blk_drew ?_|refine blk_alloc ?_ _));exact Ab.1) Tryd.underlying26 rfl (by kernel_rfl)) rfl ?_
 exact ⟨_,_,by first|rfl|(simp [errW_none,errW_some] <;> rfl)|(simp [*,errW_none,errW_some] <;> rfl),rq_ (Kd.R_mono (Kd.R_far (p:=⟨Ag,1,none⟩) (Kd.R_far (p:=⟨Ag,0,none⟩) (Kd.R_types Ai.1 Ab.1 (by decide)) (fun _ hk=>hk.2) (.int .i64 Ad)) (fun _ hk=>hk.2) (.slice Ao12 Af.length co12)) (fun _ hk=>hk.1.2)),rq_ (Kd.R_mono (Kd.R_far (p:=⟨Ag,1,none⟩) (Kd.R_far (p:=⟨Ag,0,none⟩) (Kd.R_types Av.1 Ab.1 (by decide)) (fun _ hk=>hk.2) (.int .i64 Ad)) (fun _ hk=>hk.2) (.slice Ao12 Af.length co12)) (fun _ hk=>hk.1.2)),by repeat (first|(with_reducible first|exact HB.1|apply below_alloc|apply pw_below_drewN|apply below_drew1|refine below_set ?_ (Aaa.ge Aa.1)|refine below_set ?_ (Aside0.out (by assumption)))|exact HB.1)⟩
def Abi.f (a0 : Int) : Option Int := if 0 ≤ a0 ∧ a0 < 18446744073709551616 then some ((Lib.ctz 64 a0.toNat : Nat) : Int) else none
set_option maxHeartbeats 1000000 in
theorem tz64_core (x k idx : Nat) (w : World) (hx0 : ((x : Int) == 0) = false)
 (key : IntKind.u64.wrap (bits BinOp.and IntKind.u64 (x : Int) (IntKind.u64.wrap (-(x : Int))) * 285870213051353865) / 288230376151711744 = (idx : Int))
 (hi : idx < 64) (hk : k < 64) (hcell : w.cell? ⟨1,idx,none⟩ = some (.int .u8 k)) :
 Calls Tryd.prog 143 #[.int .u64 x] w fun e w'=>e = .returned (.int .i64 k) ∧ w = w':=by
 go_enter Tryd.func143,Tryd.ntmps143
 go_wp2_with (simp only [key])
 go_ret
 exact ⟨rfl,rfl⟩
theorem tz64_zero (w : World) :
 Calls Tryd.prog 143 #[.int .u64 0] w fun e w'=>e = .returned (.int .i64 64) ∧ w = w':=by
 go_enter Tryd.func143,Tryd.ntmps143
 go_wp2
 go_ret
 exact ⟨rfl,rfl⟩
theorem Abi.calls (a0 : Int) (r : Int) (w : World) (hT : TabOK w) (h : Abi.f a0 = some r) :
 Calls Tryd.prog 143 #[.int .u64 a0] w fun e w'=>e = .returned (.int .i64 r) ∧ Drawn0 w w':=by
 unfold Abi.f at h
 split at h
 ·rename_i hb
  obtain ⟨x,rfl⟩:=Int.eq_ofNat_of_zero_le hb.1;injection h with h;subst h;rw [Int.toNat_natCast];by_cases hx0 : x = 0
  ·subst hx0;refine (tz64_zero w).mono ?_
   rintro e w' ⟨rfl,rfl⟩
   exact ⟨rfl,Drawn0.refl _⟩
  ·obtain ⟨hlow,hk⟩:=Lib.lowest_bit 64 x hx0 (by omega);obtain ⟨hi,htab⟩:=Lib.deBruijn64_at _ hk;have hcell:=hT _ hi;rw [htab] at hcell;refine (tz64_core x _ _ w (by simp;omega) (tz64_key x _ (by omega) hx0 hlow) hi hk hcell).mono ?_
   rintro e w' ⟨rfl,rfl⟩
   exact ⟨rfl,Drawn0.refl _⟩
 ·cases h
def Abl.f (a0 : Int) : Option (Int) := (Abi.f a0).bind fun t280 => (some t280)
set_option maxHeartbeats 8000000 in
set_option maxRecDepth 100000 in
theorem Abl.calls (a0 : Int) (r : Int) (w : World) (hT : TabOK w) (h : Abl.f a0 = some r) :
 Calls Tryd.prog 119 #[.int .u64 a0] w fun e w'=>e = .returned (.int .i64 r) ∧ Drawn0 w w':=by
 have HT:=A_ hT;clear hT;have H : ((Abi.f a0).bind fun Aa=>(some Aa)) = some r:=h;clear h;replace H:=Option.bind_eq_some_iff.mp H;obtain ⟨Aa,A20,H⟩:=H;(try dsimp only at H);have A2:=A_ A20;clear A20;obtain rfl:=Option.some.inj H;go_enter Tryd.func119,Tryd.ntmps119
 go_wp2_with (first|((with_reducible refine gate_callee (f:=143) rfl ?_);refine goesL_ (some 7) rfl rfl Tryd.func143 (by kernel_rfl) rfl #[.int .u64 a0] rfl au_ ?_;(with_reducible refine (Abi.calls a0 Aa _ ?side1 A2.1).mono ?_);(case side1=>first|exact HT.1|(repeat (first|exact HT.1|apply TabOK.drewN|apply TabOK.drew|apply TabOK.alloc)));rintro e w' ⟨rfl,⟨nd,rfl⟩⟩;refine ⟨_,rfl,?_⟩))
 go_ret
 exact ⟨by first|rfl|(simp;done)|(simp [*];done),by repeat (first|exact Drawn0.refl _|apply Drawn0.step)⟩
def Aa8.l0 : Nat → Int → List Int → Option (List Int)
 | 0,_,_=>none
 | k + 1,x0,x3=>if x0 = 0 then (some x3) else ((Abl.f (IntKind.u64.wrap (x0))).bind fun t284=>(if x3.length < 17592186044416 then (Aa8.l0 k (Go.bits .and .i64 x0 (wrap64 (x0 - 1))) (x3 ++ [t284])) else (none)))
def Aa8.f (k : Nat) (a0 : Int) : Option (List Int) := Aa8.l0 k a0 (([] : List Int))
set_option maxHeartbeats 8000000 in
set_option maxRecDepth 100000 in
theorem Aa8.calls (k : Nat) (a0 : Int) (r : List Int) (w : World) (hT : TabOK w) (h : Aa8.f k a0 = some r) :
 Calls Tryd.prog 72 #[.int .i64 a0] w fun e w'=>∃ v0_ : Value,e = .returned (v0_) ∧ Kd.R (Kd.int .i64) 3 w' w.heap.size (fun _=>True) v0_ r ∧ Below w.heap.size w w':=by
 have HT:=A_ hT;clear hT;have HB:=A_ (Below.refl w.heap.size w);have H : (Aa8.l0 k a0 (([] : List Int))) = some r:=h;clear h;obtain ⟨Ae,Aa⟩ : ∃ y_ : List Int,y_ = (([] : List Int)):=⟨_,rfl⟩;replace H : (Aa8.l0 k a0 Ae) = some r:=by first|(rw [Aa];with_reducible exact H)|(have H2_:=(Option.bind_some _ _).symm.trans H;rw [Aa];with_reducible exact H2_)|(have H2_:=(Option.bind_some _ _).symm.trans H;with_reducible exact H2_)|with_reducible exact H|(rw [Aa];exact H)|exact H
 have Ad:=A_ Aa;clear Aa;have H':=A_ H;clear H;go_enter Tryd.func72,Tryd.ntmps72
 go_wp2_with (first|((with_reducible refine gate_dst (N:=4) rfl ?_);refine Kd.R_lit (Kd.int .i64) _ 3 ?hg (N:=4) ?hd (xs:=([] : List Int)) (inner:=[]) (ok:=fun _=>True) (okp:=fun _=>True) ?hr ?hp (fun _ hk=>hk) trivial (Below.refl _ _) (Nat.le_refl _) (by simp) ?_;(case hd=>rfl);(case hg=>rfl);(case hr=>go_simp;try rfl);(case hp=>exact (Reps.none _ _));intro Aj w2 ho3 hb hg_ hnew_;clear hg_ hnew_;(first|rw [← Ad.1] at ho3|(simp only [Int.reduceToNat] at ho3;rw [← Ad.1] at ho3));have Ag:=A_ (Kd.R_lower ho3 (below_size bb_));replace HB:=A_ (below_step bb_ hb);clear hb ho3))
 go_loopg [0,3] k (fun kq v0 v3 w'=>∃ (x0_1 : Int) (x3_1 : List Int),v0 = .int .i64 x0_1 ∧ Aside0 (Aa8.l0 kq x0_1 x3_1 = some r) ∧ Aside0 (kq ≤ k) ∧ Aside0 (Kd.R (Kd.int .i64) 3 w' w.heap.size (fun _=>True) v3 x3_1) ∧ Aside0 (Below w.heap.size w w'))
 case atStart=>exact ⟨(a0),(Ae),(by first|rfl|(simp;done)|(simp [*];done)),H',⟨Nat.le_refl _⟩,⟨rl_ Ag⟩,⟨bb_⟩⟩
 case round =>
  clear H';try clear p2
  obtain ⟨x0_1,x3_1,rfl,HA,HK1,HO_3,HB⟩:=hrel;cases gk with
  | zero => exact absurd HA.1 (by simp [Aa8.l0])
  | succ k1 =>
   have H:=HA.1;clear HA;simp only [Aa8.l0] at H
   by_cases c4 : x0_1 = 0
   ·rw [if_pos c4] at H;have c4b0 : (x0_1 == 0) = true:=beq_iff_eq.mpr c4;have c4b1 : (x0_1 != 0) = false:=bne_eq_false_iff_eq.mpr c4;clear c4;obtain rfl:=Option.some.inj H;go_wp2
    go_ret
    exact ⟨_,by first|rfl|(simp [errW_none,errW_some] <;> rfl)|(simp [*,errW_none,errW_some] <;> rfl),rl_ HO_3,bb_⟩
   ·rw [if_neg c4] at H;have c4b0 : (x0_1 == 0) = false:=beq_eq_false_iff_ne.mpr c4;have c4b1 : (x0_1 != 0) = true:=bne_iff_ne.mpr c4;replace H:=Option.bind_eq_some_iff.mp H;obtain ⟨Ac,A50,H⟩:=H;(try dsimp only at H);have A5:=A_ A50;clear A50;by_cases c6 : x3_1.length < 17592186044416
    ·rw [if_pos c6] at H;have LMc6:=A_ c6;clear c6;obtain ⟨Af,Ab⟩ : ∃ y_ : List Int,y_ = (x3_1 ++ [Ac]):=⟨_,rfl⟩;replace H : (Aa8.l0 k1 (Go.bits .and .i64 x0_1 (wrap64 (x0_1 - 1))) Af) = some r:=by first|(rw [Ab];with_reducible exact H)|(have H2_:=(Option.bind_some _ _).symm.trans H;rw [Ab];with_reducible exact H2_)|(have H2_:=(Option.bind_some _ _).symm.trans H;with_reducible exact H2_)|with_reducible exact H|(rw [Ab];exact H)|exact H
     have Ah:=A_ Ab;clear Ab;have H':=A_ H;clear H;go_wp2_with (first|((with_reducible refine gate_callee (f:=119) rfl ?_);refine goesL_ (some 14) rfl rfl Tryd.func119 (by kernel_rfl) rfl #[.int .u64 (IntKind.u64.wrap (x0_1))] rfl au_ ?_;(with_reducible refine (Abl.calls (IntKind.u64.wrap (x0_1)) Ac _ ?side1 A5.1).mono ?_);(case side1=>first|exact HT.1|exact HT.1.below bb_|(repeat (first|exact HT.1|apply TabOK.drewN|apply TabOK.drew|apply TabOK.alloc)));rintro e w' ⟨rfl,⟨nd,rfl⟩⟩;refine ⟨_,rfl,?_⟩)|((with_reducible refine gate_builtin (b:=.append) (xs:=#[.tmp 11,.tmp 15]) rfl ?_);at_builtin;refine Kd.R_append (Kd.int .i64) (w0:=w) w.heap.size rfl (.tmp 11) (.tmp 15) 24 3 (.int .i64 0) 8 rfl Tryd.underlying24 info3 rfl (by decide) (by omega) u3 x3_1 Ac [.int .i64 Ac] (fun _=>True) (fun _=>False) rfl rfl ?aP (fun _ hk=>hk.elim) ?aF ?aO ?aB ?aS ?aL ?_;(case aP=>exact rfl);(case aB=>exact bb_);(case aF=>exact (fun _ _=>trivial));(case aO=>exact (rl_ HO_3));(case aS=>exact (below_size bb_));(case aL=>have:=LMc6.1;omega);intro Ak w7 ho hb hg hat;rw [← Ah.1] at ho;replace HB:=A_ (hb);have Ai:=A_ (ho);clear HO_3;clear ho hb hg hat))
     go_roundg k1
     case measure=>have:=HK1.1;omega
     case rel=>exact ⟨(Go.bits .and .i64 x0_1 (wrap64 (x0_1 - 1))),(Af),(by first|rfl|(simp;done)|(simp [*];done)),H',⟨by have:=HK1.1;omega⟩,⟨rl_ Ai⟩,⟨bb_⟩⟩
    ·rw [if_neg c6] at H;exact absurd H (by simp)
def Aa3.l0 : Nat → List Int → Int → Int → List Int → Int → Int → Option (Bool)
 | 0,_,_,_,_,_,_=>none
 | k + 1,x0,x1,x5,x13,x14,x15=>if x15 < x14 then (if 0 ≤ x15 then (if x15 < (x13.length : Int) then (if 0 ≤ (rd x13 x15) then (Aa3.l0 k x0 x1 (Go.bits .or .i64 x5 (shl .i64 1 (rd x13 x15))) x13 x14 (wrap64 (x15 + 1))) else (none)) else (none)) else (none)) else (if (x0.length : Int) = x1 then (if 0 ≤ x1 then (some (x5 == (wrap64 ((shl .i64 1 x1) - 1)))) else (none)) else (some false))
def Aa3.f (k : Nat) (l0 : List Int) (a1 : Int) : Option (Bool) := (Aaw.f k l0 0 (wrap64 (a1 - 1))).bind fun t640 => (if t640 = true then (Aa3.l0 k l0 a1 0 l0 (l0.length : Int) 0) else (some false))
set_option maxHeartbeats 8000000 in
set_option maxRecDepth 100000 in
theorem Aa3.calls (k : Nat) (A0 : Option Addr) (c0 : Nat) (l0 : List Int) (a1 : Int) (r : Bool) (w : World) (hr0 : Kd.C (Kd.int .i64) w A0 l0.length l0) (hc0 : l0.length ≤ c0) (h : Aa3.f k l0 a1 = some r) :
 Calls Tryd.prog 85 #[.slice A0 l0.length c0,.int .i64 a1] w fun e w'=>e = .returned (.bool r) ∧ Drawn0 w w':=by
 have HR0:=A_ hr0;have HC0:=A_ hc0;clear hr0 hc0;have H : ((Aaw.f k l0 0 (wrap64 (a1 - 1))).bind fun Aa=>(if Aa = true then (Aa3.l0 k l0 a1 0 l0 (l0.length : Int) 0) else (some false))) = some r:=h;clear h;replace H:=Option.bind_eq_some_iff.mp H;obtain ⟨Aa,A30,H⟩:=H;(try dsimp only at H);have A3:=A_ A30;clear A30;by_cases c4 : Aa = true
 ·subst c4;rw [if_pos rfl] at H;have H':=A_ H;clear H;go_enter Tryd.func85,Tryd.ntmps85
  go_wp2_with (first|((with_reducible refine gate_callee (f:=115) rfl ?_);refine goesL_ (some 11) rfl rfl Tryd.func115 (by kernel_rfl) rfl #[.slice A0 l0.length c0,.int .i64 0,.int .i64 (wrap64 (a1 - 1))] rfl au_ ?_;(with_reducible refine (Aaw.calls k _ _ l0 0 (wrap64 (a1 - 1)) true _ ?side1 ?side2 A3.1).mono ?_);(case side1=>repeat (first|exact HR0.1|(with_reducible refine Kd.C_alloc ?_ _)|(with_reducible refine Kd.C_drewN ?_ _)|(with_reducible refine Kd.C_drew ?_)));(case side2=>exact HC0.1);rintro e w' ⟨rfl,⟨nd,rfl⟩⟩;refine ⟨_,rfl,?_⟩))
  go_loopg [5,15] k (fun kq v5 v15 w'=>∃ (x5_1 : Int) (x15_1 : Int),v5 = .int .i64 x5_1 ∧ v15 = .int .i64 x15_1 ∧ Aside0 (Aa3.l0 kq l0 a1 x5_1 l0 (l0.length : Int) x15_1 = some r) ∧ Aside0 (kq ≤ k) ∧ Drawn0 w w')
  case atStart=>exact ⟨(0),(0),(by first|rfl|(simp;done)|(simp [*];done)),(by first|rfl|(simp;done)|(simp [*];done)),H',⟨Nat.le_refl _⟩,by repeat (first|exact Drawn0.refl _|apply Drawn0.step)⟩
  case round =>
   clear H';try clear c1
   try clear p2
   try clear c4
   obtain ⟨x5_1,x15_1,rfl,rfl,HA,HK1,⟨m1,rfl⟩⟩:=hrel;cases gk with
   | zero=>exact absurd HA.1 (by simp [Aa3.l0])
   | succ k1 =>
    have H:=HA.1;clear HA;simp only [Aa3.l0] at H
    by_cases c5 : x15_1 < (l0.length : Int)
    ·rw [if_pos c5] at H;have c5b0 : decide (x15_1 < (l0.length : Int)) = true:=decide_eq_true c5;clear c5;by_cases c6 : 0 ≤ x15_1
     ·rw [if_pos c6] at H;have c6b0 : decide (0 ≤ x15_1) = true:=decide_eq_true c6;clear c6;by_cases c7 : x15_1 < (l0.length : Int)
      ·rw [if_pos c7] at H;have c7b0 : decide (x15_1 < (l0.length : Int)) = true:=decide_eq_true c7;clear c7;by_cases c8 : 0 ≤ (rd l0 x15_1)
       ·rw [if_pos c8] at H;have c8b0:=eq_true c8;have c8b1 : decide (0 ≤ (rd l0 x15_1)) = true:=decide_eq_true c8;clear c8;obtain ⟨ji9,hji9⟩ : ∃ j_ : Int,(shl .i64 1 (rd l0 x15_1)) = j_:=⟨_,rfl⟩;replace H : (Aa3.l0 k1 l0 a1 (Go.bits .or .i64 x5_1 (ji9)) l0 (l0.length : Int) (wrap64 (x15_1 + 1))) = some r:=by first|(rw [hji9] at H;exact H)|(simp only [hji9] at H ⊢;exact H)
        have hji9_ : (IntKind.i64.wrap (1 * 2 ^ min (rd l0 x15_1).toNat 64)) = ji9:=hji9;have hji9z : (rd l0 x15_1) ≤ 64 → (IntKind.i64.wrap (1 * 2 ^ (rd l0 x15_1).toNat)) = ji9:=shl_small hji9;have hji9u : (IntKind.i64.wrap (2 ^ min (rd l0 x15_1).toNat 64)) = ji9:=by have h_:=hji9_;rw [Int.one_mul] at h_;exact h_
        have hji9v : (rd l0 x15_1) ≤ 64 → (IntKind.i64.wrap (2 ^ (rd l0 x15_1).toNat)) = ji9:=fun hle_=>by have h_:=hji9z hle_;rw [Int.one_mul] at h_;exact h_
        have hji9y : (wrap64 (1 * 2 ^ min (rd l0 x15_1).toNat 64)) = ji9:=(i64_w _).symm.trans hji9_;have hji9x : (rd l0 x15_1) ≤ 64 → (wrap64 (1 * 2 ^ (rd l0 x15_1).toNat)) = ji9:=fun h_=>(i64_w _).symm.trans (hji9z h_)
        have H':=A_ H;clear H;have Ab : 0 ≤ (x15_1 : Int):=of_decide_eq_true (by first|(with_reducible assumption)|assumption);have Ac : x15_1 < (l0.length : Int):=of_decide_eq_true (by first|(with_reducible assumption)|assumption);obtain ⟨Af,Ad,Ae⟩:=Kd.at_int HR0.1 x15_1 Ab Ac;cases Ad
        replace Ab:=eq_true Ab;replace Ac:=eq_true Ac;go_wp2
        go_roundg k1
        case measure=>have:=HK1.1;omega
        case rel=>exact ⟨(Go.bits .or .i64 x5_1 (ji9)),(wrap64 (x15_1 + 1)),(by first|rfl|(simp;done)|(simp only [← hji9] <;> (first|rfl|simp))|(simp [*];done)),(by first|rfl|(simp;done)|(simp [*];done)),H',⟨by have:=HK1.1;omega⟩,by repeat (first|exact Drawn0.refl _|apply Drawn0.step)⟩
       ·rw [if_neg c8] at H;exact absurd H (by simp)
      ·rw [if_neg c7] at H;exact absurd H (by simp)
     ·rw [if_neg c6] at H;exact absurd H (by simp)
    ·rw [if_neg c5] at H;have c5b0 : decide (x15_1 < (l0.length : Int)) = false:=decide_eq_false c5;clear c5;by_cases c10 : (l0.length : Int) = a1
     ·rw [if_pos c10] at H;have c10b0 : ((l0.length : Int) == a1) = true:=beq_iff_eq.mpr c10;have c10b1 : ((l0.length : Int) != a1) = false:=bne_eq_false_iff_eq.mpr c10;clear c10;by_cases c11 : 0 ≤ a1
      ·rw [if_pos c11] at H;have c11b0:=eq_true c11;have c11b1 : decide (0 ≤ a1) = true:=decide_eq_true c11;clear c11;obtain ⟨ji12,hji12⟩ : ∃ j_ : Int,(shl .i64 1 a1) = j_:=⟨_,rfl⟩;replace H : (some (x5_1 == (wrap64 ((ji12) - 1)))) = some r:=by first|(rw [hji12] at H;exact H)|(simp only [hji12] at H ⊢;exact H)
       have hji12_ : (IntKind.i64.wrap (1 * 2 ^ min a1.toNat 64)) = ji12:=hji12;have hji12z : a1 ≤ 64 → (IntKind.i64.wrap (1 * 2 ^ a1.toNat)) = ji12:=shl_small hji12;have hji12u : (IntKind.i64.wrap (2 ^ min a1.toNat 64)) = ji12:=by have h_:=hji12_;rw [Int.one_mul] at h_;exact h_
       have hji12v : a1 ≤ 64 → (IntKind.i64.wrap (2 ^ a1.toNat)) = ji12:=fun hle_=>by have h_:=hji12z hle_;rw [Int.one_mul] at h_;exact h_
       have hji12y : (wrap64 (1 * 2 ^ min a1.toNat 64)) = ji12:=(i64_w _).symm.trans hji12_;have hji12x : a1 ≤ 64 → (wrap64 (1 * 2 ^ a1.toNat)) = ji12:=fun h_=>(i64_w _).symm.trans (hji12z h_)
       obtain rfl:=Option.some.inj H;go_wp2
       go_ret
       exact ⟨by first|rfl|(simp;done)|(simp only [← hji12] <;> (first|rfl|simp))|(simp [*];done),by repeat (first|exact Drawn0.refl _|apply Drawn0.step)⟩
      ·rw [if_neg c11] at H;exact absurd H (by simp)
     ·rw [if_neg c10] at H;have c10b0 : ((l0.length : Int) == a1) = false:=beq_eq_false_iff_ne.mpr c10;have c10b1 : ((l0.length : Int) != a1) = true:=bne_iff_ne.mpr c10;obtain rfl:=Option.some.inj H;go_wp2
      go_ret
      exact ⟨by first|rfl|(simp;done)|(simp [*];done),by repeat (first|exact Drawn0.refl _|apply Drawn0.step)⟩
 ·replace c4:=Bool.eq_false_iff.mpr c4;subst c4;rw [if_neg nf_] at H;obtain rfl:=Option.some.inj H;go_enter Tryd.func85,Tryd.ntmps85
  go_wp2_with (first|((with_reducible refine gate_callee (f:=115) rfl ?_);refine goesL_ (some 11) rfl rfl Tryd.func115 (by kernel_rfl) rfl #[.slice A0 l0.length c0,.int .i64 0,.int .i64 (wrap64 (a1 - 1))] rfl au_ ?_;(with_reducible refine (Aaw.calls k _ _ l0 0 (wrap64 (a1 - 1)) false _ ?side1 ?side2 A3.1).mono ?_);(case side1=>repeat (first|exact HR0.1|(with_reducible refine Kd.C_alloc ?_ _)|(with_reducible refine Kd.C_drewN ?_ _)|(with_reducible refine Kd.C_drew ?_)));(case side2=>exact HC0.1);rintro e w' ⟨rfl,⟨nd,rfl⟩⟩;refine ⟨_,rfl,?_⟩))
  go_ret
  exact ⟨by first|rfl|(simp;done)|(simp [*];done),by repeat (first|exact Drawn0.refl _|apply Drawn0.step)⟩
end Go.Proofs.YtfjpilcmjabikaaDoor.P

