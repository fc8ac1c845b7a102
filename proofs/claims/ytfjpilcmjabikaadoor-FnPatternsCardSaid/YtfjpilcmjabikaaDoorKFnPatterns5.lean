/- A part of the proof that the law FnPatterns holds at every input. Written by wip/pack.py: the kit's printed words that are used, the functions' walks as wip/gen.py prints them, and hand proofs. -/
import Derived.Test.YtfjpilcmjabikaaDoorKFnPatterns4
namespace Go.Proofs.YtfjpilcmjabikaaDoor.P
open Go.RowKit Go.Proofs.YtfjpilcmjabikaaDoorW.PrintWords Go.Proofs.YtfjpilcmjabikaaDoorW.PrintLast Go.Proofs.YtfjpilcmjabikaaDoorW.PrintMore
open Bool renaming true → T, false → F
open List renaming setIfInBounds_toArray → L_, set_cons_zero → M_, set_cons_succ → N_, map_toArray → P_, map_cons → Q_, map_nil → R_, length_drop → S_, length_take → U_
open Aside0 renaming mk → A_
attribute [local go_sem] max2_int min2_int max_two min_two max_three min_three max_four min_four
set_option linter.unusedVariables false
set_option linter.unusedSimpArgs false
attribute [local go_sem] fldOrder_0 fldOrder_1
mutual
def Aag.j0 : Nat → List Int → Bool → Int → List Int → Option (Int × List Int × Bool)
 | 0,_,_,_,_=>none
 | k + 1,x1,x20,x643000,x643001=>if x20 = true then (some (0,([] : List Int),false)) else (if 0 ≤ x643000 then (if (x643000 : Int).toNat ≤ 35184372088832 then (Aag.l0 k x1 x643001 (x643001.length : Int) 0 x643000 (List.replicate (x643000 : Int).toNat 0)) else (none)) else (none))
def Aag.l0 : Nat → List Int → List Int → Int → Int → Int → List Int → Option (Int × List Int × Bool)
 | 0,_,_,_,_,_,_=>none
 | k + 1,x1,x29,x30,x31,x650000,x650001=>if x31 < x30 then (if 0 ≤ x31 then (if x31 < (x29.length : Int) then ((Aa8.f k (rd x29 x31)).bind fun t651=>(Aag.l1 k x1 x31 x29 x30 x31 t651 (t651.length : Int) 0 x650000 x650001)) else (none)) else (none)) else (some (x650000,x650001,true))
def Aag.l1 : Nat → List Int → Int → List Int → Int → Int → List Int → Int → Int → Int → List Int → Option (Int × List Int × Bool)
 | 0,_,_,_,_,_,_,_,_,_,_=>none
 | k + 1,x1,x7,x29,x30,x31,x37,x38,x39,x650000,x650001=>if x39 < x38 then (if 0 ≤ x39 then (if x39 < (x37.length : Int) then (if 0 ≤ x7 then (if x7 < (x1.length : Int) then (if 0 ≤ (rd x1 x7) then (if (rd x1 x7) < (x650001.length : Int) then (if 0 ≤ (rd x37 x39) then (if (rd x37 x39) < (x1.length : Int) then (if 0 ≤ (rd x1 (rd x37 x39)) then (Aag.l1 k x1 x7 x29 x30 x31 x37 x38 (wrap64 (x39 + 1)) x650000 (x650001.set ((rd x1 x7) : Int).toNat (Go.bits .or .i64 (rd x650001 (rd x1 x7)) (shl .i64 1 (rd x1 (rd x37 x39)))))) else (none)) else (none)) else (none)) else (none)) else (none)) else (none)) else (none)) else (none)) else (none)) else (Aag.l0 k x1 x29 x30 (wrap64 (x31 + 1)) x650000 x650001)
end
def Aag.f (k : Nat) (a0_0 : Int) (l0_1 : List Int) (l1 : List Int) : Option (Int × List Int × Bool) := (Aal.f k a0_0 l0_1).bind fun t644 => (if t644 = true then ((Aa3.f k l1 a0_0).bind fun t645 => (Aag.j0 k l1 (!t645) a0_0 l0_1)) else (Aag.j0 k l1 true a0_0 l0_1))
def Aag.T3 : Bool × List (List Nat × List Nat) := (true, [([], []), ([0], [0]), ([], []), ([2], [2]), ([3, 3], [3]), ([1, 4], [1, 4]), ([], []), ([6, 5, 0, 1, 2, 3, 4, 5, 6], [5, 6])])
def Aag.B3 : List Nat := [0, 1, 0, 4, 12, 31, 0, 127]
theorem Aag.tab3 : rtab .any (opsOf Tryd.f27 3) = Aag.T3:=by kernel_rfl
theorem Aag.bits3 : waitsOk Aag.T3.2 Aag.B3 = true:=by kernel_rfl
def Aag.T10 : Bool × List (List Nat × List Nat) := (true, [([], []), ([0], [0]), ([], []), ([], []), ([2, 3], [2, 3]), ([4], [4]), ([1, 5], [1, 5]), ([6], [6]), ([], []), ([], []), ([8, 9], [8, 9]), ([10], [10]), ([11], [11]), ([7, 12], [7, 12]), ([1, 5, 0, 1, 2, 3, 4, 5, 6, 7, 8, 9, 10, 11, 12, 13], [1, 5]), ([14, 13, 0, 1, 2, 3, 4, 5, 6, 7, 8, 9, 10, 11, 12, 13], [13, 14])])
def Aag.B10 : List Nat := [0, 1, 0, 0, 12, 28, 63, 127, 0, 0, 768, 1792, 3840, 8191, 16383, 32767]
theorem Aag.tab10 : rtab .any (opsOf Tryd.f27 10) = Aag.T10:=by kernel_rfl
theorem Aag.bits10 : waitsOk Aag.T10.2 Aag.B10 = true:=by kernel_rfl
set_option maxHeartbeats 8000000 in
set_option maxRecDepth 100000 in
theorem Aag.calls (k : Nat) (a0_0 : Int) (A0_1 : Option Addr) (c0_1 : Nat) (l0_1 : List Int) (A1 : Option Addr) (c1 : Nat) (l1 : List Int) (r1 : Int) (r2 : List Int) (r3 : Bool) (w : World) (hr0_1 : Kd.C (Kd.int .i64) w A0_1 l0_1.length l0_1) (hc0_1 : l0_1.length ≤ c0_1) (hr1 : Kd.C (Kd.int .i64) w A1 l1.length l1) (hc1 : l1.length ≤ c1) (hT : TabOK w) (h : Aag.f k a0_0 l0_1 l1 = some (r1,r2,r3)) :
 Calls Tryd.prog 27 #[.agg #[.int .i64 a0_0,.slice A0_1 l0_1.length c0_1],.slice A1 l1.length c1] w fun e w'=>∃ v1_ : Value,e = .returned (.tuple #[.agg #[.int .i64 r1,v1_],.bool r3]) ∧ Kd.R (Kd.int .i64) 3 w' w.heap.size (fun _=>True) v1_ r2 ∧ Below w.heap.size w w':=by
 have hu26:=Tryd.underlying26;have HT:=A_ hT;clear hT;have HR0_1:=A_ hr0_1;have HC0_1:=A_ hc0_1;clear hr0_1 hc0_1;have HR1:=A_ hr1;have HC1:=A_ hc1;clear hr1 hc1;have HB:=A_ (Below.refl w.heap.size w);have H : ((Aal.f k a0_0 l0_1).bind fun Be=>(if Be = true then ((Aa3.f k l1 a0_0).bind fun Au=>(Aag.j0 k l1 (!Au) a0_0 l0_1)) else (Aag.j0 k l1 true a0_0 l0_1))) = some (r1,r2,r3):=h;clear h;have HC3:=A_ H;clear H;go_enter Tryd.func27,Tryd.ntmps27
 go_upto_region 1 with (first|((with_reducible refine gate_dst (N:=2) rfl ?_);refine box_event ?hg (N:=2) ?hd (cs:=#[.int .i64 a0_0,.slice A0_1 l0_1.length c0_1]) (t:=26) ?hr ?_;(case hd=>rfl);(case hg=>rfl);(case hr=>go_simp;try rfl);intro Aj hg w4 hbox hb;have Aa:=A_ (hbox);have Ca:=A_ (gw_ (w:=w) hg bb_);have Cb:=A_ (gw_ (w:=w) hg bb_);replace HB:=A_ (below_step bb_ hb);clear hb hbox hg)|((with_reducible refine gate_dst (N:=4) rfl ?_);refine box_event ?hg (N:=4) ?hd (cs:=#[.int .i64 0,.slice none 0 0]) (t:=26) ?hr ?_;(case hd=>rfl);(case hg=>rfl);(case hr=>go_simp;try rfl);intro An hg w5 hbox hb;have Ab:=A_ (hbox);have Cc:=A_ (gw_ (w:=w) hg bb_);have Cd:=A_ (gw_ (w:=w) hg bb_);replace HB:=A_ (below_step bb_ hb);have Ap:=A_ (nl_ hg Aa);have Aq:=A_ (ng_ hg Aa);replace Aa:=bz Aa hb;clear hb hbox hg))
 (try simp only [Act.put,L_,M_,N_]);go_cut [20] (fun v20 wc=>∃ (kq : Nat) (x20_2 : Bool),v20 = .bool x20_2 ∧ Aside0 (Aag.j0 kq l1 x20_2 a0_0 l0_1 = some (r1,r2,r3)) ∧ Aside0 (kq ≤ k) ∧ Aside0 (wc.heap[Aj]? = some (.cells #[.int .i64 a0_0,(.slice A0_1 l0_1.length c0_1)] 26 (0,0))) ∧ Aside0 (wc.heap[An]? = some (.cells #[.int .i64 0,(.slice none 0 0)] 26 (0,0))) ∧ Aside0 (Below w.heap.size w wc))
 case first =>
  have H:=HC3.1;clear HC3;replace H:=Option.bind_eq_some_iff.mp H;obtain ⟨Be,A60,H⟩:=H;replace H : (if Be = true then ((Aa3.f k l1 a0_0).bind fun Au=>(Aag.j0 k l1 (!Au) a0_0 l0_1)) else (Aag.j0 k l1 true a0_0 l0_1)) = some (r1,r2,r3):=H;have A6:=A_ A60;clear A60;by_cases c7 : Be = true
  ·subst c7;have H1 : ((Aa3.f k l1 a0_0).bind fun Au=>(Aag.j0 k l1 (!Au) a0_0 l0_1)) = some (r1,r2,r3):=by rw [if_pos rfl] at H;exact H
   clear H;have H:=H1;clear H1;replace H:=Option.bind_eq_some_iff.mp H;obtain ⟨Au,A80,H⟩:=H;replace H : (Aag.j0 k l1 (!Au) a0_0 l0_1) = some (r1,r2,r3):=H;have A8:=A_ A80;clear A80;have H':=A_ H;clear H;have Z:=Ap.1;have Z:=Aq.1;obtain ⟨Z,Z,Z,Z⟩:=o2_ Aa.1;go_wp2_with (first|((with_reducible refine gate_callee (f:=61) rfl ?_);refine goesL_ (some 12) rfl rfl Tryd.func61 (by kernel_rfl) rfl #[.agg #[.int .i64 a0_0,.slice A0_1 l0_1.length c0_1]] rfl au_ ?_;(with_reducible refine (Aal.calls k a0_0 _ _ l0_1 true _ ?side1 ?side2 A6.1).mono ?_);(case side1=>exact cl_ (Kd.C_below HR0_1.1 HB.1));(case side2=>exact HC0_1.1);rintro e w11 ⟨rfl,hb⟩;refine ⟨_,rfl,?_⟩;replace Aa:=bz Aa hb;replace Ab:=bz Ab hb;replace HB:=A_ (below_step bb_ hb);(try clear hb);(try clear hb2);(try clear hk);(try clear hi);obtain ⟨Z,Z,Z,Z⟩:=o2_ Aa.1)|(go_at_call 85;(with_reducible refine (Aa3.calls k _ _ l1 a0_0 Au _ ?side1 ?side2 A8.1).mono ?_);(case side1=>exact cl_ (Kd.C_below HR1.1 HB.1));(case side2=>exact HC1.1);rintro e w' ⟨rfl,⟨nd,rfl⟩⟩))
   go_meet
   case rel=>exact ⟨_,(!Au),(by first|rfl|(simp;done)|(simp [*];done)),H',⟨by first|omega|exact Nat.le_refl _⟩,⟨bl_ Aa⟩,⟨bl_ Ab⟩,⟨bb_⟩⟩
  ·replace c7:=Bool.eq_false_iff.mpr c7;subst c7;have H1 : (Aag.j0 k l1 true a0_0 l0_1) = some (r1,r2,r3):=by rw [if_neg (show ¬ (false = true) by decide)] at H;exact H
   clear H;have H:=H1;clear H1;have H':=A_ H;clear H;have Z:=Ap.1;have Z:=Aq.1;obtain ⟨Z,Z,Z,Z⟩:=o2_ Aa.1;go_wp2_with (first|((with_reducible refine gate_callee (f:=61) rfl ?_);refine goesL_ (some 12) rfl rfl Tryd.func61 (by kernel_rfl) rfl #[.agg #[.int .i64 a0_0,.slice A0_1 l0_1.length c0_1]] rfl au_ ?_;(with_reducible refine (Aal.calls k a0_0 _ _ l0_1 false _ ?side1 ?side2 A6.1).mono ?_);(case side1=>exact cl_ (Kd.C_below HR0_1.1 HB.1));(case side2=>exact HC0_1.1);rintro e w15 ⟨rfl,hb⟩;refine ⟨_,rfl,?_⟩;replace Aa:=bz Aa hb;replace Ab:=bz Ab hb;replace HB:=A_ (below_step bb_ hb);(try clear hb);(try clear hb2);(try clear hk);(try clear hi)))
   go_meet
   case rel=>exact ⟨_,(true),(by first|rfl|(simp;done)|(simp [*];done)),H',⟨by first|omega|exact Nat.le_refl _⟩,⟨bl_ Aa⟩,⟨bl_ Ab⟩,⟨bb_⟩⟩
 case rest =>
  clear HC3;try clear c1
  try clear c2
  try clear p2
  try clear c6
  try clear c7
  try clear c9
  try clear c13
  repeat clear Z
  obtain ⟨kq,x20_2,rfl,HA,HJ2,Aa,Ab,HB⟩:=hcut;cases kq with
  | zero => exact absurd HA.1 (by simp [Aag.j0])
  | succ kj2 =>
   have H:=HA.1;clear HA;simp only [Aag.j0] at H
   by_cases c16 : x20_2 = true
   ·subst c16;have H1 : (some (0,([] : List Int),false)) = some (r1,r2,r3):=by rw [if_pos rfl] at H;exact H
    clear H;have H:=H1;clear H1;simp only [Option.some.injEq,Prod.mk.injEq] at H
    obtain ⟨rfl,rfl,rfl⟩:=H;have Z:=Aq.1;have Z:=Ap.1;obtain ⟨Z,Z,Z,Z⟩:=o2_ Ab.1;go_wp2
    refine bodyPost_ret (results_ct rfl _ _ An 26 #[.int .i64 0,.slice none 0 0] (0,0) _ rfl (by (with_reducible repeat (first|refine blk_drewN ?_ _|refine blk_drew ?_|refine blk_alloc ?_ _));refine blk_put (cs:=#[.int .i64 0,.slice none 0 0]) ?_ 1 _ rfl;(with_reducible repeat (first|refine blk_drewN ?_ _|refine blk_drew ?_|refine blk_alloc ?_ _));refine blk_put (cs:=#[.int .i64 0,.slice none 0 0]) ?_ 0 _ rfl;(with_reducible repeat (first|refine blk_drewN ?_ _|refine blk_drew ?_|refine blk_alloc ?_ _));exact Ab.1) Tryd.underlying26 rfl (by kernel_rfl)) rfl ?_
    exact ⟨_,by first|rfl|(simp [errW_none,errW_some] <;> rfl)|(simp [*,errW_none,errW_some] <;> rfl),by first|exact Kd.R_nil _ _ _ _ _|exact Kd.N_nil _ _ _ _ _|exact Kd.V_nil _ _ _ _ _|exact Kd.Q_nil _ _ _ _ _|exact Kd.S_nil _ _ _ _ _,bb_⟩
   ·replace c16:=Bool.eq_false_iff.mpr c16;subst c16;have H1 : (if 0 ≤ a0_0 then (if (a0_0 : Int).toNat ≤ 35184372088832 then (Aag.l0 kj2 l1 l0_1 (l0_1.length : Int) 0 a0_0 (List.replicate (a0_0 : Int).toNat 0)) else (none)) else (none)) = some (r1,r2,r3):=by rw [if_neg (show ¬ (false = true) by decide)] at H;exact H
    clear H;have H:=H1;clear H1;by_cases c19 : 0 ≤ a0_0
    ·rw [if_pos c19] at H;have c19b0:=eq_true c19;have c19b1 : decide (0 ≤ a0_0) = true:=decide_eq_true c19;clear c19;by_cases c20 : (a0_0 : Int).toNat ≤ 35184372088832
     ·rw [if_pos c20] at H;have c20b0:=eq_true c20;have c20b1 : decide ((a0_0 : Int).toNat ≤ 35184372088832) = true:=decide_eq_true c20;clear c20;obtain ⟨Av,Ax⟩ : ∃ y_ : List Int,y_ = (List.replicate (a0_0 : Int).toNat 0):=⟨_,rfl⟩;replace H : (Aag.l0 kj2 l1 l0_1 (l0_1.length : Int) 0 a0_0 Av) = some (r1,r2,r3):=by first|(rw [Ax];with_reducible exact H)|(have H2_:=(Option.bind_some _ _).symm.trans H;rw [Ax];with_reducible exact H2_)|(have H2_:=(Option.bind_some _ _).symm.trans H;with_reducible exact H2_)|with_reducible exact H|(rw [Ax];exact H)|exact H
      have A9:=A_ Ax;clear Ax;have H':=A_ H;clear H;try go_wp2
      replace Aa:=A_ (blk_drew Aa.1);replace Ab:=A_ (blk_drew Ab.1);replace HB:=A_ (below_drew1 HB.1);refine start_ (n:=8) (S:=fun w'=>w'.cell? ⟨Aj,0,none⟩ = some (.int .i64 a0_0) ∧ w'.cell? ⟨Aj,1,none⟩ = some (.slice A0_1 l0_1.length c0_1)) (ds:=[]) #[F,F,F,F,F,F,F,F] (by kernel_rfl) rfl rfl ⟨blk_cell Aa.1 0,blk_cell Aa.1 1⟩ (fun hHeld=>?_);refine with_tabW Aag.tab3 Aag.bits3 (fun HT_ HW_=>?_)
      generalize wc.drew = w21 at Aa Ab HB hHeld ⊢
      refine pu_ (i:=0) (N:=22) #[T,F,F,F,F,F,F,F] HT_.1 rfl rfl (fun _ _ _ h=>h) rfl (h:=?_)
      refine pu_ (i:=2) (N:=24) #[T,F,T,F,F,F,F,F] HT_.1 rfl rfl (fun _ _ _ h=>h) rfl (h:=?_)
      refine take_ (i:=1) (N:=some 23) (v:=?_) (a':=?_) #[T,T,T,F,F,F,F,F] rfl rfl (take_ofW HT_.1 HW_.1 (by kernel_rfl)) (fun _ _ _ h=>h) (Or.inl ⟨by rfl,?_⟩) hHeld ?_ ?_
      rotate_left
      ·rintro w' ⟨s0,s1⟩
       go_simp
       with_reducible rfl
      rotate_left;·simp only [Act.put,L_,M_,N_,i64_w,i32_w];rfl
      refine take_ (i:=3) (N:=some 25) (v:=?_) (a':=?_) #[T,T,T,T,F,F,F,F] rfl rfl (take_ofW HT_.1 HW_.1 (by kernel_rfl)) (fun _ _ _ h=>h) (Or.inl ⟨by rfl,?_⟩) hHeld ?_ ?_
      rotate_left
      ·rintro w' ⟨s0,s1⟩
       go_simp
       with_reducible rfl
      rotate_left;·simp only [Act.put,L_,M_,N_,i64_w,i32_w];rfl
      refine join_ (σ:=Value × Nat) 1 #[T,T,T,T,T,T,T,F] (fun s_=>[(26,s_.1),(6,.pointer (some ⟨s_.2,0,none⟩)),(27,.agg #[.int .i64 a0_0,s_.1])]) (fun s_ w'=>(w'.cell? ⟨Aj,0,none⟩ = some (.int .i64 a0_0) ∧ w'.cell? ⟨Aj,1,none⟩ = some (.slice A0_1 l0_1.length c0_1)) ∧ (Kd.R (Kd.int .i64) 3 w' w.heap.size (fun _=>True) s_.1 Av) ∧ (w'.heap[Aj]? = some (.cells #[.int .i64 a0_0,.slice A0_1 l0_1.length c0_1] 26 (0,0))) ∧ (w'.heap[An]? = some (.cells #[.int .i64 0,.slice none 0 0] 26 (0,0))) ∧ (w'.heap[s_.2]? = some (.cells #[.int .i64 0,.slice none 0 0] 26 (0,0))) ∧ (w.heap.size ≤ s_.2) ∧ (w.heap.size ≤ s_.2) ∧ (Aj ≠ s_.2) ∧ (s_.2 ≠ Aj) ∧ (An ≠ s_.2) ∧ (s_.2 ≠ An) ∧ (Below w.heap.size w w')) ?_ ?_
      rotate_left
      ·intro hCont
       refine two_ (i:=4) (j:=6) (Ni:=some 26) (Nj:=some 6) #[T,T,T,T,T,F,F,F] #[T,T,T,T,F,F,T,F] rfl rfl rfl rfl (two_of HT_.1 (by kernel_rfl)) (by decide) (by decide) (fun K hK=>?_) (fun K hK=>?_)
       ·skip
        refine Kd.R_make_step (Kd.int .i64) _ 3 (by rfl) (N:=26) rfl 24 _ _ rfl a0_0 rfl rfl Tryd.underlying24 (.int .i64 0) 8 info3 rfl (by decide) (by omega) 0 (ok:=fun _=>True) (okp:=fun _=>True) rfl (fun _ hk=>hk) trivial (of_decide_eq_true (by first|(with_reducible assumption)|assumption)) (Nat.le_trans (Nat.mul_le_mul_right _ (of_decide_eq_true (by first|(with_reducible assumption)|assumption) : a0_0.toNat ≤ 35184372088832)) (by omega)) (Below.refl _ _) (Nat.le_refl _) ?_
        intro Bi w22 ho23 hb hg_ hnew_
        clear hg_ hnew_;(first|rw [← A9.1] at ho23|(simp only [Int.reduceToNat] at ho23;rw [← A9.1] at ho23))
        have Ao:=A_ (Kd.R_lower ho23 (below_size bb_));replace Aa:=bz Aa hb;replace Ab:=bz Ab hb;replace HB:=A_ (below_step bb_ hb);clear hb ho23;obtain ⟨Ao24,co24,eo24⟩:=Kd.R_slice Ao.1;(first|subst eo24|(injection eo24 with f1_ f2_ f3_;have f4_:=f1_.symm;have f5_:=f3_.symm;clear f1_ f2_ f3_;subst f4_;subst f5_))
        refine hK.out _ _ ⟨blk_cell Aa.1 0,blk_cell Aa.1 1⟩ (fun hHeld=>?_)
        clear hK K;refine norm_ (a':=?_) ?_ ?_
        rotate_left
        ·show Act.put _ (some 26) _ = _
         simp only [Act.put,L_,M_,N_,i64_w,i32_w]
         rfl
        refine pu_ (i:=5) (N:=27) #[T,T,T,T,T,T,F,F] HT_.1 rfl rfl (fun _ _ _ h=>h) rfl (h:=?_)
        refine one_ (i:=6) (N:=some 6) #[T,T,T,T,T,T,T,F] rfl rfl (one_of HT_.1 (by kernel_rfl)) (by decide) (fun K hK=>?_)
        refine box_step ?hg (N:=6) ?hd (cs:=#[.int .i64 0,.slice none 0 0]) (t:=26) ?hr ?_;(case hd=>rfl);(case hg=>rfl);(case hr=>go_simp;try rfl)
        intro Ag hg w25 hbox hb
        replace Ao:=rb_ Ao hb;have Ae:=A_ (hbox);have Ba:=A_ (gw_ (w:=w) hg bb_);have Bb:=A_ (gw_ (w:=w) hg bb_);replace HB:=A_ (below_step bb_ hb);have Af:=A_ (nl_ hg Aa);have Ai:=A_ (ng_ hg Aa);replace Aa:=bz Aa hb;have Ah:=A_ (nl_ hg Ab);have Al:=A_ (ng_ hg Ab);replace Ab:=bz Ab hb;clear hb hbox hg;refine hK.out _ _ ⟨blk_cell Aa.1 0,blk_cell Aa.1 1⟩ (fun hHeld=>?_)
        clear hK K;refine norm_ (a':=?_) ?_ ?_
        rotate_left
        ·show Act.put _ (some 6) _ = _
         simp only [Act.put,L_,M_,N_,i64_w,i32_w]
         rfl
        exact norm_ (by simp only [putAll,Act.put,L_,M_,N_]) (hCont (.slice Ao24 Av.length co24,Ag) _ ⟨hHeld,(rl_ Ao),(bl_ Aa),(bl_ Ab),(bl_ Ae),Ba.1,Bb.1,Af.1,Ai.1,Ah.1,Al.1,bb_⟩)
       ·skip
        refine box_step ?hg (N:=6) ?hd (cs:=#[.int .i64 0,.slice none 0 0]) (t:=26) ?hr ?_;(case hd=>rfl);(case hg=>rfl);(case hr=>go_simp;try rfl)
        intro Ag hg w22 hbox hb
        have Ae:=A_ (hbox);have Ba:=A_ (gw_ (w:=w) hg bb_);have Bb:=A_ (gw_ (w:=w) hg bb_);replace HB:=A_ (below_step bb_ hb);have Af:=A_ (nl_ hg Aa);have Ai:=A_ (ng_ hg Aa);replace Aa:=bz Aa hb;have Ah:=A_ (nl_ hg Ab);have Al:=A_ (ng_ hg Ab);replace Ab:=bz Ab hb;clear hb hbox hg;refine hK.out _ _ ⟨blk_cell Aa.1 0,blk_cell Aa.1 1⟩ (fun hHeld=>?_)
        clear hK K;refine norm_ (a':=?_) ?_ ?_
        rotate_left
        ·show Act.put _ (some 6) _ = _
         simp only [Act.put,L_,M_,N_,i64_w,i32_w]
         rfl
        refine one_ (i:=4) (N:=some 26) #[T,T,T,T,T,F,T,F] rfl rfl (one_of HT_.1 (by kernel_rfl)) (by decide) (fun K hK=>?_)
        refine Kd.R_make_step (Kd.int .i64) _ 3 (by rfl) (N:=26) rfl 24 _ _ rfl a0_0 rfl rfl Tryd.underlying24 (.int .i64 0) 8 info3 rfl (by decide) (by omega) 0 (ok:=fun _=>True) (okp:=fun _=>True) rfl (fun _ hk=>hk) trivial (of_decide_eq_true (by first|(with_reducible assumption)|assumption)) (Nat.le_trans (Nat.mul_le_mul_right _ (of_decide_eq_true (by first|(with_reducible assumption)|assumption) : a0_0.toNat ≤ 35184372088832)) (by omega)) (Below.refl _ _) (Nat.le_refl _) ?_
        intro Bi w23 ho24 hb hg_ hnew_
        clear hg_ hnew_;(first|rw [← A9.1] at ho24|(simp only [Int.reduceToNat] at ho24;rw [← A9.1] at ho24))
        have Ao:=A_ (Kd.R_lower ho24 (below_size bb_));replace Aa:=bz Aa hb;replace Ab:=bz Ab hb;replace Ae:=bz Ae hb;replace HB:=A_ (below_step bb_ hb);clear hb ho24;obtain ⟨Ao25,co25,eo25⟩:=Kd.R_slice Ao.1;(first|subst eo25|(injection eo25 with f1_ f2_ f3_;have f4_:=f1_.symm;have f5_:=f3_.symm;clear f1_ f2_ f3_;subst f4_;subst f5_))
        refine hK.out _ _ ⟨blk_cell Aa.1 0,blk_cell Aa.1 1⟩ (fun hHeld=>?_)
        clear hK K;refine norm_ (a':=?_) ?_ ?_
        rotate_left
        ·show Act.put _ (some 26) _ = _
         simp only [Act.put,L_,M_,N_,i64_w,i32_w]
         rfl
        refine pu_ (i:=5) (N:=27) #[T,T,T,T,T,T,T,F] HT_.1 rfl rfl (fun _ _ _ h=>h) rfl (h:=?_)
        exact norm_ (by simp only [putAll,Act.put,L_,M_,N_]) (hCont (.slice Ao25 Av.length co25,Ag) _ ⟨hHeld,(rl_ Ao),(bl_ Aa),(bl_ Ab),(bl_ Ae),Ba.1,Bb.1,Af.1,Ai.1,Ah.1,Al.1,bb_⟩)
      rintro ⟨Bi,Ag⟩ w26 ⟨hS_,h0_,h1_,h2_,h3_,h4_,h5_,h6_,h7_,h8_,h9_,h10_⟩
      have n0_ : Aside0 (Kd.R (Kd.int .i64) 3 w26 w.heap.size (fun _=>True) Bi Av):=⟨h0_⟩;have n1_ : Aside0 (w26.heap[Aj]? = some (.cells #[.int .i64 a0_0,.slice A0_1 l0_1.length c0_1] 26 (0,0))):=⟨h1_⟩;have n2_ : Aside0 (w26.heap[An]? = some (.cells #[.int .i64 0,.slice none 0 0] 26 (0,0))):=⟨h2_⟩;have n3_ : Aside0 (w26.heap[Ag]? = some (.cells #[.int .i64 0,.slice none 0 0] 26 (0,0))):=⟨h3_⟩;have n4_ : Aside0 (w.heap.size ≤ Ag):=⟨h4_⟩;have n5_ : Aside0 (w.heap.size ≤ Ag):=⟨h5_⟩;have n6_ : Aside0 (Aj ≠ Ag):=⟨h6_⟩;have n7_ : Aside0 (Ag ≠ Aj):=⟨h7_⟩;have n8_ : Aside0 (An ≠ Ag):=⟨h8_⟩;have n9_ : Aside0 (Ag ≠ An):=⟨h9_⟩;have n10_ : Aside0 (Below w.heap.size w w26):=⟨h10_⟩;clear Aa;clear Ab;clear HB;clear h0_ h1_ h2_ h3_ h4_ h5_ h6_ h7_ h8_ h9_ h10_;have Ao:=n0_;have Aa:=n1_;have Ab:=n2_;have Ae:=n3_;have Ba:=n4_;have Bb:=n5_;have Af:=n6_;have Ai:=n7_;have Ah:=n8_;have Al:=n9_;have HB:=n10_;clear n0_ n1_ n2_ n3_ n4_ n5_ n6_ n7_ n8_ n9_ n10_;have hHeld : w26.cell? ⟨Aj,0,none⟩ = some (.int .i64 a0_0) ∧ w26.cell? ⟨Aj,1,none⟩ = some (.slice A0_1 l0_1.length c0_1):=hS_;obtain ⟨Ao27,co27,eo27⟩:=Kd.R_slice Ao.1;(first|subst eo27|(injection eo27 with f1_ f2_ f3_;have f4_:=f1_.symm;have f5_:=f3_.symm;clear f1_ f2_ f3_;subst f4_;subst f5_))
      refine norm_ (a':=?_) ?_ ?_
      rotate_left;·simp only [putAll,Act.put,L_,M_,N_];rfl
      refine one_ (i:=7) (N:=none) #[T,T,T,T,T,T,T,T] rfl rfl (one_of HT_.1 (by kernel_rfl)) (by decide) (fun K hK=>?_)
      have Z : w26.cell? ⟨Ag,0,none⟩ = some (.int .i64 0):=blk_cell Ae.1 0;have Z:=blk_frozen Ae.1 0;have Z:=Af.1;have Z:=Ah.1;have Z:=Ai.1;have Z:=Al.1;have Z : w26.cell? ⟨Ag,1,none⟩ = some (.slice none 0 0):=blk_cell Ae.1 1;have Z:=blk_frozen Ae.1 1;have Z:=Af.1;have Z:=Ah.1;have Z:=Ai.1;have Z:=Al.1;refine skip_ (w1:=?_) (by rfl) rfl ?_ ?_
      rotate_left
      ·go_simp
       rfl
      refine hK.out _ _ ⟨((cell_far (p:=⟨Ag,_,none⟩) Af.1 _).trans (((cell_far (p:=⟨Ag,_,none⟩) Af.1 _).trans (hHeld.1)))),((cell_far (p:=⟨Ag,_,none⟩) Af.1 _).trans (((cell_far (p:=⟨Ag,_,none⟩) Af.1 _).trans (hHeld.2))))⟩ (fun hHeld=>?_)
      clear hK K;refine done_ (done_of HT_.1 (by kernel_rfl)) ?_
      have Z:=Ap.1;have Z:=Aq.1;have Z:=Af.1;have Z:=Ai.1;obtain ⟨Z,Z,Z,Z⟩:=o2_ Aa.1;try go_wp2
      go_loopg [31] kj2 (fun kq v31 w'=>∃ (x31_2 : Int) (Am : List Int) (Ak : Value),v31 = .int .i64 x31_2 ∧ Aside0 (Aag.l0 kq l1 l0_1 (l0_1.length : Int) x31_2 a0_0 Am = some (r1,r2,r3)) ∧ Aside0 (kq ≤ kj2) ∧ Aside0 (Kd.R (Kd.int .i64) 3 w' w.heap.size (fun _=>True) Ak Am) ∧ Aside0 (w'.heap[Aj]? = some (.cells #[.int .i64 a0_0,(.slice A0_1 l0_1.length c0_1)] 26 (0,0))) ∧ Aside0 (w'.heap[An]? = some (.cells #[.int .i64 0,(.slice none 0 0)] 26 (0,0))) ∧ Aside0 (w'.heap[Ag]? = some (.cells #[.int .i64 a0_0,Ak] 26 (0,0))) ∧ Aside0 (Below w.heap.size w w'))
      case atStart=>exact ⟨(0),(Av),(.slice Ao27 Av.length co27),(by first|rfl|(simp;done)|(simp [*];done)),H',⟨Nat.le_refl _⟩,⟨rq_ (Kd.R_mono (Kd.R_far (p:=⟨Ag,1,none⟩) (Kd.R_far (p:=⟨Ag,0,none⟩) (Kd.R_types Ao.1 Ae.1 (by decide)) (fun _ hk=>hk.2) (.int .i64 a0_0)) (fun _ hk=>hk.2) (.slice Ao27 Av.length co27)) (fun _ hk=>trivial))⟩,⟨by (with_reducible repeat (first|refine blk_drewN ?_ _|refine blk_drew ?_|refine blk_alloc ?_ _));refine blk_far ?_ Af.1 _;(with_reducible repeat (first|refine blk_drewN ?_ _|refine blk_drew ?_|refine blk_alloc ?_ _));refine blk_far ?_ Af.1 _;(with_reducible repeat (first|refine blk_drewN ?_ _|refine blk_drew ?_|refine blk_alloc ?_ _));exact Aa.1⟩,⟨by (with_reducible repeat (first|refine blk_drewN ?_ _|refine blk_drew ?_|refine blk_alloc ?_ _));refine blk_far ?_ Ah.1 _;(with_reducible repeat (first|refine blk_drewN ?_ _|refine blk_drew ?_|refine blk_alloc ?_ _));refine blk_far ?_ Ah.1 _;(with_reducible repeat (first|refine blk_drewN ?_ _|refine blk_drew ?_|refine blk_alloc ?_ _));exact Ab.1⟩,⟨by (with_reducible repeat (first|refine blk_drewN ?_ _|refine blk_drew ?_|refine blk_alloc ?_ _));refine blk_put (cs:=#[.int .i64 a0_0,.slice none 0 0]) ?_ 1 _ rfl;(with_reducible repeat (first|refine blk_drewN ?_ _|refine blk_drew ?_|refine blk_alloc ?_ _));refine blk_put (cs:=#[.int .i64 0,.slice none 0 0]) ?_ 0 _ rfl;(with_reducible repeat (first|refine blk_drewN ?_ _|refine blk_drew ?_|refine blk_alloc ?_ _));exact Ae.1⟩,⟨bb_⟩⟩
      case round =>
       clear H';try clear c1
       try clear c2
       try clear p2
       try clear c3
       try clear c6
       try clear c7
       try clear c9
       try clear c13
       try clear c16
       try clear c17
       try clear c19
       try clear c19b0
       try clear c19b1
       try clear c20
       try clear c20b0
       try clear c20b1
       try clear c27
       try clear c30
       try clear c31
       repeat clear Z
       try clear p2
       obtain ⟨x31_2,Am,Ak,rfl,HA,HK2,Ac,Aa,Ab,Ae,HB⟩:=hrel;cases gk with
       | zero=>exact absurd HA.1 (by simp [Aag.l0])
       | succ k2 =>
        have H:=HA.1;clear HA;simp only [Aag.l0] at H
        by_cases c33 : x31_2 < (l0_1.length : Int)
        ·rw [if_pos c33] at H;have c33b0 : decide (x31_2 < (l0_1.length : Int)) = true:=decide_eq_true c33;clear c33;by_cases c34 : 0 ≤ x31_2
         ·rw [if_pos c34] at H;have c34b0 : decide (0 ≤ x31_2) = true:=decide_eq_true c34;clear c34;by_cases c35 : x31_2 < (l0_1.length : Int)
          ·rw [if_pos c35] at H;have c35b0 : decide (x31_2 < (l0_1.length : Int)) = true:=decide_eq_true c35;clear c35;replace H:=Option.bind_eq_some_iff.mp H;obtain ⟨Ar,Bs,H⟩:=H;replace H : (Aag.l1 k2 l1 x31_2 l0_1 (l0_1.length : Int) x31_2 Ar (Ar.length : Int) 0 a0_0 Am) = some (r1,r2,r3):=H;have A36:=A_ Bs;clear Bs;have H':=A_ H;clear H;have Bf : 0 ≤ (x31_2 : Int):=of_decide_eq_true (by first|(with_reducible assumption)|assumption);have Bg : x31_2 < (l0_1.length : Int):=of_decide_eq_true (by first|(with_reducible assumption)|assumption);obtain ⟨Bu,Bx,Aw⟩:=Kd.at_int HR0_1.1 x31_2 Bf Bg;cases Bx
           (try replace Aw:=(HB.1.cell (World.block_lt_of_cell? w _ Aw)).trans Aw);replace Bf:=eq_true Bf;replace Bg:=eq_true Bg;go_wp2_with (first|((with_reducible refine gate_callee (f:=72) rfl ?_);refine goesL_ (some 37) rfl rfl Tryd.func72 (by kernel_rfl) rfl #[.int .i64 (rd l0_1 x31_2)] rfl au_ ?_;(with_reducible refine (Aa8.calls k2 (rd l0_1 x31_2) Ar _ ?side1 A36.1).mono ?_);(case side1=>first|exact HT.1|exact HT.1.below bb_|(repeat (first|exact HT.1|apply TabOK.drewN|apply TabOK.drew|apply TabOK.alloc)));rintro e w37 ⟨Cg,rfl,ho0,hb⟩;refine ⟨_,rfl,?_⟩;have Br:=A_ (Kd.R_lower (Kd.R_new' ho0 (Kd.R_lt (rl_ Ac))) (below_size bb_));replace Ac:=A_ (Kd.R_elder' (rl_ Ac) (Kd.R_base ho0) hb);replace Aa:=bz Aa hb;replace Ab:=bz Ab hb;replace Ae:=bz Ae hb;replace HB:=A_ (below_step bb_ hb);(try clear hb);(try clear hb2);(try clear hk);(try clear hi);(try clear ho0);obtain ⟨Ao38,co38,eo38⟩:=Kd.R_slice Br.1;subst eo38))
           go_loopg [39] k2 (fun kq v39 w'=>∃ (x37_3 : List Int) (x39_3 : Int) (Ad : List Int) (Ak : Value),v39 = .int .i64 x39_3 ∧ Aside0 (Aag.l1 kq l1 x31_2 l0_1 (l0_1.length : Int) x31_2 x37_3 (Ar.length : Int) x39_3 a0_0 Ad = some (r1,r2,r3)) ∧ Aside0 (kq ≤ k2) ∧ Aside0 (Kd.R (Kd.int .i64) 3 w' w.heap.size (fun k_=>some k_ ≠ (Ak : Value).ownBlock) (.slice Ao38 Ar.length co38) x37_3) ∧ Aside0 (Kd.R (Kd.int .i64) 3 w' w.heap.size (fun k_=>some k_ ≠ ((.slice Ao38 Ar.length co38) : Value).ownBlock) Ak Ad) ∧ Aside0 (w'.heap[Aj]? = some (.cells #[.int .i64 a0_0,(.slice (some Bu) l0_1.length c0_1)] 26 (0,0))) ∧ Aside0 (w'.heap[An]? = some (.cells #[.int .i64 0,(.slice none 0 0)] 26 (0,0))) ∧ Aside0 (w'.heap[Ag]? = some (.cells #[.int .i64 a0_0,Ak] 26 (0,0))) ∧ Aside0 (Below w.heap.size w w'))
           case atStart=>exact ⟨(Ar),(0),(Am),(Ak),(by first|rfl|(simp;done)|(simp [*];done)),H',⟨Nat.le_refl _⟩,⟨rq_ (Kd.R_mono Br.1 (fun _ hk=>hk.2))⟩,⟨rq_ (Kd.R_mono Ac.1 (fun _ hk=>hk.2))⟩,⟨bl_ Aa⟩,⟨bl_ Ab⟩,⟨bl_ Ae⟩,⟨bb_⟩⟩
           case round =>
            clear H';try clear c1
            try clear c2
            try clear p2
            try clear c3
            try clear c6
            try clear p6
            try clear q6
            try clear hx6
            try clear c7
            try clear c9
            try clear c13
            try clear c16
            try clear c17
            try clear c19
            try clear c19b0
            try clear c19b1
            try clear c20
            try clear c20b0
            try clear c20b1
            try clear c27
            try clear c30
            try clear c31
            try clear c33
            try clear c33b0
            try clear c34
            try clear c34b0
            try clear c35
            try clear c35b0
            repeat clear Z
            try clear Aw
            try clear p2
            try clear Bf
            try clear Bg
            obtain ⟨x37_3,x39_3,Ad,Ak,rfl,HA,HK3,HO_37,Ac,Aa,Ab,Ae,HB⟩:=hrel;have hl37_3:=(Kd.R_reads' HO_37.1).1;rw [hl37_3] at HO_37;(try simp only [hl37_3]);(try simp only [hl37_3] at Aa);(try simp only [hl37_3] at Ab);(try simp only [hl37_3] at Ae);(try simp only [hl37_3] at Ac);cases gk with
            | zero=>exact absurd HA.1 (by simp [Aag.l1])
            | succ k3 =>
             have H:=HA.1;clear HA;simp only [Aag.l1] at H
             by_cases c39 : x39_3 < (Ar.length : Int)
             ·rw [if_pos c39] at H;have c39b0 : decide (x39_3 < (Ar.length : Int)) = true:=decide_eq_true c39;(try (have c39b8:=c39b0;simp only [hl37_3] at c39b8));clear c39;by_cases c40 : 0 ≤ x39_3
              ·rw [if_pos c40] at H;have c40b0 : decide (0 ≤ x39_3) = true:=decide_eq_true c40;clear c40;by_cases c41 : x39_3 < (x37_3.length : Int)
               ·rw [if_pos c41] at H;have c41b0 : decide (x39_3 < (x37_3.length : Int)) = true:=decide_eq_true c41;(try (have c41b8:=c41b0;simp only [hl37_3] at c41b8));clear c41;by_cases c42 : 0 ≤ x31_2
                ·rw [if_pos c42] at H;have c42b0 : decide (0 ≤ x31_2) = true:=decide_eq_true c42;clear c42;by_cases c43 : x31_2 < (l1.length : Int)
                 ·rw [if_pos c43] at H;have c43b0 : decide (x31_2 < (l1.length : Int)) = true:=decide_eq_true c43;(try (have c43b8:=c43b0;simp only [hl37_3] at c43b8));clear c43;by_cases c44 : 0 ≤ (rd l1 x31_2)
                  ·rw [if_pos c44] at H;have c44b0 : decide (0 ≤ (rd l1 x31_2)) = true:=decide_eq_true c44;clear c44;by_cases c45 : (rd l1 x31_2) < (Ad.length : Int)
                   ·rw [if_pos c45] at H;have c45b0 : decide ((rd l1 x31_2) < (Ad.length : Int)) = true:=decide_eq_true c45;(try (have c45b8:=c45b0;simp only [hl37_3] at c45b8));clear c45;by_cases c46 : 0 ≤ (rd x37_3 x39_3)
                    ·rw [if_pos c46] at H;have c46b0 : decide (0 ≤ (rd x37_3 x39_3)) = true:=decide_eq_true c46;clear c46;by_cases c47 : (rd x37_3 x39_3) < (l1.length : Int)
                     ·rw [if_pos c47] at H;have c47b0 : decide ((rd x37_3 x39_3) < (l1.length : Int)) = true:=decide_eq_true c47;(try (have c47b8:=c47b0;simp only [hl37_3] at c47b8));clear c47;by_cases c48 : 0 ≤ (rd l1 (rd x37_3 x39_3))
                      ·rw [if_pos c48] at H;have c48b0:=eq_true c48;have c48b1 : decide (0 ≤ (rd l1 (rd x37_3 x39_3))) = true:=decide_eq_true c48;clear c48;obtain ⟨ji49,hji49⟩ : ∃ j_ : Int,(shl .i64 1 (rd l1 (rd x37_3 x39_3))) = j_:=⟨_,rfl⟩;replace H : (Aag.l1 k3 l1 x31_2 l0_1 (l0_1.length : Int) x31_2 x37_3 (Ar.length : Int) (wrap64 (x39_3 + 1)) a0_0 (Ad.set ((rd l1 x31_2) : Int).toNat (Go.bits .or .i64 (rd Ad (rd l1 x31_2)) (ji49)))) = some (r1,r2,r3):=by first|(rw [hji49] at H;exact H)|(simp only [hji49] at H ⊢;exact H)
                       have hji49_ : (IntKind.i64.wrap (1 * 2 ^ min (rd l1 (rd x37_3 x39_3)).toNat 64)) = ji49:=hji49;have hji49z : (rd l1 (rd x37_3 x39_3)) ≤ 64 → (IntKind.i64.wrap (1 * 2 ^ (rd l1 (rd x37_3 x39_3)).toNat)) = ji49:=shl_small hji49;have hji49u : (IntKind.i64.wrap (2 ^ min (rd l1 (rd x37_3 x39_3)).toNat 64)) = ji49:=by have h_:=hji49_;rw [Int.one_mul] at h_;exact h_
                       have hji49v : (rd l1 (rd x37_3 x39_3)) ≤ 64 → (IntKind.i64.wrap (2 ^ (rd l1 (rd x37_3 x39_3)).toNat)) = ji49:=fun hle_=>by have h_:=hji49z hle_;rw [Int.one_mul] at h_;exact h_
                       have hji49y : (wrap64 (1 * 2 ^ min (rd l1 (rd x37_3 x39_3)).toNat 64)) = ji49:=(i64_w _).symm.trans hji49_;have hji49x : (rd l1 (rd x37_3 x39_3)) ≤ 64 → (wrap64 (1 * 2 ^ (rd l1 (rd x37_3 x39_3)).toNat)) = ji49:=fun h_=>(i64_w _).symm.trans (hji49z h_)
                       obtain ⟨Bt,Ay⟩ : ∃ y_ : List Int,y_ = (Ad.set ((rd l1 x31_2) : Int).toNat (Go.bits .or .i64 (rd Ad (rd l1 x31_2)) (ji49))):=⟨_,rfl⟩;replace H : (Aag.l1 k3 l1 x31_2 l0_1 (l0_1.length : Int) x31_2 x37_3 (Ar.length : Int) (wrap64 (x39_3 + 1)) a0_0 Bt) = some (r1,r2,r3):=by first|(rw [Ay];with_reducible exact H)|(have H2_:=(Option.bind_some _ _).symm.trans H;rw [Ay];with_reducible exact H2_)|(have H2_:=(Option.bind_some _ _).symm.trans H;with_reducible exact H2_)|with_reducible exact H|(rw [Ay];exact H)|exact H
                       have Bv:=A_ Ay;clear Ay;have H':=A_ H;clear H;have Bj : 0 ≤ (x39_3 : Int):=of_decide_eq_true (by first|(with_reducible assumption)|assumption);have Bk : x39_3 < (x37_3.length : Int):=of_decide_eq_true (by first|(with_reducible assumption)|assumption);obtain ⟨Ce,Bz,B4⟩:=Kd.at_int (Kd.R_reads' HO_37.1).2.2 x39_3 Bj Bk;cases Bz
                       replace Bj:=eq_true Bj;replace Bk:=eq_true Bk;try go_wp2
                       replace HO_37:=A_ (Kd.R_drew HO_37.1);replace Ac:=A_ (Kd.R_drew Ac.1);replace Aa:=A_ (blk_drew Aa.1);replace Ab:=A_ (blk_drew Ab.1);replace Ae:=A_ (blk_drew Ae.1);replace HB:=A_ (below_drew1 HB.1);have Bl : 0 ≤ (x31_2 : Int):=of_decide_eq_true (by first|(with_reducible assumption)|assumption);have Bm : x31_2 < (l1.length : Int):=of_decide_eq_true (by first|(with_reducible assumption)|assumption);obtain ⟨Bh,B0,As⟩:=Kd.at_int HR1.1 x31_2 Bl Bm;have Bc:=As;cases B0
                       (try replace As:=(HB.1.cell (World.block_lt_of_cell? w _ As)).trans As);replace Bl:=eq_true Bl;replace Bm:=eq_true Bm;obtain ⟨Ao52,co52,eo52⟩:=Kd.R_slice Ac.1;(first|subst eo52|(injection eo52 with f1_ f2_ f3_;have f4_:=f1_.symm;have f5_:=f3_.symm;clear f1_ f2_ f3_;subst f4_;subst f5_))
                       have Bn : 0 ≤ ((rd l1 x31_2) : Int):=of_decide_eq_true (by first|(with_reducible assumption)|assumption);have Bo : (rd l1 x31_2) < (Ad.length : Int):=of_decide_eq_true (by first|(with_reducible assumption)|assumption);obtain ⟨Cf,B1,Az⟩:=Kd.at_int (Kd.R_reads' Ac.1).2.2 (rd l1 x31_2) Bn Bo;cases B1
                       replace Bn:=eq_true Bn;replace Bo:=eq_true Bo;have Bp : 0 ≤ ((rd x37_3 x39_3) : Int):=of_decide_eq_true (by first|(with_reducible assumption)|assumption);have Bq : (rd x37_3 x39_3) < (l1.length : Int):=of_decide_eq_true (by first|(with_reducible assumption)|assumption);obtain ⟨Bw,B2,At⟩:=Kd.at_int HR1.1 (rd x37_3 x39_3) Bp Bq;have Bd:=At;obtain rfl : Bh = Bw:=(by injection B2);(try replace At:=(HB.1.cell (World.block_lt_of_cell? w _ At)).trans At);replace Bp:=eq_true Bp;replace Bq:=eq_true Bq;have p50 : 0 ≤ ((rd l1 x31_2) : Int):=of_decide_eq_true (by first|(with_reducible assumption)|assumption);have q50 : ((rd l1 x31_2) : Int) < ((Ad.length : Int) : Int):=of_decide_eq_true (by first|(with_reducible assumption)|assumption);obtain ⟨go50,co50,eo50,gb50,gl50,cl50,HG50⟩:=Kd.R_form Ac.1 (by omega);(first|cases eo50|(injection eo50 with ea_ en_ ec_;(first|subst ea_|(injection ea_ with ea_;subst ea_));subst ec_;clear en_))
                       have GB50:=A_ gb50;have GG50:=A_ HG50;clear gb50 gl50 HG50;(first|simp only [add_plain] at Az|skip)
                       obtain ⟨hx50_0,hf50_0⟩:=Kd.R_celln 0 Ac.1 ((rd l1 x31_2) : Int) p50 q50;replace p50:=eq_true p50;replace q50:=eq_true q50;have HP53:=Kd.R_putn Ac.1 ((rd l1 x31_2) : Int) (Go.bits .or .i64 (rd Ad (rd l1 x31_2)) (ji49));rw [← Bv.1] at HP53;have HQ53:=A_ HP53;clear HP53;refine start_ (n:=16) (S:=fun w'=>w'.cell? ⟨Ag,0,none⟩ = some (.int .i64 a0_0) ∧ w'.cell? ⟨Ag,1,none⟩ = some (.slice (some ⟨go50,0,none⟩) Ad.length co52) ∧ w'.cell? (Bh.add (x31_2).toNat) = some (.int .i64 (rd l1 x31_2)) ∧ w'.cell? ⟨go50,((rd l1 x31_2)).toNat,none⟩ = some (.int .i64 (rd Ad (rd l1 x31_2))) ∧ w'.cell? (Bh.add ((rd x37_3 x39_3)).toNat) = some (.int .i64 (rd l1 (rd x37_3 x39_3)))) (ds:=[15]) #[F,F,F,F,F,F,F,F,F,F,F,F,F,F,F,F] (by kernel_rfl) rfl rfl ⟨blk_cell Ae.1 0,blk_cell Ae.1 1,((HB.1.cell (World.block_lt_of_cell? w _ Bc)).trans Bc),Az,((HB.1.cell (World.block_lt_of_cell? w _ Bd)).trans Bd)⟩ (fun hHeld=>?_);refine with_tabW Aag.tab10 Aag.bits10 (fun HT_ HW_=>?_)
                       generalize wr.drew = w51 at HO_37 Ac Aa Ab Ae HB GG50 HQ53 hf50_0 hx50_0 As Az At hHeld ⊢
                       refine pu_ (i:=0) (N:=43) #[T,F,F,F,F,F,F,F,F,F,F,F,F,F,F,F] HT_.1 rfl rfl (fun _ _ _ h=>h) rfl (h:=?_)
                       refine pu_ (i:=2) (N:=45) #[T,F,T,F,F,F,F,F,F,F,F,F,F,F,F,F] HT_.1 rfl rfl (fun _ _ _ h=>h) rfl (h:=?_)
                       refine pu_ (i:=3) (N:=46) #[T,F,T,T,F,F,F,F,F,F,F,F,F,F,F,F] HT_.1 rfl rfl (fun _ _ _ h=>h) rfl (h:=?_)
                       refine pu_ (i:=4) (N:=47) #[T,F,T,T,T,F,F,F,F,F,F,F,F,F,F,F] HT_.1 rfl rfl (fun _ _ _ h=>h) rfl (h:=?_)
                       refine pu_ (i:=8) (N:=51) #[T,F,T,T,T,F,F,F,T,F,F,F,F,F,F,F] HT_.1 rfl rfl (fun _ _ _ h=>h) rfl (h:=?_)
                       refine pu_ (i:=9) (N:=52) #[T,F,T,T,T,F,F,F,T,T,F,F,F,F,F,F] HT_.1 rfl rfl (fun _ _ _ h=>h) rfl (h:=?_)
                       refine pu_ (i:=10) (N:=53) #[T,F,T,T,T,F,F,F,T,T,T,F,F,F,F,F] HT_.1 rfl rfl (fun _ _ _ h=>h) rfl (h:=?_)
                       refine take_ (i:=1) (N:=some 44) (v:=?_) (a':=?_) #[T,T,T,T,T,F,F,F,T,T,T,F,F,F,F,F] rfl rfl (take_ofW HT_.1 HW_.1 (by kernel_rfl)) (fun _ _ _ h=>h) (Or.inl ⟨by rfl,?_⟩) hHeld ?_ ?_
                       rotate_left
                       ·rintro w' ⟨s0,s1,s2,s3,s4⟩
                        go_simp
                        with_reducible rfl
                       rotate_left;·simp only [Act.put,L_,M_,N_,i64_w,i32_w];rfl
                       refine take_ (i:=5) (N:=some 48) (v:=?_) (a':=?_) #[T,T,T,T,T,T,F,F,T,T,T,F,F,F,F,F] rfl rfl (take_ofW HT_.1 HW_.1 (by kernel_rfl)) (fun _ _ _ h=>h) (Or.inl ⟨by rfl,?_⟩) hHeld ?_ ?_
                       rotate_left
                       ·rintro w' ⟨s0,s1,s2,s3,s4⟩
                        go_simp
                        with_reducible rfl
                       rotate_left;·simp only [Act.put,L_,M_,N_,i64_w,i32_w];rfl
                       refine pu_ (i:=6) (N:=49) #[T,T,T,T,T,T,T,F,T,T,T,F,F,F,F,F] HT_.1 rfl rfl (fun _ _ _ h=>h) rfl (h:=?_)
                       refine take_ (i:=7) (N:=some 50) (v:=?_) (a':=?_) #[T,T,T,T,T,T,T,T,T,T,T,F,F,F,F,F] rfl rfl (take_ofW HT_.1 HW_.1 (by kernel_rfl)) (fun _ _ _ h=>h) (Or.inl ⟨by rfl,?_⟩) hHeld ?_ ?_
                       rotate_left
                       ·rintro w' ⟨s0,s1,s2,s3,s4⟩
                        go_simp
                        with_reducible rfl
                       rotate_left;·simp only [Act.put,L_,M_,N_,i64_w,i32_w];rfl
                       refine take_ (i:=11) (N:=some 54) (v:=?_) (a':=?_) #[T,T,T,T,T,T,T,T,T,T,T,T,F,F,F,F] rfl rfl (take_ofW HT_.1 HW_.1 (by kernel_rfl)) (fun _ _ _ h=>h) (Or.inl ⟨by rfl,?_⟩) hHeld ?_ ?_
                       rotate_left
                       ·rintro w' ⟨s0,s1,s2,s3,s4⟩
                        go_simp
                        with_reducible rfl
                       rotate_left;·simp only [Act.put,L_,M_,N_,i64_w,i32_w];rfl
                       refine pu_ (i:=12) (N:=55) #[T,T,T,T,T,T,T,T,T,T,T,T,T,F,F,F] HT_.1 rfl rfl (fun _ _ _ h=>h) rfl (h:=?_)
                       refine pu_ (i:=13) (N:=56) #[T,T,T,T,T,T,T,T,T,T,T,T,T,T,F,F] HT_.1 rfl rfl (fun _ _ _ h=>h) rfl (h:=?_)
                       refine pu_ (i:=14) (N:=57) #[T,T,T,T,T,T,T,T,T,T,T,T,T,T,T,F] HT_.1 rfl rfl (fun _ _ _ h=>h) rfl (h:=?_)
                       refine last_ (i:=15) (N:=none) #[T,T,T,T,T,T,T,T,T,T,T,T,T,T,T,T] rfl rfl (one_of HT_.1 (by kernel_rfl)) (by decide) (fun K hK=>?_)
                       refine skip_ (w1:=?_) (by rfl) rfl ?_ ?_
                       rotate_left
                       ·go_simp
                        rfl
                       refine hK.out _ _ ?_
                       clear hK K;refine done_ (done_of HT_.1 (by kernel_rfl)) ?_
                       try go_wp2
                       (try simp only [← hl37_3]);go_roundg k3
                       case measure=>have:=HJ2.1;have:=HK2.1;have:=HK3.1;omega
                       case rel=>exact ⟨(x37_3),(wrap64 (x39_3 + 1)),(Bt),(.slice (some ⟨go50,0,none⟩) Ad.length co52),(by first|rfl|(simp;done)|(simp [*];done)),H',⟨by have:=HJ2.1;have:=HK2.1;have:=HK3.1;omega⟩,⟨by (try simp only [hl37_3]);(with_reducible repeat (first|apply Kd.R_alloc|apply Kd.R_drewN|apply Kd.R_drew));exact Kd.R_mono (Kd.R_far (p:=⟨go50,((rd l1 x31_2) : Int).toNat,none⟩) (Kd.R_mono HO_37.1 (fun k_ hk=>(⟨hk,fun e_=>hk (by rw [e_];rfl)⟩ : _ ∧ k_ ≠ go50))) (fun _ hk=>hk.2) (.int .i64 (Go.bits .or .i64 (rd Ad (rd l1 x31_2)) (ji49)))) (fun _ hk=>hk.1)⟩,⟨by (try simp only [hl37_3]);(with_reducible repeat (first|apply Kd.R_alloc|apply Kd.R_drewN|apply Kd.R_drew));exact HQ53.1⟩,⟨by (try simp only [hl37_3]);(with_reducible repeat (first|refine blk_drewN ?_ _|refine blk_drew ?_|refine blk_alloc ?_ _));refine blk_far ?_ (by have h_:=Kd.R_ne Ac.1 Aa.1 (by decide);intro e_;exact h_ (by rw [e_];rfl)) _;(with_reducible repeat (first|refine blk_drewN ?_ _|refine blk_drew ?_|refine blk_alloc ?_ _));exact Aa.1⟩,⟨by (try simp only [hl37_3]);(with_reducible repeat (first|refine blk_drewN ?_ _|refine blk_drew ?_|refine blk_alloc ?_ _));refine blk_far ?_ (by have h_:=Kd.R_ne Ac.1 Ab.1 (by decide);intro e_;exact h_ (by rw [e_];rfl)) _;(with_reducible repeat (first|refine blk_drewN ?_ _|refine blk_drew ?_|refine blk_alloc ?_ _));exact Ab.1⟩,⟨by (try simp only [hl37_3]);(with_reducible repeat (first|refine blk_drewN ?_ _|refine blk_drew ?_|refine blk_alloc ?_ _));refine blk_far ?_ (by have h_:=Kd.R_ne Ac.1 Ae.1 (by decide);intro e_;exact h_ (by rw [e_];rfl)) _;(with_reducible repeat (first|refine blk_drewN ?_ _|refine blk_drew ?_|refine blk_alloc ?_ _));exact Ae.1⟩,⟨by repeat (first|(with_reducible first|exact HB.1|apply below_alloc|apply pw_below_drewN|apply below_drew1|refine below_set ?_ GB50.1|refine below_set ?_ (Aside0.out (by assumption)))|exact HB.1)⟩⟩
                      ·rw [if_neg c48] at H;exact absurd H (by simp)
                     ·rw [if_neg c47] at H;exact absurd H (by simp)
                    ·rw [if_neg c46] at H;exact absurd H (by simp)
                   ·rw [if_neg c45] at H;exact absurd H (by simp)
                  ·rw [if_neg c44] at H;exact absurd H (by simp)
                 ·rw [if_neg c43] at H;exact absurd H (by simp)
                ·rw [if_neg c42] at H;exact absurd H (by simp)
               ·rw [if_neg c41] at H;exact absurd H (by simp)
              ·rw [if_neg c40] at H;exact absurd H (by simp)
             ·rw [if_neg c39] at H;have c39b0 : decide (x39_3 < (Ar.length : Int)) = false:=decide_eq_false c39;(try (have c39b8:=c39b0;simp only [hl37_3] at c39b8));clear c39;have H':=A_ H;clear H;go_wp2
              (try simp only [← hl37_3]);go_roundg k3
              case measure=>have:=HJ2.1;have:=HK2.1;have:=HK3.1;omega
              case rel=>exact ⟨(wrap64 (x31_2 + 1)),(Ad),(Ak),(by first|rfl|(simp;done)|(simp [*];done)),H',⟨by have:=HJ2.1;have:=HK2.1;have:=HK3.1;omega⟩,⟨by (try simp only [hl37_3]);(with_reducible repeat (first|apply Kd.R_alloc|apply Kd.R_drewN|apply Kd.R_drew));exact Kd.R_mono Ac.1 (fun _ hk=>trivial)⟩,⟨by (try simp only [hl37_3]);(with_reducible repeat (first|refine blk_drewN ?_ _|refine blk_drew ?_|refine blk_alloc ?_ _));exact Aa.1⟩,⟨by (try simp only [hl37_3]);(with_reducible repeat (first|refine blk_drewN ?_ _|refine blk_drew ?_|refine blk_alloc ?_ _));exact Ab.1⟩,⟨by (try simp only [hl37_3]);(with_reducible repeat (first|refine blk_drewN ?_ _|refine blk_drew ?_|refine blk_alloc ?_ _));exact Ae.1⟩,⟨bb_⟩⟩
          ·rw [if_neg c35] at H;exact absurd H (by simp)
         ·rw [if_neg c34] at H;exact absurd H (by simp)
        ·rw [if_neg c33] at H;have c33b0 : decide (x31_2 < (l0_1.length : Int)) = false:=decide_eq_false c33;clear c33;simp only [Option.some.injEq,Prod.mk.injEq] at H
         obtain ⟨rfl,rfl,rfl⟩:=H;have Z:=Ai.1;have Z:=Af.1;have Z:=Al.1;have Z:=Ah.1;obtain ⟨Z,Z,Z,Z⟩:=o2_ Ae.1;have Z:=Aq.1;have Z:=Ap.1;obtain ⟨Z,Z,Z,Z⟩:=o2_ Ab.1;obtain ⟨Ao59,co59,eo59⟩:=Kd.R_slice Ac.1;subst eo59;go_wp2
         refine bodyPost_ret (results_ct rfl _ _ An 26 #[.int .i64 a0_0,.slice Ao59 Am.length co59] (0,0) _ rfl (by (with_reducible repeat (first|refine blk_drewN ?_ _|refine blk_drew ?_|refine blk_alloc ?_ _));refine blk_put (cs:=#[.int .i64 a0_0,.slice none 0 0]) ?_ 1 _ rfl;(with_reducible repeat (first|refine blk_drewN ?_ _|refine blk_drew ?_|refine blk_alloc ?_ _));refine blk_put (cs:=#[.int .i64 0,.slice none 0 0]) ?_ 0 _ rfl;(with_reducible repeat (first|refine blk_drewN ?_ _|refine blk_drew ?_|refine blk_alloc ?_ _));exact Ab.1) Tryd.underlying26 rfl (by kernel_rfl)) rfl ?_
         exact ⟨_,by first|rfl|(simp [errW_none,errW_some] <;> rfl)|(simp [*,errW_none,errW_some] <;> rfl),rq_ (Kd.R_mono (Kd.R_far (p:=⟨An,1,none⟩) (Kd.R_far (p:=⟨An,0,none⟩) (Kd.R_types Ac.1 Ab.1 (by decide)) (fun _ hk=>hk.2) (.int .i64 a0_0)) (fun _ hk=>hk.2) (.slice Ao59 Am.length co59)) (fun _ hk=>trivial)),bb_⟩
     ·rw [if_neg c20] at H;exact absurd H (by simp)
    ·rw [if_neg c19] at H;exact absurd H (by simp)
def Abc.l0 : Nat → Int → List Int → Int → Int → Option (Int)
 | 0,_,_,_,_=>none
 | k + 1,x1,x7,x8,x9=>if x9 < x8 then (if 0 ≤ x9 then (if x9 < (x7.length : Int) then (if (rd x7 x9) = x1 then (some x9) else (Abc.l0 k x1 x7 x8 (wrap64 (x9 + 1)))) else (none)) else (none)) else (some (-1))
def Abc.f (k : Nat) (l0 : List Int) (a1 : Int) : Option (Int) := Abc.l0 k a1 l0 (l0.length : Int) 0
set_option maxHeartbeats 8000000 in
set_option maxRecDepth 100000 in
theorem Abc.calls (k : Nat) (A0 : Option Addr) (c0 : Nat) (l0 : List Int) (a1 : Int) (r : Int) (w : World) (hr0 : Kd.C (Kd.int .i64) w A0 l0.length l0) (hc0 : l0.length ≤ c0) (h : Abc.f k l0 a1 = some r) :
 Calls Tryd.prog 86 #[.slice A0 l0.length c0,.int .i64 a1] w fun e w'=>e = .returned (.int .i64 r) ∧ Drawn0 w w':=by
 have HR0:=A_ hr0;have HC0:=A_ hc0;clear hr0 hc0;have H : (Abc.l0 k a1 l0 (l0.length : Int) 0) = some r:=h;clear h;have H':=A_ H;clear H;go_enter Tryd.func86,Tryd.ntmps86
 go_wp2
 go_loopg [9] k (fun kq v9 w'=>∃ (x9_1 : Int),v9 = .int .i64 x9_1 ∧ Aside0 (Abc.l0 kq a1 l0 (l0.length : Int) x9_1 = some r) ∧ Aside0 (kq ≤ k) ∧ Drawn0 w w')
 case atStart=>exact ⟨(0),(by first|rfl|(simp;done)|(simp [*];done)),H',⟨Nat.le_refl _⟩,by repeat (first|exact Drawn0.refl _|apply Drawn0.step)⟩
 case round =>
  clear H';try clear p2
  obtain ⟨x9_1,rfl,HA,HK1,⟨m1,rfl⟩⟩:=hrel;cases gk with
  | zero => exact absurd HA.1 (by simp [Abc.l0])
  | succ k1 =>
   have H:=HA.1;clear HA;simp only [Abc.l0] at H
   by_cases c3 : x9_1 < (l0.length : Int)
   ·rw [if_pos c3] at H;have c3b0 : decide (x9_1 < (l0.length : Int)) = true:=decide_eq_true c3;clear c3;by_cases c4 : 0 ≤ x9_1
    ·rw [if_pos c4] at H;have c4b0 : decide (0 ≤ x9_1) = true:=decide_eq_true c4;clear c4;by_cases c5 : x9_1 < (l0.length : Int)
     ·rw [if_pos c5] at H;have c5b0 : decide (x9_1 < (l0.length : Int)) = true:=decide_eq_true c5;clear c5;by_cases c6 : (rd l0 x9_1) = a1
      ·rw [if_pos c6] at H;have c6b0 : ((rd l0 x9_1) == a1) = true:=beq_iff_eq.mpr c6;have c6b1 : ((rd l0 x9_1) != a1) = false:=bne_eq_false_iff_eq.mpr c6;clear c6;obtain rfl:=Option.some.inj H;have Aa : 0 ≤ (x9_1 : Int):=of_decide_eq_true (by first|(with_reducible assumption)|assumption);have Ab : x9_1 < (l0.length : Int):=of_decide_eq_true (by first|(with_reducible assumption)|assumption);obtain ⟨Ae,Ac,Ad⟩:=Kd.at_int HR0.1 x9_1 Aa Ab;cases Ac
       replace Aa:=eq_true Aa;replace Ab:=eq_true Ab;go_wp2
       go_ret
       exact ⟨by first|rfl|(simp;done)|(simp [*];done),by repeat (first|exact Drawn0.refl _|apply Drawn0.step)⟩
      ·rw [if_neg c6] at H;have c6b0 : ((rd l0 x9_1) == a1) = false:=beq_eq_false_iff_ne.mpr c6;have c6b1 : ((rd l0 x9_1) != a1) = true:=bne_iff_ne.mpr c6;have H':=A_ H;clear H;have Aa : 0 ≤ (x9_1 : Int):=of_decide_eq_true (by first|(with_reducible assumption)|assumption);have Ab : x9_1 < (l0.length : Int):=of_decide_eq_true (by first|(with_reducible assumption)|assumption);obtain ⟨Ae,Ac,Ad⟩:=Kd.at_int HR0.1 x9_1 Aa Ab;cases Ac
       replace Aa:=eq_true Aa;replace Ab:=eq_true Ab;go_wp2
       go_roundg k1
       case measure=>have:=HK1.1;omega
       case rel=>exact ⟨(wrap64 (x9_1 + 1)),(by first|rfl|(simp;done)|(simp [*];done)),H',⟨by have:=HK1.1;omega⟩,by repeat (first|exact Drawn0.refl _|apply Drawn0.step)⟩
     ·rw [if_neg c5] at H;exact absurd H (by simp)
    ·rw [if_neg c4] at H;exact absurd H (by simp)
   ·rw [if_neg c3] at H;have c3b0 : decide (x9_1 < (l0.length : Int)) = false:=decide_eq_false c3;clear c3;obtain rfl:=Option.some.inj H;go_wp2
    go_ret
    exact ⟨by first|rfl|(simp;done)|(simp [*];done),by repeat (first|exact Drawn0.refl _|apply Drawn0.step)⟩
mutual
def Aap.j0 : Nat → List Int → Bool → Int → List Int → Option (Int × List Int × Bool)
 | 0,_,_,_,_=>none
 | k + 1,x1,x17,x661000,x661001=>if x17 = true then (some (0,([] : List Int),false)) else (Aap.l0 k x1 ([] : List Int) (x1.length : Int) 0 x661000 x661001)
def Aap.l0 : Nat → List Int → List Int → Int → Int → Int → List Int → Option (Int × List Int × Bool)
 | 0,_,_,_,_,_,_=>none
 | k + 1,x1,x6,x20,x21,x661000,x661001=>if x21 < x20 then ((Abc.f k x1 x21).bind fun t664=>(if x6.length < 17592186044416 then (Aap.l0 k x1 (x6 ++ [t664]) x20 (wrap64 (x21 + 1)) x661000 x661001) else (none))) else ((Aar.f k x661000 x661001 x6).bind fun bt668=>(some (bt668.1,bt668.2,true)))
end
def Aap.f (k : Nat) (a0_0 : Int) (l0_1 : List Int) (l1 : List Int) : Option (Int × List Int × Bool) := (Aan.f k a0_0 l0_1).bind fun t662 => (if t662 = true then ((Abf.f k a0_0 l1).bind fun t663 => (Aap.j0 k l1 (!t663) a0_0 l0_1)) else (Aap.j0 k l1 true a0_0 l0_1))
set_option maxHeartbeats 8000000 in
set_option maxRecDepth 100000 in
theorem Aap.calls (k : Nat) (a0_0 : Int) (A0_1 : Option Addr) (c0_1 : Nat) (l0_1 : List Int) (A1 : Option Addr) (c1 : Nat) (l1 : List Int) (r1 : Int) (r2 : List Int) (r3 : Bool) (w : World) (hr0_1 : Kd.C (Kd.int .i64) w A0_1 l0_1.length l0_1) (hc0_1 : l0_1.length ≤ c0_1) (hr1 : Kd.C (Kd.int .i64) w A1 l1.length l1) (hc1 : l1.length ≤ c1) (h : Aap.f k a0_0 l0_1 l1 = some (r1,r2,r3)) :
 Calls Tryd.prog 28 #[.agg #[.int .i64 a0_0,.slice A0_1 l0_1.length c0_1],.slice A1 l1.length c1] w fun e w'=>∃ v1_ : Value,e = .returned (.tuple #[.agg #[.int .i64 r1,v1_],.bool r3]) ∧ Kd.R (Kd.int .i64) 3 w' w.heap.size (fun _=>True) v1_ r2 ∧ Below w.heap.size w w':=by
 have hu26:=Tryd.underlying26;have HR0_1:=A_ hr0_1;have HC0_1:=A_ hc0_1;clear hr0_1 hc0_1;have HR1:=A_ hr1;have HC1:=A_ hc1;clear hr1 hc1;have HB:=A_ (Below.refl w.heap.size w);have H : ((Aan.f k a0_0 l0_1).bind fun Aj=>(if Aj = true then ((Abf.f k a0_0 l1).bind fun Ae=>(Aap.j0 k l1 (!Ae) a0_0 l0_1)) else (Aap.j0 k l1 true a0_0 l0_1))) = some (r1,r2,r3):=h;clear h;have HC3:=A_ H;clear H;go_enter Tryd.func28,Tryd.ntmps28
 go_upto_region 1 with (first|((with_reducible refine gate_dst (N:=2) rfl ?_);refine box_event ?hg (N:=2) ?hd (cs:=#[.int .i64 a0_0,.slice A0_1 l0_1.length c0_1]) (t:=26) ?hr ?_;(case hd=>rfl);(case hg=>rfl);(case hr=>go_simp;try rfl);intro Ak hg w4 hbox hb;have Aa:=A_ (hbox);have As:=A_ (gw_ (w:=w) hg bb_);have At:=A_ (gw_ (w:=w) hg bb_);replace HB:=A_ (below_step bb_ hb);clear hb hbox hg)|((with_reducible refine gate_dst (N:=4) rfl ?_);refine box_event ?hg (N:=4) ?hd (cs:=#[.int .i64 0,.slice none 0 0]) (t:=26) ?hr ?_;(case hd=>rfl);(case hg=>rfl);(case hr=>go_simp;try rfl);intro Af hg w5 hbox hb;have Ab:=A_ (hbox);have Au:=A_ (gw_ (w:=w) hg bb_);have Av:=A_ (gw_ (w:=w) hg bb_);replace HB:=A_ (below_step bb_ hb);have Ac:=A_ (nl_ hg Aa);have Ad:=A_ (ng_ hg Aa);replace Aa:=bz Aa hb;clear hb hbox hg))
 (try simp only [Act.put,L_,M_,N_]);go_cut [17] (fun v17 wc=>∃ (kq : Nat) (x17_2 : Bool),v17 = .bool x17_2 ∧ Aside0 (Aap.j0 kq l1 x17_2 a0_0 l0_1 = some (r1,r2,r3)) ∧ Aside0 (kq ≤ k) ∧ Aside0 (wc.heap[Ak]? = some (.cells #[.int .i64 a0_0,(.slice A0_1 l0_1.length c0_1)] 26 (0,0))) ∧ Aside0 (wc.heap[Af]? = some (.cells #[.int .i64 0,(.slice none 0 0)] 26 (0,0))) ∧ Aside0 (Below w.heap.size w wc))
 case first =>
  have H:=HC3.1;clear HC3;replace H:=Option.bind_eq_some_iff.mp H;obtain ⟨Aj,A60,H⟩:=H;replace H : (if Aj = true then ((Abf.f k a0_0 l1).bind fun Ae=>(Aap.j0 k l1 (!Ae) a0_0 l0_1)) else (Aap.j0 k l1 true a0_0 l0_1)) = some (r1,r2,r3):=H;have A6:=A_ A60;clear A60;by_cases c7 : Aj = true
  ·subst c7;have H1 : ((Abf.f k a0_0 l1).bind fun Ae=>(Aap.j0 k l1 (!Ae) a0_0 l0_1)) = some (r1,r2,r3):=by rw [if_pos rfl] at H;exact H
   clear H;have H:=H1;clear H1;replace H:=Option.bind_eq_some_iff.mp H;obtain ⟨Ae,A80,H⟩:=H;replace H : (Aap.j0 k l1 (!Ae) a0_0 l0_1) = some (r1,r2,r3):=H;have A8:=A_ A80;clear A80;have H':=A_ H;clear H;have Z:=Ac.1;have Z:=Ad.1;obtain ⟨Z,Z,Z,Z⟩:=o2_ Aa.1;go_wp2_with (first|((with_reducible refine gate_callee (f:=63) rfl ?_);refine goesL_ (some 9) rfl rfl Tryd.func63 (by kernel_rfl) rfl #[.agg #[.int .i64 a0_0,.slice A0_1 l0_1.length c0_1]] rfl au_ ?_;(with_reducible refine (Aan.calls k a0_0 _ _ l0_1 true _ ?side1 ?side2 A6.1).mono ?_);(case side1=>exact cl_ (Kd.C_below HR0_1.1 HB.1));(case side2=>exact HC0_1.1);rintro e w11 ⟨rfl,hb⟩;refine ⟨_,rfl,?_⟩;replace Aa:=bz Aa hb;replace Ab:=bz Ab hb;replace HB:=A_ (below_step bb_ hb);(try clear hb);(try clear hb2);(try clear hk);(try clear hi);obtain ⟨Z,Z,Z,Z⟩:=o2_ Aa.1)|(go_at_call 78;(with_reducible refine (Abf.calls k a0_0 _ _ l1 Ae _ ?side1 ?side2 A8.1).mono ?_);(case side1=>exact cl_ (Kd.C_below HR1.1 HB.1));(case side2=>exact HC1.1);rintro e w' ⟨rfl,⟨nd,rfl⟩⟩))
   go_meet
   case rel=>exact ⟨_,(!Ae),(by first|rfl|(simp;done)|(simp [*];done)),H',⟨by first|omega|exact Nat.le_refl _⟩,⟨bl_ Aa⟩,⟨bl_ Ab⟩,⟨bb_⟩⟩
  ·replace c7:=Bool.eq_false_iff.mpr c7;subst c7;have H1 : (Aap.j0 k l1 true a0_0 l0_1) = some (r1,r2,r3):=by rw [if_neg (show ¬ (false = true) by decide)] at H;exact H
   clear H;have H:=H1;clear H1;have H':=A_ H;clear H;have Z:=Ac.1;have Z:=Ad.1;obtain ⟨Z,Z,Z,Z⟩:=o2_ Aa.1;go_wp2_with (first|((with_reducible refine gate_callee (f:=63) rfl ?_);refine goesL_ (some 9) rfl rfl Tryd.func63 (by kernel_rfl) rfl #[.agg #[.int .i64 a0_0,.slice A0_1 l0_1.length c0_1]] rfl au_ ?_;(with_reducible refine (Aan.calls k a0_0 _ _ l0_1 false _ ?side1 ?side2 A6.1).mono ?_);(case side1=>exact cl_ (Kd.C_below HR0_1.1 HB.1));(case side2=>exact HC0_1.1);rintro e w15 ⟨rfl,hb⟩;refine ⟨_,rfl,?_⟩;replace Aa:=bz Aa hb;replace Ab:=bz Ab hb;replace HB:=A_ (below_step bb_ hb);(try clear hb);(try clear hb2);(try clear hk);(try clear hi)))
   go_meet
   case rel=>exact ⟨_,(true),(by first|rfl|(simp;done)|(simp [*];done)),H',⟨by first|omega|exact Nat.le_refl _⟩,⟨bl_ Aa⟩,⟨bl_ Ab⟩,⟨bb_⟩⟩
 case rest =>
  clear HC3;try clear c1
  try clear c2
  try clear p2
  try clear c6
  try clear c7
  try clear c9
  try clear c13
  repeat clear Z
  obtain ⟨kq,x17_2,rfl,HA,HJ2,Aa,Ab,HB⟩:=hcut;cases kq with
  | zero => exact absurd HA.1 (by simp [Aap.j0])
  | succ kj2 =>
   have H:=HA.1;clear HA;simp only [Aap.j0] at H
   by_cases c16 : x17_2 = true
   ·subst c16;have H1 : (some (0,([] : List Int),false)) = some (r1,r2,r3):=by rw [if_pos rfl] at H;exact H
    clear H;have H:=H1;clear H1;simp only [Option.some.injEq,Prod.mk.injEq] at H
    obtain ⟨rfl,rfl,rfl⟩:=H;have Z:=Ad.1;have Z:=Ac.1;obtain ⟨Z,Z,Z,Z⟩:=o2_ Ab.1;go_wp2
    refine bodyPost_ret (results_ct rfl _ _ Af 26 #[.int .i64 0,.slice none 0 0] (0,0) _ rfl (by (with_reducible repeat (first|refine blk_drewN ?_ _|refine blk_drew ?_|refine blk_alloc ?_ _));refine blk_put (cs:=#[.int .i64 0,.slice none 0 0]) ?_ 1 _ rfl;(with_reducible repeat (first|refine blk_drewN ?_ _|refine blk_drew ?_|refine blk_alloc ?_ _));refine blk_put (cs:=#[.int .i64 0,.slice none 0 0]) ?_ 0 _ rfl;(with_reducible repeat (first|refine blk_drewN ?_ _|refine blk_drew ?_|refine blk_alloc ?_ _));exact Ab.1) Tryd.underlying26 rfl (by kernel_rfl)) rfl ?_
    exact ⟨_,by first|rfl|(simp [errW_none,errW_some] <;> rfl)|(simp [*,errW_none,errW_some] <;> rfl),by first|exact Kd.R_nil _ _ _ _ _|exact Kd.N_nil _ _ _ _ _|exact Kd.V_nil _ _ _ _ _|exact Kd.Q_nil _ _ _ _ _|exact Kd.S_nil _ _ _ _ _,bb_⟩
   ·replace c16:=Bool.eq_false_iff.mpr c16;subst c16;have H1 : (Aap.l0 kj2 l1 ([] : List Int) (l1.length : Int) 0 a0_0 l0_1) = some (r1,r2,r3):=by rw [if_neg (show ¬ (false = true) by decide)] at H;exact H
    clear H;have H:=H1;clear H1;have H':=A_ H;clear H;go_wp2
    go_loopg [6,21] kj2 (fun kq v6 v21 w'=>∃ (x6_2 : List Int) (x21_2 : Int),v21 = .int .i64 x21_2 ∧ Aside0 (Aap.l0 kq l1 x6_2 (l1.length : Int) x21_2 a0_0 l0_1 = some (r1,r2,r3)) ∧ Aside0 (kq ≤ kj2) ∧ Aside0 (Kd.R (Kd.int .i64) 3 w' w.heap.size (fun _=>True) v6 x6_2) ∧ Aside0 (w'.heap[Ak]? = some (.cells #[.int .i64 a0_0,(.slice A0_1 l0_1.length c0_1)] 26 (0,0))) ∧ Aside0 (w'.heap[Af]? = some (.cells #[.int .i64 0,(.slice none 0 0)] 26 (0,0))) ∧ Aside0 (Below w.heap.size w w'))
    case atStart=>exact ⟨(([] : List Int)),(0),(by first|rfl|(simp;done)|(simp [*];done)),H',⟨Nat.le_refl _⟩,⟨by first|exact Kd.R_nil _ _ _ _ _|exact Kd.N_nil _ _ _ _ _|exact Kd.V_nil _ _ _ _ _|exact Kd.Q_nil _ _ _ _ _|exact Kd.S_nil _ _ _ _ _⟩,⟨bl_ Aa⟩,⟨bl_ Ab⟩,⟨bb_⟩⟩
    case round =>
     clear H';try clear c1
     try clear c2
     try clear p2
     try clear c6
     try clear c7
     try clear c9
     try clear c13
     try clear c16
     try clear c17
     repeat clear Z
     try clear p2
     obtain ⟨x6_2,x21_2,rfl,HA,HK2,HO_6,Aa,Ab,HB⟩:=hrel;cases gk with
     | zero=>exact absurd HA.1 (by simp [Aap.l0])
     | succ k2 =>
      have H:=HA.1;clear HA;simp only [Aap.l0] at H
      by_cases c19 : x21_2 < (l1.length : Int)
      ·rw [if_pos c19] at H;have c19b0 : decide (x21_2 < (l1.length : Int)) = true:=decide_eq_true c19;clear c19;replace H:=Option.bind_eq_some_iff.mp H;obtain ⟨Ah,An,H⟩:=H;replace H : (if x6_2.length < 17592186044416 then (Aap.l0 k2 l1 (x6_2 ++ [Ah]) (l1.length : Int) (wrap64 (x21_2 + 1)) a0_0 l0_1) else (none)) = some (r1,r2,r3):=H;have A20:=A_ An;clear An;by_cases c21 : x6_2.length < 17592186044416
       ·rw [if_pos c21] at H;have LMc21:=A_ c21;clear c21;obtain ⟨Ao,Ag⟩ : ∃ y_ : List Int,y_ = (x6_2 ++ [Ah]):=⟨_,rfl⟩;replace H : (Aap.l0 k2 l1 Ao (l1.length : Int) (wrap64 (x21_2 + 1)) a0_0 l0_1) = some (r1,r2,r3):=by first|(rw [Ag];with_reducible exact H)|(have H2_:=(Option.bind_some _ _).symm.trans H;rw [Ag];with_reducible exact H2_)|(have H2_:=(Option.bind_some _ _).symm.trans H;with_reducible exact H2_)|with_reducible exact H|(rw [Ag];exact H)|exact H
        have Aq:=A_ Ag;clear Ag;have H':=A_ H;clear H;go_wp2_with (first|((with_reducible refine gate_callee (f:=86) rfl ?_);refine goesL_ (some 27) rfl rfl Tryd.func86 (by kernel_rfl) rfl #[.slice A1 l1.length c1,.int .i64 x21_2] rfl au_ ?_;(with_reducible refine (Abc.calls k2 _ _ l1 x21_2 Ah _ ?side1 ?side2 A20.1).mono ?_);(case side1=>exact cl_ (Kd.C_below HR1.1 HB.1));(case side2=>exact HC1.1);rintro e w' ⟨rfl,⟨nd,rfl⟩⟩;refine ⟨_,rfl,?_⟩)|((with_reducible refine gate_builtin (b:=.append) (xs:=#[.tmp 24,.tmp 28]) rfl ?_);at_builtin;refine Kd.R_append (Kd.int .i64) (w0:=w) w.heap.size rfl (.tmp 24) (.tmp 28) 24 3 (.int .i64 0) 8 rfl Tryd.underlying24 info3 rfl (by decide) (by omega) u6 x6_2 Ah [.int .i64 Ah] (fun _=>True) (fun _=>False) rfl rfl ?aP (fun _ hk=>hk.elim) ?aF ?aO ?aB ?aS ?aL ?_;(case aP=>exact rfl);(case aB=>exact bb_);(case aF=>exact (fun _ _=>trivial));(case aO=>exact (rl_ HO_6));(case aS=>exact (below_size bb_));(case aL=>have:=LMc21.1;omega);intro Aw w22 ho hb hg hat;rw [← Aq.1] at ho;replace Aa:=A_ (blk_grown (g:=Ak) (o:=.cells #[.int .i64 a0_0,.slice A0_1 l0_1.length c0_1] 26 (0,0)) (bl_ Aa) hg (Kd.R_ne HO_6.1 Aa.1 (by decide)));replace Ab:=A_ (blk_grown (g:=Af) (o:=.cells #[.int .i64 0,.slice none 0 0] 26 (0,0)) (bl_ Ab) hg (Kd.R_ne HO_6.1 Ab.1 (by decide)));replace HB:=A_ (hb);have Ar:=A_ (ho);clear HO_6;clear ho hb hg hat))
        go_roundg k2
        case measure=>have:=HJ2.1;have:=HK2.1;omega
        case rel=>exact ⟨(Ao),(wrap64 (x21_2 + 1)),(by first|rfl|(simp;done)|(simp [*];done)),H',⟨by have:=HJ2.1;have:=HK2.1;omega⟩,⟨rl_ Ar⟩,⟨bl_ Aa⟩,⟨bl_ Ab⟩,⟨bb_⟩⟩
       ·rw [if_neg c21] at H;exact absurd H (by simp)
      ·rw [if_neg c19] at H;have c19b0 : decide (x21_2 < (l1.length : Int)) = false:=decide_eq_false c19;clear c19;replace H:=Option.bind_eq_some_iff.mp H;obtain ⟨⟨Ai,Al⟩,Ap,H⟩:=H;replace H : (some (Ai,Al,true)) = some (r1,r2,r3):=H;have A23:=A_ Ap;clear Ap;simp only [Option.some.injEq,Prod.mk.injEq] at H
       obtain ⟨rfl,rfl,rfl⟩:=H;have Z:=Ac.1;have Z:=Ad.1;obtain ⟨Z,Z,Z,Z⟩:=o2_ Aa.1;obtain ⟨Ao26,co26,eo26⟩:=Kd.R_slice HO_6.1;subst eo26;go_wp2_with (first|((with_reducible refine gate_callee (f:=79) rfl ?_);refine goesL_ (some 33) rfl rfl Tryd.func79 (by kernel_rfl) rfl #[.agg #[.int .i64 a0_0,.slice A0_1 l0_1.length c0_1],.slice Ao26 x6_2.length co26] rfl au_ ?_;(with_reducible refine (Aar.calls k2 a0_0 _ _ l0_1 _ _ x6_2 Ai Al _ ?side1 ?side2 ?side3 ?side4 A23.1).mono ?_);(case side1=>exact cl_ (Kd.C_below HR0_1.1 HB.1));(case side2=>exact HC0_1.1);(case side3=>exact cl_ (Kd.R_reads' HO_6.1).2.2);(case side4=>exact (Kd.R_reads' HO_6.1).2.1);rintro e w27 ⟨Ax,rfl,ho0,hb⟩;refine ⟨_,rfl,?_⟩;have Am:=A_ (Kd.R_lower (Kd.R_new' ho0 (Kd.R_lt (rl_ HO_6))) (below_size bb_));replace HO_6:=A_ (Kd.R_elder' (rl_ HO_6) (Kd.R_base ho0) hb);replace Aa:=bz Aa hb;replace Ab:=bz Ab hb;replace HB:=A_ (below_step bb_ hb);(try clear hb);(try clear hb2);(try clear hk);(try clear hi);(try clear ho0);obtain ⟨Z,Z,Z,Z⟩:=o2_ Ab.1;obtain ⟨Ao29,co29,eo29⟩:=Kd.R_slice Am.1;subst eo29))
       refine bodyPost_ret (results_ct rfl _ _ Af 26 #[.int .i64 Ai,.slice Ao29 Al.length co29] (0,0) _ rfl (by (with_reducible repeat (first|refine blk_drewN ?_ _|refine blk_drew ?_|refine blk_alloc ?_ _));refine blk_put (cs:=#[.int .i64 Ai,.slice none 0 0]) ?_ 1 _ rfl;(with_reducible repeat (first|refine blk_drewN ?_ _|refine blk_drew ?_|refine blk_alloc ?_ _));refine blk_put (cs:=#[.int .i64 0,.slice none 0 0]) ?_ 0 _ rfl;(with_reducible repeat (first|refine blk_drewN ?_ _|refine blk_drew ?_|refine blk_alloc ?_ _));exact Ab.1) Tryd.underlying26 rfl (by kernel_rfl)) rfl ?_
       exact ⟨_,by first|rfl|(simp [errW_none,errW_some] <;> rfl)|(simp [*,errW_none,errW_some] <;> rfl),rq_ (Kd.R_mono (Kd.R_far (p:=⟨Af,1,none⟩) (Kd.R_far (p:=⟨Af,0,none⟩) (Kd.R_types Am.1 Ab.1 (by decide)) (fun _ hk=>hk.2) (.int .i64 Ai)) (fun _ hk=>hk.2) (.slice Ao29 Al.length co29)) (fun _ hk=>trivial)),bb_⟩
theorem Aa4.nilAt {P : Program} (w : World) (d : Nat) (t e : TypeId) (a : Option Addr) (l c : Nat) (h : P.underlying t = some (.slice e)) : (Op.equalIn (d + 1) t (.slice a l c) (.slice none 0 0)).run P w = .ok a.isNone w:=by
 cases a <;> simp [Op.equalIn,run_underlying h]
theorem Aa4.nilNo {P : Program} (w : World) (t e : TypeId) (a : Option Addr) (l c : Nat) (h : P.underlying t = some (.slice e)) : (binOp .neq t (.slice a l c) (.slice none 0 0)).run P w = .ok (.bool (!a.isNone)) w:=by
 have h1 : (Op.equal t (.slice a l c) (.slice none 0 0)).run P w = .ok a.isNone w:=Aa4.nilAt w 9999 t e a l c h;simp [binOp,h1]
theorem Aa4.nilN (w : World) (a : Option Addr) (l c : Nat) : (binOp .neq 24 (.slice a l c) (.slice none 0 0)).run Tryd.prog w = .ok (.bool (!a.isNone)) w:=Aa4.nilNo w _ _ a l c Tryd.underlying24
attribute [local go_sem] Aa4.nilN
def Aa4.f (k : Nat) (a0_0 : Int) (l0_1 : List Int) (a1_0 : Int) (l1_1 : List Int) : Option (Bool × Bool) := (Aal.f k a0_0 l0_1).bind fun t674 => (if t674 = true then ((Aal.f k a1_0 l1_1).bind fun t675 => (if t675 = true then (if (mx a0_0 a1_0) > 6 then (some (false, false)) else (if a0_0 = a1_0 then ((Aat.f k a0_0 l0_1 a1_0 l1_1).bind fun t676 => (some ((t676 != ([] : List Int) || a1_0 == 0), true))) else (some (false, true)))) else (some (false, false)))) else (some (false, false)))
set_option maxHeartbeats 8000000 in
set_option maxRecDepth 100000 in
theorem Aa4.calls (k : Nat) (a0_0 : Int) (A0_1 : Option Addr) (c0_1 : Nat) (l0_1 : List Int) (a1_0 : Int) (A1_1 : Option Addr) (c1_1 : Nat) (l1_1 : List Int) (r1 : Bool) (r2 : Bool) (w : World) (hr0_1 : Kd.C (Kd.int .i64) w A0_1 l0_1.length l0_1) (hc0_1 : l0_1.length ≤ c0_1) (hr1_1 : Kd.C (Kd.int .i64) w A1_1 l1_1.length l1_1) (hc1_1 : l1_1.length ≤ c1_1) (h : Aa4.f k a0_0 l0_1 a1_0 l1_1 = some (r1,r2)) :
 Calls Tryd.prog 29 #[.agg #[.int .i64 a0_0,.slice A0_1 l0_1.length c0_1],.agg #[.int .i64 a1_0,.slice A1_1 l1_1.length c1_1]] w fun e w'=>e = .returned (.tuple #[.bool r1,.bool r2]) ∧ Below w.heap.size w w':=by
 have hu26:=Tryd.underlying26;have HR0_1:=A_ hr0_1;have HC0_1:=A_ hc0_1;clear hr0_1 hc0_1;have HR1_1:=A_ hr1_1;have HC1_1:=A_ hc1_1;clear hr1_1 hc1_1;have HB:=A_ (Below.refl w.heap.size w);have H : ((Aal.f k a0_0 l0_1).bind fun Am=>(if Am = true then ((Aal.f k a1_0 l1_1).bind fun Af=>(if Af = true then (if (mx a0_0 a1_0) > 6 then (some (false,false)) else (if a0_0 = a1_0 then ((Aat.f k a0_0 l0_1 a1_0 l1_1).bind fun Ae=>(some ((Ae != ([] : List Int) || a1_0 == 0),true))) else (some (false,true)))) else (some (false,false)))) else (some (false,false)))) = some (r1,r2):=h;clear h;replace H:=Option.bind_eq_some_iff.mp H;obtain ⟨Am,A30,H⟩:=H;replace H : (if Am = true then ((Aal.f k a1_0 l1_1).bind fun Af=>(if Af = true then (if (mx a0_0 a1_0) > 6 then (some (false,false)) else (if a0_0 = a1_0 then ((Aat.f k a0_0 l0_1 a1_0 l1_1).bind fun Ae=>(some ((Ae != ([] : List Int) || a1_0 == 0),true))) else (some (false,true)))) else (some (false,false)))) else (some (false,false))) = some (r1,r2):=H;have A3:=A_ A30;clear A30;by_cases c4 : Am = true
 ·subst c4;have H1 : ((Aal.f k a1_0 l1_1).bind fun Af=>(if Af = true then (if (mx a0_0 a1_0) > 6 then (some (false,false)) else (if a0_0 = a1_0 then ((Aat.f k a0_0 l0_1 a1_0 l1_1).bind fun Ae=>(some ((Ae != ([] : List Int) || a1_0 == 0),true))) else (some (false,true)))) else (some (false,false)))) = some (r1,r2):=by rw [if_pos rfl] at H;exact H
  clear H;have H:=H1;clear H1;replace H:=Option.bind_eq_some_iff.mp H;obtain ⟨Af,A50,H⟩:=H;replace H : (if Af = true then (if (mx a0_0 a1_0) > 6 then (some (false,false)) else (if a0_0 = a1_0 then ((Aat.f k a0_0 l0_1 a1_0 l1_1).bind fun Ae=>(some ((Ae != ([] : List Int) || a1_0 == 0),true))) else (some (false,true)))) else (some (false,false))) = some (r1,r2):=H;have A5:=A_ A50;clear A50;by_cases c6 : Af = true
  ·subst c6;have H1 : (if (mx a0_0 a1_0) > 6 then (some (false,false)) else (if a0_0 = a1_0 then ((Aat.f k a0_0 l0_1 a1_0 l1_1).bind fun Ae=>(some ((Ae != ([] : List Int) || a1_0 == 0),true))) else (some (false,true)))) = some (r1,r2):=by rw [if_pos rfl] at H;exact H
   clear H;have H:=H1;clear H1;obtain ⟨ji7,hji7⟩ : ∃ j_ : Int,(mx a0_0 a1_0) = j_:=⟨_,rfl⟩;replace H : (if (ji7) > 6 then (some (false,false)) else (if a0_0 = a1_0 then ((Aat.f k a0_0 l0_1 a1_0 l1_1).bind fun Ae=>(some ((Ae != ([] : List Int) || a1_0 == 0),true))) else (some (false,true)))) = some (r1,r2):=by first|(rw [hji7] at H;exact H)|(simp only [hji7] at H ⊢;exact H)
   (try rw [hji7] at A3);(try rw [hji7] at A5);have hji7_ : (if a0_0 < a1_0 then a1_0 else a0_0) = ji7:=hji7;by_cases c8 : (ji7) > 6
   ·rw [if_pos c8] at H;have c8b0 : decide (6 < (ji7)) = true:=decide_eq_true c8;clear c8;simp only [Option.some.injEq,Prod.mk.injEq] at H
    obtain ⟨rfl,rfl⟩:=H;go_enter Tryd.func29,Tryd.ntmps29
    go_wp2_with (first|((with_reducible refine gate_dst (N:=2) rfl ?_);(try (refine gate_guard (by rfl) ?_;dsimp only));refine box_event ?hg (N:=2) ?hd (cs:=#[.int .i64 a0_0,.slice A0_1 l0_1.length c0_1]) (t:=26) ?hr ?_;(case hd=>rfl);(case hg=>rfl);(case hr=>go_simp;try rfl);intro Ag hg w9 hbox hb;have Aa:=A_ (hbox);have Ah:=A_ (gw_ (w:=w) hg bb_);have Ai:=A_ (gw_ (w:=w) hg bb_);replace HB:=A_ (below_step bb_ hb);clear hb hbox hg)|((with_reducible refine gate_dst (N:=3) rfl ?_);(try (refine gate_guard (by rfl) ?_;dsimp only));refine box_event ?hg (N:=3) ?hd (cs:=#[.int .i64 a1_0,.slice A1_1 l1_1.length c1_1]) (t:=26) ?hr ?_;(case hd=>rfl);(case hg=>rfl);(case hr=>go_simp;try rfl);intro Aj hg w10 hbox hb;have Ab:=A_ (hbox);have Ak:=A_ (gw_ (w:=w) hg bb_);have Al:=A_ (gw_ (w:=w) hg bb_);replace HB:=A_ (below_step bb_ hb);have Ac:=A_ (nl_ hg Aa);have Ad:=A_ (ng_ hg Aa);replace Aa:=bz Aa hb;clear hb hbox hg;have Z:=Ac.1;have Z:=Ad.1;obtain ⟨Z,Z,Z,Z⟩:=o2_ Aa.1)|((with_reducible refine gate_callee (f:=61) rfl ?_);refine goesL_ (some 7) rfl rfl Tryd.func61 (by kernel_rfl) rfl #[.agg #[.int .i64 a0_0,.slice A0_1 l0_1.length c0_1]] rfl au_ ?_;(with_reducible refine (Aal.calls k a0_0 _ _ l0_1 true _ ?side1 ?side2 A3.1).mono ?_);(case side1=>exact cl_ (Kd.C_below HR0_1.1 HB.1));(case side2=>exact HC0_1.1);rintro e w13 ⟨rfl,hb⟩;refine ⟨_,rfl,?_⟩;replace Aa:=bz Aa hb;replace Ab:=bz Ab hb;replace HB:=A_ (below_step bb_ hb);(try clear hb);(try clear hb2);(try clear hk);(try clear hi);obtain ⟨Z,Z,Z,Z⟩:=o2_ Ab.1)|(go_at_call 61;(with_reducible refine (Aal.calls k a1_0 _ _ l1_1 true _ ?side1 ?side2 A5.1).mono ?_);(case side1=>exact cl_ (Kd.C_below HR1_1.1 HB.1));(case side2=>exact HC1_1.1);rintro e w15 ⟨rfl,hb⟩;replace Aa:=bz Aa hb;replace Ab:=bz Ab hb;replace HB:=A_ (below_step bb_ hb);(try clear hb);(try clear hb2);(try clear hk);(try clear hi);obtain ⟨Z,Z,Z,Z⟩:=o2_ Aa.1;obtain ⟨Z,Z,Z,Z⟩:=o2_ Ab.1))
    go_ret2
    exact ⟨by first|rfl|(rw [hnl30,Bool.not_not] <;> rfl)|(simp [*,errW_none,errW_some] <;> rfl)|(simp [errW_none,errW_some] <;> rfl)|(simp only [← hji7];first|rfl|(simp [errW_none,errW_some] <;> rfl))|(simp [*,errW_none,errW_some] <;> rfl),bb_⟩
   ·rw [if_neg c8] at H;have c8b0 : decide (6 < (ji7)) = false:=decide_eq_false c8;clear c8;by_cases c18 : a0_0 = a1_0
    ·rw [if_pos c18] at H;have c18b0 : (a0_0 == a1_0) = true:=beq_iff_eq.mpr c18;have c18b1 : (a0_0 != a1_0) = false:=bne_eq_false_iff_eq.mpr c18;clear c18;replace H:=Option.bind_eq_some_iff.mp H;obtain ⟨Ae,An,H⟩:=H;replace H : (some ((Ae != ([] : List Int) || a1_0 == 0),true)) = some (r1,r2):=H;have A19:=A_ An;clear An;simp only [Option.some.injEq,Prod.mk.injEq] at H
     obtain ⟨rfl,rfl⟩:=H;go_enter Tryd.func29,Tryd.ntmps29
     go_wp2_with (first|((with_reducible refine gate_dst (N:=2) rfl ?_);(try (refine gate_guard (by rfl) ?_;dsimp only));refine box_event ?hg (N:=2) ?hd (cs:=#[.int .i64 a0_0,.slice A0_1 l0_1.length c0_1]) (t:=26) ?hr ?_;(case hd=>rfl);(case hg=>rfl);(case hr=>go_simp;try rfl);intro Ag hg w20 hbox hb;have Aa:=A_ (hbox);have Ah:=A_ (gw_ (w:=w) hg bb_);have Ai:=A_ (gw_ (w:=w) hg bb_);replace HB:=A_ (below_step bb_ hb);clear hb hbox hg)|((with_reducible refine gate_dst (N:=3) rfl ?_);(try (refine gate_guard (by rfl) ?_;dsimp only));refine box_event ?hg (N:=3) ?hd (cs:=#[.int .i64 a1_0,.slice A1_1 l1_1.length c1_1]) (t:=26) ?hr ?_;(case hd=>rfl);(case hg=>rfl);(case hr=>go_simp;try rfl);intro Aj hg w21 hbox hb;have Ab:=A_ (hbox);have Ak:=A_ (gw_ (w:=w) hg bb_);have Al:=A_ (gw_ (w:=w) hg bb_);replace HB:=A_ (below_step bb_ hb);have Ac:=A_ (nl_ hg Aa);have Ad:=A_ (ng_ hg Aa);replace Aa:=bz Aa hb;clear hb hbox hg;have Z:=Ac.1;have Z:=Ad.1;obtain ⟨Z,Z,Z,Z⟩:=o2_ Aa.1)|((with_reducible refine gate_callee (f:=61) rfl ?_);refine goesL_ (some 7) rfl rfl Tryd.func61 (by kernel_rfl) rfl #[.agg #[.int .i64 a0_0,.slice A0_1 l0_1.length c0_1]] rfl au_ ?_;(with_reducible refine (Aal.calls k a0_0 _ _ l0_1 true _ ?side1 ?side2 A3.1).mono ?_);(case side1=>exact cl_ (Kd.C_below HR0_1.1 HB.1));(case side2=>exact HC0_1.1);rintro e w24 ⟨rfl,hb⟩;refine ⟨_,rfl,?_⟩;replace Aa:=bz Aa hb;replace Ab:=bz Ab hb;replace HB:=A_ (below_step bb_ hb);(try clear hb);(try clear hb2);(try clear hk);(try clear hi);obtain ⟨Z,Z,Z,Z⟩:=o2_ Ab.1)|(go_at_call 61;(with_reducible refine (Aal.calls k a1_0 _ _ l1_1 true _ ?side1 ?side2 A5.1).mono ?_);(case side1=>exact cl_ (Kd.C_below HR1_1.1 HB.1));(case side2=>exact HC1_1.1);rintro e w26 ⟨rfl,hb⟩;replace Aa:=bz Aa hb;replace Ab:=bz Ab hb;replace HB:=A_ (below_step bb_ hb);(try clear hb);(try clear hb2);(try clear hk);(try clear hi);obtain ⟨Z,Z,Z,Z⟩:=o2_ Aa.1;obtain ⟨Z,Z,Z,Z⟩:=o2_ Ab.1)|(go_at_call 82;(with_reducible refine (Aat.calls k a0_0 _ _ l0_1 a1_0 _ _ l1_1 Ae _ ?side1 ?side2 ?side3 ?side4 A19.1).mono ?_);(case side1=>exact cl_ (Kd.C_below HR0_1.1 HB.1));(case side2=>exact HC0_1.1);(case side3=>exact cl_ (Kd.C_below HR1_1.1 HB.1));(case side4=>exact HC1_1.1);rintro e w29 ⟨Ap,rfl,ho0,hb,hz_⟩;have HZ_:=A_ hz_;clear hz_;have Ao:=A_ (Kd.R_lower ho0 (below_size bb_));replace Aa:=bz Aa hb;replace Ab:=bz Ab hb;replace HB:=A_ (below_step bb_ hb);(try clear hb);(try clear hb2);(try clear hk);(try clear hi);(try clear ho0);obtain ⟨Ao30,co30,eo30⟩:=Kd.R_slice Ao.1;subst eo30;(try have hnl30:=HZ_.1 _ _ _ rfl);(try clear HZ_)))
     go_ret2
     exact ⟨by first|rfl|(rw [hnl30,Bool.not_not] <;> rfl)|(simp [*,errW_none,errW_some] <;> rfl)|(simp [errW_none,errW_some] <;> rfl)|(simp only [← hji7];first|rfl|(simp [errW_none,errW_some] <;> rfl))|(simp [*,errW_none,errW_some] <;> rfl),bb_⟩
    ·rw [if_neg c18] at H;have c18b0 : (a0_0 == a1_0) = false:=beq_eq_false_iff_ne.mpr c18;have c18b1 : (a0_0 != a1_0) = true:=bne_iff_ne.mpr c18;simp only [Option.some.injEq,Prod.mk.injEq] at H
     obtain ⟨rfl,rfl⟩:=H;go_enter Tryd.func29,Tryd.ntmps29
     go_wp2_with (first|((with_reducible refine gate_dst (N:=2) rfl ?_);(try (refine gate_guard (by rfl) ?_;dsimp only));refine box_event ?hg (N:=2) ?hd (cs:=#[.int .i64 a0_0,.slice A0_1 l0_1.length c0_1]) (t:=26) ?hr ?_;(case hd=>rfl);(case hg=>rfl);(case hr=>go_simp;try rfl);intro Ag hg w31 hbox hb;have Aa:=A_ (hbox);have Ah:=A_ (gw_ (w:=w) hg bb_);have Ai:=A_ (gw_ (w:=w) hg bb_);replace HB:=A_ (below_step bb_ hb);clear hb hbox hg)|((with_reducible refine gate_dst (N:=3) rfl ?_);(try (refine gate_guard (by rfl) ?_;dsimp only));refine box_event ?hg (N:=3) ?hd (cs:=#[.int .i64 a1_0,.slice A1_1 l1_1.length c1_1]) (t:=26) ?hr ?_;(case hd=>rfl);(case hg=>rfl);(case hr=>go_simp;try rfl);intro Aj hg w32 hbox hb;have Ab:=A_ (hbox);have Ak:=A_ (gw_ (w:=w) hg bb_);have Al:=A_ (gw_ (w:=w) hg bb_);replace HB:=A_ (below_step bb_ hb);have Ac:=A_ (nl_ hg Aa);have Ad:=A_ (ng_ hg Aa);replace Aa:=bz Aa hb;clear hb hbox hg;have Z:=Ac.1;have Z:=Ad.1;obtain ⟨Z,Z,Z,Z⟩:=o2_ Aa.1)|((with_reducible refine gate_callee (f:=61) rfl ?_);refine goesL_ (some 7) rfl rfl Tryd.func61 (by kernel_rfl) rfl #[.agg #[.int .i64 a0_0,.slice A0_1 l0_1.length c0_1]] rfl au_ ?_;(with_reducible refine (Aal.calls k a0_0 _ _ l0_1 true _ ?side1 ?side2 A3.1).mono ?_);(case side1=>exact cl_ (Kd.C_below HR0_1.1 HB.1));(case side2=>exact HC0_1.1);rintro e w35 ⟨rfl,hb⟩;refine ⟨_,rfl,?_⟩;replace Aa:=bz Aa hb;replace Ab:=bz Ab hb;replace HB:=A_ (below_step bb_ hb);(try clear hb);(try clear hb2);(try clear hk);(try clear hi);obtain ⟨Z,Z,Z,Z⟩:=o2_ Ab.1)|(go_at_call 61;(with_reducible refine (Aal.calls k a1_0 _ _ l1_1 true _ ?side1 ?side2 A5.1).mono ?_);(case side1=>exact cl_ (Kd.C_below HR1_1.1 HB.1));(case side2=>exact HC1_1.1);rintro e w37 ⟨rfl,hb⟩;replace Aa:=bz Aa hb;replace Ab:=bz Ab hb;replace HB:=A_ (below_step bb_ hb);(try clear hb);(try clear hb2);(try clear hk);(try clear hi);obtain ⟨Z,Z,Z,Z⟩:=o2_ Aa.1;obtain ⟨Z,Z,Z,Z⟩:=o2_ Ab.1))
     go_ret2
     exact ⟨by first|rfl|(rw [hnl30,Bool.not_not] <;> rfl)|(simp [*,errW_none,errW_some] <;> rfl)|(simp [errW_none,errW_some] <;> rfl)|(simp only [← hji7];first|rfl|(simp [errW_none,errW_some] <;> rfl))|(simp [*,errW_none,errW_some] <;> rfl),bb_⟩
  ·replace c6:=Bool.eq_false_iff.mpr c6;subst c6;have H1 : (some (false,false)) = some (r1,r2):=by rw [if_neg (show ¬ (false = true) by decide)] at H;exact H
   clear H;have H:=H1;clear H1;simp only [Option.some.injEq,Prod.mk.injEq] at H
   obtain ⟨rfl,rfl⟩:=H;go_enter Tryd.func29,Tryd.ntmps29
   go_wp2_with (first|((with_reducible refine gate_dst (N:=2) rfl ?_);(try (refine gate_guard (by rfl) ?_;dsimp only));refine box_event ?hg (N:=2) ?hd (cs:=#[.int .i64 a0_0,.slice A0_1 l0_1.length c0_1]) (t:=26) ?hr ?_;(case hd=>rfl);(case hg=>rfl);(case hr=>go_simp;try rfl);intro Ag hg w40 hbox hb;have Aa:=A_ (hbox);have Ah:=A_ (gw_ (w:=w) hg bb_);have Ai:=A_ (gw_ (w:=w) hg bb_);replace HB:=A_ (below_step bb_ hb);clear hb hbox hg)|((with_reducible refine gate_dst (N:=3) rfl ?_);(try (refine gate_guard (by rfl) ?_;dsimp only));refine box_event ?hg (N:=3) ?hd (cs:=#[.int .i64 a1_0,.slice A1_1 l1_1.length c1_1]) (t:=26) ?hr ?_;(case hd=>rfl);(case hg=>rfl);(case hr=>go_simp;try rfl);intro Aj hg w41 hbox hb;have Ab:=A_ (hbox);have Ak:=A_ (gw_ (w:=w) hg bb_);have Al:=A_ (gw_ (w:=w) hg bb_);replace HB:=A_ (below_step bb_ hb);have Ac:=A_ (nl_ hg Aa);have Ad:=A_ (ng_ hg Aa);replace Aa:=bz Aa hb;clear hb hbox hg;have Z:=Ac.1;have Z:=Ad.1;obtain ⟨Z,Z,Z,Z⟩:=o2_ Aa.1)|((with_reducible refine gate_callee (f:=61) rfl ?_);refine goesL_ (some 7) rfl rfl Tryd.func61 (by kernel_rfl) rfl #[.agg #[.int .i64 a0_0,.slice A0_1 l0_1.length c0_1]] rfl au_ ?_;(with_reducible refine (Aal.calls k a0_0 _ _ l0_1 true _ ?side1 ?side2 A3.1).mono ?_);(case side1=>exact cl_ (Kd.C_below HR0_1.1 HB.1));(case side2=>exact HC0_1.1);rintro e w44 ⟨rfl,hb⟩;refine ⟨_,rfl,?_⟩;replace Aa:=bz Aa hb;replace Ab:=bz Ab hb;replace HB:=A_ (below_step bb_ hb);(try clear hb);(try clear hb2);(try clear hk);(try clear hi);obtain ⟨Z,Z,Z,Z⟩:=o2_ Ab.1)|(go_at_call 61;(with_reducible refine (Aal.calls k a1_0 _ _ l1_1 false _ ?side1 ?side2 A5.1).mono ?_);(case side1=>exact cl_ (Kd.C_below HR1_1.1 HB.1));(case side2=>exact HC1_1.1);rintro e w46 ⟨rfl,hb⟩;replace Aa:=bz Aa hb;replace Ab:=bz Ab hb;replace HB:=A_ (below_step bb_ hb);(try clear hb);(try clear hb2);(try clear hk);(try clear hi)))
   go_ret2
   exact ⟨by first|rfl|(rw [hnl30,Bool.not_not] <;> rfl)|(simp [*,errW_none,errW_some] <;> rfl)|(simp [errW_none,errW_some] <;> rfl)|(simp [*,errW_none,errW_some] <;> rfl),bb_⟩
 ·replace c4:=Bool.eq_false_iff.mpr c4;subst c4;have H1 : (some (false,false)) = some (r1,r2):=by rw [if_neg (show ¬ (false = true) by decide)] at H;exact H
  clear H;have H:=H1;clear H1;simp only [Option.some.injEq,Prod.mk.injEq] at H
  obtain ⟨rfl,rfl⟩:=H;go_enter Tryd.func29,Tryd.ntmps29
  go_wp2_with (first|((with_reducible refine gate_dst (N:=2) rfl ?_);(try (refine gate_guard (by rfl) ?_;dsimp only));refine box_event ?hg (N:=2) ?hd (cs:=#[.int .i64 a0_0,.slice A0_1 l0_1.length c0_1]) (t:=26) ?hr ?_;(case hd=>rfl);(case hg=>rfl);(case hr=>go_simp;try rfl);intro Ag hg w47 hbox hb;have Aa:=A_ (hbox);have Ah:=A_ (gw_ (w:=w) hg bb_);have Ai:=A_ (gw_ (w:=w) hg bb_);replace HB:=A_ (below_step bb_ hb);clear hb hbox hg)|((with_reducible refine gate_dst (N:=3) rfl ?_);(try (refine gate_guard (by rfl) ?_;dsimp only));refine box_event ?hg (N:=3) ?hd (cs:=#[.int .i64 a1_0,.slice A1_1 l1_1.length c1_1]) (t:=26) ?hr ?_;(case hd=>rfl);(case hg=>rfl);(case hr=>go_simp;try rfl);intro Aj hg w48 hbox hb;have Ab:=A_ (hbox);have Ak:=A_ (gw_ (w:=w) hg bb_);have Al:=A_ (gw_ (w:=w) hg bb_);replace HB:=A_ (below_step bb_ hb);have Ac:=A_ (nl_ hg Aa);have Ad:=A_ (ng_ hg Aa);replace Aa:=bz Aa hb;clear hb hbox hg;have Z:=Ac.1;have Z:=Ad.1;obtain ⟨Z,Z,Z,Z⟩:=o2_ Aa.1)|((with_reducible refine gate_callee (f:=61) rfl ?_);refine goesL_ (some 7) rfl rfl Tryd.func61 (by kernel_rfl) rfl #[.agg #[.int .i64 a0_0,.slice A0_1 l0_1.length c0_1]] rfl au_ ?_;(with_reducible refine (Aal.calls k a0_0 _ _ l0_1 false _ ?side1 ?side2 A3.1).mono ?_);(case side1=>exact cl_ (Kd.C_below HR0_1.1 HB.1));(case side2=>exact HC0_1.1);rintro e w51 ⟨rfl,hb⟩;refine ⟨_,rfl,?_⟩;replace Aa:=bz Aa hb;replace Ab:=bz Ab hb;replace HB:=A_ (below_step bb_ hb);(try clear hb);(try clear hb2);(try clear hk);(try clear hi)))
  go_ret2
  exact ⟨by first|rfl|(rw [hnl30,Bool.not_not] <;> rfl)|(simp [*,errW_none,errW_some] <;> rfl)|(simp [errW_none,errW_some] <;> rfl)|(simp [*,errW_none,errW_some] <;> rfl),bb_⟩
end Go.Proofs.YtfjpilcmjabikaaDoor.P

