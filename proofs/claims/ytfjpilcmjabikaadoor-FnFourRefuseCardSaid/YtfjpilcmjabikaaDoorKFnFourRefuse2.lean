/- A part of the proof that the law FnFourRefuse holds at every input. Written by wip/pack.py: the kit's printed words that are used, the functions' walks as wip/gen.py prints them, and hand proofs. -/
import Derived.Test.YtfjpilcmjabikaaDoorKFnFourRefuse1
namespace Go.Proofs.YtfjpilcmjabikaaDoor.P
open Go.RowKit Go.Proofs.YtfjpilcmjabikaaDoorW.PrintWords Go.Proofs.YtfjpilcmjabikaaDoorW.PrintLast Go.Proofs.YtfjpilcmjabikaaDoorW.PrintMore
open Bool renaming true → T, false → F
open List renaming setIfInBounds_toArray → L_, set_cons_zero → M_, set_cons_succ → N_, map_toArray → P_, map_cons → Q_, map_nil → R_, length_drop → S_, length_take → U_
open Aside0 renaming mk → A_
attribute [local go_sem] max2_int min2_int max_two min_two max_three min_three max_four min_four
set_option linter.unusedVariables false
set_option linter.unusedSimpArgs false
attribute [local go_sem] fldOrder_0 fldOrder_1
mutual
def spec_CloseRelation.l0 : Nat → Int → Int → Int → List Int → Option (Int × List Int × Bool)
 | 0,_,_,_,_=>none
 | k + 1,x19,x20,x140000,x140001=>if x20 < x19 then (spec_CloseRelation.l1 k x20 x19 x20 (x140001.length : Int) 0 x140000 x140001) else (some (x140000,x140001,true))
def spec_CloseRelation.l1 : Nat → Int → Int → Int → Int → Int → Int → List Int → Option (Int × List Int × Bool)
 | 0,_,_,_,_,_,_,_=>none
 | k + 1,x5,x19,x20,x25,x26,x140000,x140001=>if x26 < x25 then (if 0 ≤ x26 then (if x26 < (x140001.length : Int) then ((spec_orHas.f (rd x140001 x26) x5).bind fun t141=>(if t141 = true then (if 0 ≤ x5 then (if x5 < (x140001.length : Int) then (spec_CloseRelation.l1 k x5 x19 x20 x25 (wrap64 (x26 + 1)) x140000 (x140001.set (x26 : Int).toNat (Go.bits .or .i64 (rd x140001 x26) (rd x140001 x5)))) else (none)) else (none)) else (spec_CloseRelation.l1 k x5 x19 x20 x25 (wrap64 (x26 + 1)) x140000 x140001))) else (none)) else (none)) else (spec_CloseRelation.l0 k x19 (wrap64 (x20 + 1)) x140000 x140001)
end
def spec_CloseRelation.f (k : Nat) (a0_0 : Int) (l0_1 : List Int) : Option (Int × List Int × Bool) := (spec_orRelation.f k a0_0 l0_1).bind fun t135 => (if t135 = true then ((spec_l1Own.f l0_1).bind fun t136 => (spec_CloseRelation.l0 k (t136.length : Int) 0 a0_0 t136)) else (some (0, ([] : List Int), false)))
def spec_CloseRelation.T3 : Bool × List (List Nat × List Nat) := (true, [([], []), ([0], [0]), ([], []), ([2], [2]), ([3], [3]), ([1, 4], [1, 4]), ([], []), ([6, 5, 4, 0, 1, 2, 3, 4, 5, 6], [5, 6])])
def spec_CloseRelation.B3 : List Nat := [0, 1, 0, 4, 12, 31, 0, 127]
theorem spec_CloseRelation.tab3 : rtab .any (opsOf Tryd.f12 3) = spec_CloseRelation.T3:=by kernel_rfl
theorem spec_CloseRelation.bits3 : waitsOk spec_CloseRelation.T3.2 spec_CloseRelation.B3 = true:=by kernel_rfl
def spec_CloseRelation.T11 : Bool × List (List Nat × List Nat) := (true, [([], []), ([0], [0]), ([], []), ([1, 2], [1, 2]), ([3], [3]), ([], []), ([5], [5]), ([], []), ([6, 7], [6, 7]), ([8], [8]), ([4, 9], [4, 9]), ([1, 2, 0, 1, 2, 3, 4, 5, 6, 7, 8, 9, 10], [1, 2]), ([11, 10, 0, 1, 2, 3, 4, 5, 6, 7, 8, 9, 10], [10, 11])])
def spec_CloseRelation.B11 : List Nat := [0, 1, 0, 7, 15, 0, 32, 0, 224, 480, 1023, 2047, 4095]
theorem spec_CloseRelation.tab11 : rtab .any (opsOf Tryd.f12 11) = spec_CloseRelation.T11:=by kernel_rfl
theorem spec_CloseRelation.bits11 : waitsOk spec_CloseRelation.T11.2 spec_CloseRelation.B11 = true:=by kernel_rfl
set_option maxHeartbeats 8000000 in
set_option maxRecDepth 100000 in
theorem spec_CloseRelation.calls (k : Nat) (a0_0 : Int) (A0_1 : Option Addr) (c0_1 : Nat) (l0_1 : List Int) (r1 : Int) (r2 : List Int) (r3 : Bool) (w : World) (hr0_1 : Kd.C (Kd.int .i64) w A0_1 l0_1.length l0_1) (hc0_1 : l0_1.length ≤ c0_1) (h : spec_CloseRelation.f k a0_0 l0_1 = some (r1,r2,r3)) :
 Calls Tryd.prog 12 #[.agg #[.int .i64 a0_0,.slice A0_1 l0_1.length c0_1]] w fun e w'=>∃ v1_ : Value,e = .returned (.tuple #[.agg #[.int .i64 r1,v1_],.bool r3]) ∧ Kd.R (Kd.int .i64) 3 w' w.heap.size (fun _=>True) v1_ r2 ∧ Below w.heap.size w w':=by
 have hu26:=Tryd.underlying26;have HR0_1:=A_ hr0_1;have HC0_1:=A_ hc0_1;clear hr0_1 hc0_1;have HB:=A_ (Below.refl w.heap.size w);have H : ((spec_orRelation.f k a0_0 l0_1).bind fun t135=>(if t135 = true then ((spec_l1Own.f l0_1).bind fun t136=>(spec_CloseRelation.l0 k (t136.length : Int) 0 a0_0 t136)) else (some (0,([] : List Int),false)))) = some (r1,r2,r3):=h;clear h;replace H:=Option.bind_eq_some_iff.mp H;obtain ⟨t135,A20,H⟩:=H;replace H : (if t135 = true then ((spec_l1Own.f l0_1).bind fun t136=>(spec_CloseRelation.l0 k (t136.length : Int) 0 a0_0 t136)) else (some (0,([] : List Int),false))) = some (r1,r2,r3):=H;have A2:=A_ A20;clear A20;by_cases c3 : t135 = true
 ·subst c3;have H1 : ((spec_l1Own.f l0_1).bind fun t136=>(spec_CloseRelation.l0 k (t136.length : Int) 0 a0_0 t136)) = some (r1,r2,r3):=by rw [if_pos rfl] at H;exact H
  clear H;have H:=H1;clear H1;replace H:=Option.bind_eq_some_iff.mp H;obtain ⟨t136,A40,H⟩:=H;replace H : (spec_CloseRelation.l0 k (t136.length : Int) 0 a0_0 t136) = some (r1,r2,r3):=H;have A4:=A_ A40;clear A40;have H':=A_ H;clear H;go_enter Tryd.func12,Tryd.ntmps12
  try go_wp2_with (first|((with_reducible refine gate_dst (N:=1) rfl ?_);refine box_event ?hg (N:=1) ?hd (cs:=#[.int .i64 a0_0,.slice A0_1 l0_1.length c0_1]) (t:=26) ?hr ?_;(case hd=>rfl);(case hg=>rfl);(case hr=>first|(go_simp;done)|(go_simp;rfl));intro gb133 hg w5 hbox hb;have BK133:=A_ (hbox);have GW133:=A_ ((by rw [hg];exact (below_size bb_) : w.heap.size ≤ gb133));have GE133:=A_ ((by rw [hg];exact (below_size bb_) : w.heap.size ≤ gb133));replace HB:=A_ (below_step bb_ hb);clear hb hbox hg)|((with_reducible refine gate_dst (N:=2) rfl ?_);refine box_event ?hg (N:=2) ?hd (cs:=#[.int .i64 0,.slice none 0 0]) (t:=26) ?hr ?_;(case hd=>rfl);(case hg=>rfl);(case hr=>first|(go_simp;done)|(go_simp;rfl));intro gb134 hg w6 hbox hb;have BK134:=A_ (hbox);have GW134:=A_ ((by rw [hg];exact (below_size bb_) : w.heap.size ≤ gb134));have GE134:=A_ ((by rw [hg];exact (below_size bb_) : w.heap.size ≤ gb134));replace HB:=A_ (below_step bb_ hb);have NB133_134:=A_ ((by rw [hg];exact Nat.ne_of_lt (blk_lt (bl_ BK133)) : gb133 ≠ gb134));have NB134_133:=A_ ((by rw [hg];exact Nat.ne_of_gt (blk_lt (bl_ BK133)) : gb134 ≠ gb133));replace BK133:=bz BK133 hb;clear hb hbox hg;have hnb7:=NB133_134.out;have hnc7:=NB134_133.out;have hcz8_0 : w6.cell? ⟨gb133,0,none⟩ = some (.int .i64 a0_0):=blk_cell BK133.out 0;have hcz8_1 : w6.cell? ⟨gb133,1,none⟩ = some (.slice A0_1 l0_1.length c0_1):=blk_cell BK133.out 1;have hfz8_0:=blk_frozen BK133.out 0;have hfz8_1:=blk_frozen BK133.out 1)|((with_reducible refine gate_callee (f:=63) rfl ?_);refine goesL_ (some 8) rfl rfl Tryd.func63 (by kernel_rfl) rfl #[.agg #[.int .i64 a0_0,.slice A0_1 l0_1.length c0_1]] rfl au_ ?_;(with_reducible refine (spec_orRelation.calls k a0_0 _ _ l0_1 true _ ?side1 ?side2 A2.out).mono ?_);(case side1=>exact cl_ (Kd.C_below HR0_1.out HB.out));(case side2=>exact HC0_1.out);rintro e w9 ⟨rfl,hb⟩;refine ⟨_,rfl,?_⟩;replace BK133:=bz BK133 hb;replace BK134:=bz BK134 hb;replace HB:=A_ (below_step bb_ hb);(try clear hb);(try clear hb2);(try clear hk);(try clear hi)))
  replace BK133:=A_ (blk_drew BK133.out);replace BK134:=A_ (blk_drew BK134.out);replace HB:=A_ (below_drew1 HB.out);refine start_ (n:=8) (S:=fun w'=>w'.cell? ⟨gb133,0,none⟩ = some (.int .i64 a0_0) ∧ w'.cell? ⟨gb133,1,none⟩ = some (.slice A0_1 l0_1.length c0_1)) (ds:=[]) #[F,F,F,F,F,F,F,F] (by kernel_rfl) rfl rfl ⟨blk_cell BK133.out 0,blk_cell BK133.out 1⟩ (fun hHeld=>?_);refine with_tabW spec_CloseRelation.tab3 spec_CloseRelation.bits3 (fun HT_ HW_=>?_)
  generalize w9.drew = w10 at BK133 BK134 HB hHeld ⊢
  refine pure_ (i:=0) (N:=some 11) (v:=?_) (a':=?_) #[T,F,F,F,F,F,F,F] rfl rfl (any_of HT_.out (by kernel_rfl)) (fun _ _ _ h=>h) (Or.inl ⟨by rfl,?_⟩) ?_ ?_
  rotate_left;·intro w';go_simp;with_reducible rfl
  rotate_left;·simp only [Act.put,L_,M_,N_,i64_w,i32_w];rfl
  refine pure_ (i:=2) (N:=some 13) (v:=?_) (a':=?_) #[T,F,T,F,F,F,F,F] rfl rfl (any_of HT_.out (by kernel_rfl)) (fun _ _ _ h=>h) (Or.inl ⟨by rfl,?_⟩) ?_ ?_
  rotate_left;·intro w';go_simp;with_reducible rfl
  rotate_left;·simp only [Act.put,L_,M_,N_,i64_w,i32_w];rfl
  refine take_ (i:=1) (N:=some 12) (v:=?_) (a':=?_) #[T,T,T,F,F,F,F,F] rfl rfl (take_ofW HT_.out HW_.out (by kernel_rfl)) (fun _ _ _ h=>h) (Or.inl ⟨by rfl,?_⟩) hHeld ?_ ?_
  rotate_left
  ·rintro w' ⟨s0,s1⟩
   go_simp
   with_reducible rfl
  rotate_left;·simp only [Act.put,L_,M_,N_,i64_w,i32_w];rfl
  refine take_ (i:=3) (N:=some 14) (v:=?_) (a':=?_) #[T,T,T,T,F,F,F,F] rfl rfl (take_ofW HT_.out HW_.out (by kernel_rfl)) (fun _ _ _ h=>h) (Or.inl ⟨by rfl,?_⟩) hHeld ?_ ?_
  rotate_left
  ·rintro w' ⟨s0,s1⟩
   go_simp
   with_reducible rfl
  rotate_left;·simp only [Act.put,L_,M_,N_,i64_w,i32_w];rfl
  refine join_ (σ:=Value × Nat) 1 #[T,T,T,T,T,T,T,F] (fun s_=>[(15,s_.1),(4,.pointer (some ⟨s_.2,0,none⟩)),(16,.agg #[.int .i64 a0_0,s_.1])]) (fun s_ w'=>(w'.cell? ⟨gb133,0,none⟩ = some (.int .i64 a0_0) ∧ w'.cell? ⟨gb133,1,none⟩ = some (.slice A0_1 l0_1.length c0_1)) ∧ (Kd.R (Kd.int .i64) 3 w' w.heap.size (fun _=>True) s_.1 t136) ∧ (w'.heap[gb133]? = some (.cells #[.int .i64 a0_0,.slice A0_1 l0_1.length c0_1] 26 (0,0))) ∧ (w'.heap[gb134]? = some (.cells #[.int .i64 0,.slice none 0 0] 26 (0,0))) ∧ (w'.heap[s_.2]? = some (.cells #[.int .i64 0,.slice none 0 0] 26 (0,0))) ∧ (w.heap.size ≤ s_.2) ∧ (w.heap.size ≤ s_.2) ∧ (gb133 ≠ s_.2) ∧ (s_.2 ≠ gb133) ∧ (gb134 ≠ s_.2) ∧ (s_.2 ≠ gb134) ∧ (Below w.heap.size w w')) ?_ ?_
  rotate_left
  ·intro hCont
   refine two_ (i:=4) (j:=6) (Ni:=some 15) (Nj:=some 4) #[T,T,T,T,T,F,F,F] #[T,T,T,T,F,F,T,F] rfl rfl rfl rfl (two_of HT_.out (by kernel_rfl)) (by decide) (by decide) (fun K hK=>?_) (fun K hK=>?_)
   ·skip
    refine goes_ Tryd.func64 (by kernel_rfl) rfl #[.slice A0_1 l0_1.length c0_1] (by rfl) rfl rfl au_ ?_
    with_reducible refine (spec_l1Own.calls _ _ l0_1 t136 _ ?side1 ?side2 A4.out).mono ?_
    (case side1=>exact cl_ (Kd.C_below HR0_1.out HB.out))
    (case side2=>exact HC0_1.out)
    rintro e w11 ⟨v137,rfl,ho0,hb⟩
    refine ⟨_,rfl,?_⟩
    have HO138:=A_ (Kd.R_lower ho0 (below_size bb_));replace BK133:=bz BK133 hb;replace BK134:=bz BK134 hb;replace HB:=A_ (below_step bb_ hb);(try clear hb);(try clear hb2);(try clear hk);(try clear hi);(try clear ho0);obtain ⟨Ao12,co12,eo12⟩:=Kd.R_slice HO138.out;(first|subst eo12|(injection eo12 with f1_ f2_ f3_;have f4_:=f1_.symm;have f5_:=f3_.symm;clear f1_ f2_ f3_;subst f4_;subst f5_))
    refine hK.out _ _ ⟨blk_cell BK133.out 0,blk_cell BK133.out 1⟩ (fun hHeld=>?_)
    clear hK K;refine norm_ (a':=?_) ?_ ?_
    rotate_left
    ·show Act.put _ (some 15) _ = _
     simp only [Act.put,L_,M_,N_,i64_w,i32_w]
     rfl
    refine pure_ (i:=5) (N:=some 16) (v:=?_) (a':=?_) #[T,T,T,T,T,T,F,F] rfl rfl (any_of HT_.out (by kernel_rfl)) (fun _ _ _ h=>h) (Or.inl ⟨by rfl,?_⟩) ?_ ?_
    rotate_left;·intro w';go_simp;with_reducible rfl
    rotate_left;·simp only [Act.put,L_,M_,N_,i64_w,i32_w];rfl
    refine one_ (i:=6) (N:=some 4) #[T,T,T,T,T,T,T,F] rfl rfl (one_of HT_.out (by kernel_rfl)) (by decide) (fun K hK=>?_)
    refine box_step ?hg (N:=4) ?hd (cs:=#[.int .i64 0,.slice none 0 0]) (t:=26) ?hr ?_;(case hd=>rfl);(case hg=>rfl);(case hr=>first|(go_simp;done)|(go_simp;rfl))
    intro gb139 hg w13 hbox hb
    replace HO138:=rb_ HO138 hb;have BK139:=A_ (hbox);have GW139:=A_ ((by rw [hg];exact (below_size bb_) : w.heap.size ≤ gb139));have GE139:=A_ ((by rw [hg];exact (below_size bb_) : w.heap.size ≤ gb139));replace HB:=A_ (below_step bb_ hb);have NB133_139:=A_ ((by rw [hg];exact Nat.ne_of_lt (blk_lt (bl_ BK133)) : gb133 ≠ gb139));have NB139_133:=A_ ((by rw [hg];exact Nat.ne_of_gt (blk_lt (bl_ BK133)) : gb139 ≠ gb133));replace BK133:=bz BK133 hb;have NB134_139:=A_ ((by rw [hg];exact Nat.ne_of_lt (blk_lt (bl_ BK134)) : gb134 ≠ gb139));have NB139_134:=A_ ((by rw [hg];exact Nat.ne_of_gt (blk_lt (bl_ BK134)) : gb139 ≠ gb134));replace BK134:=bz BK134 hb;clear hb hbox hg;refine hK.out _ _ ⟨blk_cell BK133.out 0,blk_cell BK133.out 1⟩ (fun hHeld=>?_)
    clear hK K;refine norm_ (a':=?_) ?_ ?_
    rotate_left
    ·show Act.put _ (some 4) _ = _
     simp only [Act.put,L_,M_,N_,i64_w,i32_w]
     rfl
    exact norm_ (by simp only [putAll,Act.put,L_,M_,N_]) (hCont (.slice Ao12 t136.length co12,gb139) _ ⟨hHeld,(rl_ HO138),(bl_ BK133),(bl_ BK134),(bl_ BK139),GW139.out,GE139.out,NB133_139.out,NB139_133.out,NB134_139.out,NB139_134.out,bb_⟩)
   ·skip
    refine box_step ?hg (N:=4) ?hd (cs:=#[.int .i64 0,.slice none 0 0]) (t:=26) ?hr ?_;(case hd=>rfl);(case hg=>rfl);(case hr=>first|(go_simp;done)|(go_simp;rfl))
    intro gb139 hg w11 hbox hb
    have BK139:=A_ (hbox);have GW139:=A_ ((by rw [hg];exact (below_size bb_) : w.heap.size ≤ gb139));have GE139:=A_ ((by rw [hg];exact (below_size bb_) : w.heap.size ≤ gb139));replace HB:=A_ (below_step bb_ hb);have NB133_139:=A_ ((by rw [hg];exact Nat.ne_of_lt (blk_lt (bl_ BK133)) : gb133 ≠ gb139));have NB139_133:=A_ ((by rw [hg];exact Nat.ne_of_gt (blk_lt (bl_ BK133)) : gb139 ≠ gb133));replace BK133:=bz BK133 hb;have NB134_139:=A_ ((by rw [hg];exact Nat.ne_of_lt (blk_lt (bl_ BK134)) : gb134 ≠ gb139));have NB139_134:=A_ ((by rw [hg];exact Nat.ne_of_gt (blk_lt (bl_ BK134)) : gb139 ≠ gb134));replace BK134:=bz BK134 hb;clear hb hbox hg;refine hK.out _ _ ⟨blk_cell BK133.out 0,blk_cell BK133.out 1⟩ (fun hHeld=>?_)
    clear hK K;refine norm_ (a':=?_) ?_ ?_
    rotate_left
    ·show Act.put _ (some 4) _ = _
     simp only [Act.put,L_,M_,N_,i64_w,i32_w]
     rfl
    refine one_ (i:=4) (N:=some 15) #[T,T,T,T,T,F,T,F] rfl rfl (one_of HT_.out (by kernel_rfl)) (by decide) (fun K hK=>?_)
    refine goes_ Tryd.func64 (by kernel_rfl) rfl #[.slice A0_1 l0_1.length c0_1] (by rfl) rfl rfl au_ ?_
    with_reducible refine (spec_l1Own.calls _ _ l0_1 t136 _ ?side1 ?side2 A4.out).mono ?_
    (case side1=>exact cl_ (Kd.C_below HR0_1.out HB.out))
    (case side2=>exact HC0_1.out)
    rintro e w12 ⟨v137,rfl,ho0,hb⟩
    refine ⟨_,rfl,?_⟩
    have HO138:=A_ (Kd.R_lower ho0 (below_size bb_));replace BK133:=bz BK133 hb;replace BK134:=bz BK134 hb;replace BK139:=bz BK139 hb;replace HB:=A_ (below_step bb_ hb);(try clear hb);(try clear hb2);(try clear hk);(try clear hi);(try clear ho0);obtain ⟨Ao13,co13,eo13⟩:=Kd.R_slice HO138.out;(first|subst eo13|(injection eo13 with f1_ f2_ f3_;have f4_:=f1_.symm;have f5_:=f3_.symm;clear f1_ f2_ f3_;subst f4_;subst f5_))
    refine hK.out _ _ ⟨blk_cell BK133.out 0,blk_cell BK133.out 1⟩ (fun hHeld=>?_)
    clear hK K;refine norm_ (a':=?_) ?_ ?_
    rotate_left
    ·show Act.put _ (some 15) _ = _
     simp only [Act.put,L_,M_,N_,i64_w,i32_w]
     rfl
    refine pure_ (i:=5) (N:=some 16) (v:=?_) (a':=?_) #[T,T,T,T,T,T,T,F] rfl rfl (any_of HT_.out (by kernel_rfl)) (fun _ _ _ h=>h) (Or.inl ⟨by rfl,?_⟩) ?_ ?_
    rotate_left;·intro w';go_simp;with_reducible rfl
    rotate_left;·simp only [Act.put,L_,M_,N_,i64_w,i32_w];rfl
    exact norm_ (by simp only [putAll,Act.put,L_,M_,N_]) (hCont (.slice Ao13 t136.length co13,gb139) _ ⟨hHeld,(rl_ HO138),(bl_ BK133),(bl_ BK134),(bl_ BK139),GW139.out,GE139.out,NB133_139.out,NB139_133.out,NB134_139.out,NB139_134.out,bb_⟩)
  rintro ⟨v137,gb139⟩ w14 ⟨hS_,h0_,h1_,h2_,h3_,h4_,h5_,h6_,h7_,h8_,h9_,h10_⟩
  have n0_ : Aside0 (Kd.R (Kd.int .i64) 3 w14 w.heap.size (fun _=>True) v137 t136):=⟨h0_⟩;have n1_ : Aside0 (w14.heap[gb133]? = some (.cells #[.int .i64 a0_0,.slice A0_1 l0_1.length c0_1] 26 (0,0))):=⟨h1_⟩;have n2_ : Aside0 (w14.heap[gb134]? = some (.cells #[.int .i64 0,.slice none 0 0] 26 (0,0))):=⟨h2_⟩;have n3_ : Aside0 (w14.heap[gb139]? = some (.cells #[.int .i64 0,.slice none 0 0] 26 (0,0))):=⟨h3_⟩;have n4_ : Aside0 (w.heap.size ≤ gb139):=⟨h4_⟩;have n5_ : Aside0 (w.heap.size ≤ gb139):=⟨h5_⟩;have n6_ : Aside0 (gb133 ≠ gb139):=⟨h6_⟩;have n7_ : Aside0 (gb139 ≠ gb133):=⟨h7_⟩;have n8_ : Aside0 (gb134 ≠ gb139):=⟨h8_⟩;have n9_ : Aside0 (gb139 ≠ gb134):=⟨h9_⟩;have n10_ : Aside0 (Below w.heap.size w w14):=⟨h10_⟩;clear BK133;clear BK134;clear HB;clear h0_ h1_ h2_ h3_ h4_ h5_ h6_ h7_ h8_ h9_ h10_;have HO138:=n0_;have BK133:=n1_;have BK134:=n2_;have BK139:=n3_;have GW139:=n4_;have GE139:=n5_;have NB133_139:=n6_;have NB139_133:=n7_;have NB134_139:=n8_;have NB139_134:=n9_;have HB:=n10_;clear n0_ n1_ n2_ n3_ n4_ n5_ n6_ n7_ n8_ n9_ n10_;have hHeld : w14.cell? ⟨gb133,0,none⟩ = some (.int .i64 a0_0) ∧ w14.cell? ⟨gb133,1,none⟩ = some (.slice A0_1 l0_1.length c0_1):=hS_;obtain ⟨Ao15,co15,eo15⟩:=Kd.R_slice HO138.out;(first|subst eo15|(injection eo15 with f1_ f2_ f3_;have f4_:=f1_.symm;have f5_:=f3_.symm;clear f1_ f2_ f3_;subst f4_;subst f5_))
  refine norm_ (a':=?_) ?_ ?_
  rotate_left;·simp only [putAll,Act.put,L_,M_,N_];rfl
  refine one_ (i:=7) (N:=none) #[T,T,T,T,T,T,T,T] rfl rfl (one_of HT_.out (by kernel_rfl)) (by decide) (fun K hK=>?_)
  have hs16 : w14.cell? ⟨gb139,0,none⟩ = some (.int .i64 0):=blk_cell BK139.out 0;have hfs16:=blk_frozen BK139.out 0;have hns16_0:=NB133_139.out;have hns16_1:=NB134_139.out;have hms16_0:=NB139_133.out;have hms16_1:=NB139_134.out;have hs17 : w14.cell? ⟨gb139,1,none⟩ = some (.slice none 0 0):=blk_cell BK139.out 1;have hfs17:=blk_frozen BK139.out 1;have hns17_0:=NB133_139.out;have hns17_1:=NB134_139.out;have hms17_0:=NB139_133.out;have hms17_1:=NB139_134.out;refine skip_ (w1:=?_) (by rfl) rfl ?_ ?_
  rotate_left
  ·go_simp
   rfl
  refine hK.out _ _ ⟨((cell_far (p:=⟨gb139,_,none⟩) NB133_139.out _).trans (((cell_far (p:=⟨gb139,_,none⟩) NB133_139.out _).trans (hHeld.1)))),((cell_far (p:=⟨gb139,_,none⟩) NB133_139.out _).trans (((cell_far (p:=⟨gb139,_,none⟩) NB133_139.out _).trans (hHeld.2))))⟩ (fun hHeld=>?_)
  clear hK K;refine done_ (done_of HT_.out (by kernel_rfl)) ?_
  have hnb18:=NB139_133.out;have hnc18:=NB133_139.out;have hnb19:=NB139_134.out;have hnc19:=NB134_139.out;have hcz20_0 : w14.cell? ⟨gb139,0,none⟩ = some (.int .i64 0):=blk_cell BK139.out 0;have hcz20_1 : w14.cell? ⟨gb139,1,none⟩ = some (.slice none 0 0):=blk_cell BK139.out 1;have hfz20_0:=blk_frozen BK139.out 0;have hfz20_1:=blk_frozen BK139.out 1;try go_wp2
  go_loopg [20] k (fun kq v20 w'=>∃ (x20_1 : Int) (x140001_1 : List Int) (u140001 : Value),v20 = .int .i64 x20_1 ∧ Aside0 (spec_CloseRelation.l0 kq (t136.length : Int) x20_1 a0_0 x140001_1 = some (r1,r2,r3)) ∧ Aside0 (kq ≤ k) ∧ Aside0 (Kd.R (Kd.int .i64) 3 w' w.heap.size (fun _=>True) u140001 x140001_1) ∧ Aside0 (w'.heap[gb133]? = some (.cells #[.int .i64 a0_0,(.slice A0_1 l0_1.length c0_1)] 26 (0,0))) ∧ Aside0 (w'.heap[gb134]? = some (.cells #[.int .i64 0,(.slice none 0 0)] 26 (0,0))) ∧ Aside0 (w'.heap[gb139]? = some (.cells #[.int .i64 a0_0,u140001] 26 (0,0))) ∧ Aside0 (Below w.heap.size w w'))
  case atStart=>exact ⟨(0),(t136),(.slice Ao15 t136.length co15),(by first|rfl|(simp;done)|(simp [*];done)),H',⟨Nat.le_refl _⟩,⟨by (with_reducible repeat (first|apply Kd.R_alloc|apply Kd.R_drewN|apply Kd.R_drew));exact Kd.R_mono (Kd.R_far (p:=⟨gb139,1,none⟩) (Kd.R_far (p:=⟨gb139,0,none⟩) (Kd.R_types HO138.out BK139.out (by decide)) (fun _ hk=>hk.2) (.int .i64 a0_0)) (fun _ hk=>hk.2) (.slice Ao15 t136.length co15)) (fun _ hk=>trivial)⟩,⟨by (with_reducible repeat (first|refine blk_drewN ?_ _|refine blk_drew ?_|refine blk_alloc ?_ _));refine blk_far ?_ NB133_139.out _;(with_reducible repeat (first|refine blk_drewN ?_ _|refine blk_drew ?_|refine blk_alloc ?_ _));refine blk_far ?_ NB133_139.out _;(with_reducible repeat (first|refine blk_drewN ?_ _|refine blk_drew ?_|refine blk_alloc ?_ _));exact BK133.out⟩,⟨by (with_reducible repeat (first|refine blk_drewN ?_ _|refine blk_drew ?_|refine blk_alloc ?_ _));refine blk_far ?_ NB134_139.out _;(with_reducible repeat (first|refine blk_drewN ?_ _|refine blk_drew ?_|refine blk_alloc ?_ _));refine blk_far ?_ NB134_139.out _;(with_reducible repeat (first|refine blk_drewN ?_ _|refine blk_drew ?_|refine blk_alloc ?_ _));exact BK134.out⟩,⟨by (with_reducible repeat (first|refine blk_drewN ?_ _|refine blk_drew ?_|refine blk_alloc ?_ _));refine blk_put (cs:=#[.int .i64 a0_0,.slice none 0 0]) ?_ 1 _ rfl;(with_reducible repeat (first|refine blk_drewN ?_ _|refine blk_drew ?_|refine blk_alloc ?_ _));refine blk_put (cs:=#[.int .i64 0,.slice none 0 0]) ?_ 0 _ rfl;(with_reducible repeat (first|refine blk_drewN ?_ _|refine blk_drew ?_|refine blk_alloc ?_ _));exact BK139.out⟩,⟨bb_⟩⟩
  case round =>
   clear H';try clear c1
   try clear p2
   try clear c3
   try clear c6
   try clear c7
   try clear c12
   try clear c18
   try clear c19
   try clear hcz20_0
   try clear hcz20_1
   try clear hcz8_0
   try clear hcz8_1
   try clear hfz20_0
   try clear hfz20_1
   try clear hfz8_0
   try clear hfz8_1
   obtain ⟨x20_1,x140001_1,u140001,rfl,HA,HK1,HO_140001,BK133,BK134,BK139,HB⟩:=hrel;cases gk with
   | zero=>exact absurd HA.out (by simp [spec_CloseRelation.l0])
   | succ k1 =>
    have H:=HA.out;clear HA;simp only [spec_CloseRelation.l0] at H
    by_cases c21 : x20_1 < (t136.length : Int)
    ·rw [if_pos c21] at H;have c21b0 : decide (x20_1 < (t136.length : Int)) = true:=decide_eq_true c21;clear c21;have H':=A_ H;clear H;have hnb22:=NB139_133.out;have hnc22:=NB133_139.out;have hnb23:=NB139_134.out;have hnc23:=NB134_139.out;have hcz24_0 : wr.cell? ⟨gb139,0,none⟩ = some (.int .i64 a0_0):=blk_cell BK139.out 0;have hcz24_1 : wr.cell? ⟨gb139,1,none⟩ = some (u140001):=blk_cell BK139.out 1;have hfz24_0:=blk_frozen BK139.out 0;have hfz24_1:=blk_frozen BK139.out 1;obtain ⟨Ao25,co25,eo25⟩:=Kd.R_slice HO_140001.out;subst eo25;go_wp2
     go_loopg [26] k1 (fun kq v26 w'=>∃ (x26_2 : Int) (x140001_2 : List Int) (u140001 : Value),v26 = .int .i64 x26_2 ∧ Aside0 (spec_CloseRelation.l1 kq x20_1 (t136.length : Int) x20_1 (x140001_1.length : Int) x26_2 a0_0 x140001_2 = some (r1,r2,r3)) ∧ Aside0 (kq ≤ k1) ∧ Aside0 (Kd.R (Kd.int .i64) 3 w' w.heap.size (fun _=>True) u140001 x140001_2) ∧ Aside0 (w'.heap[gb133]? = some (.cells #[.int .i64 a0_0,(.slice A0_1 l0_1.length c0_1)] 26 (0,0))) ∧ Aside0 (w'.heap[gb134]? = some (.cells #[.int .i64 0,(.slice none 0 0)] 26 (0,0))) ∧ Aside0 (w'.heap[gb139]? = some (.cells #[.int .i64 a0_0,u140001] 26 (0,0))) ∧ Aside0 (Below w.heap.size w w'))
     case atStart=>exact ⟨(0),(x140001_1),(.slice Ao25 x140001_1.length co25),(by first|rfl|(simp;done)|(simp [*];done)),H',⟨Nat.le_refl _⟩,⟨by (with_reducible repeat (first|apply Kd.R_alloc|apply Kd.R_drewN|apply Kd.R_drew));exact HO_140001.out⟩,⟨bl_ BK133⟩,⟨bl_ BK134⟩,⟨bl_ BK139⟩,⟨bb_⟩⟩
     case round =>
      clear H';try clear c1
      try clear c2
      try clear p2
      try clear c3
      try clear c6
      try clear c7
      try clear c12
      try clear c18
      try clear c19
      try clear c21
      try clear c21b0
      try clear c22
      try clear c23
      try clear hcz20_0
      try clear hcz20_1
      try clear hcz24_0
      try clear hcz24_1
      try clear hcz8_0
      try clear hcz8_1
      try clear hfz20_0
      try clear hfz20_1
      try clear hfz24_0
      try clear hfz24_1
      try clear hfz8_0
      try clear hfz8_1
      try clear p2
      obtain ⟨x26_2,x140001_2,u140001,rfl,HA,HK2,HO_140001,BK133,BK134,BK139,HB⟩:=hrel;cases gk with
      | zero=>exact absurd HA.out (by simp [spec_CloseRelation.l1])
      | succ k2 =>
       have H:=HA.out;clear HA;simp only [spec_CloseRelation.l1] at H
       by_cases c26 : x26_2 < (x140001_1.length : Int)
       ·rw [if_pos c26] at H;have c26b0 : decide (x26_2 < (x140001_1.length : Int)) = true:=decide_eq_true c26;clear c26;by_cases c27 : 0 ≤ x26_2
        ·rw [if_pos c27] at H;have c27b0 : decide (0 ≤ x26_2) = true:=decide_eq_true c27;clear c27;by_cases c28 : x26_2 < (x140001_2.length : Int)
         ·rw [if_pos c28] at H;have c28b0 : decide (x26_2 < (x140001_2.length : Int)) = true:=decide_eq_true c28;clear c28;replace H:=Option.bind_eq_some_iff.mp H;obtain ⟨t141,A290,H⟩:=H;replace H : (if t141 = true then (if 0 ≤ x20_1 then (if x20_1 < (x140001_2.length : Int) then (spec_CloseRelation.l1 k2 x20_1 (t136.length : Int) x20_1 (x140001_1.length : Int) (wrap64 (x26_2 + 1)) a0_0 (x140001_2.set (x26_2 : Int).toNat (Go.bits .or .i64 (rd x140001_2 x26_2) (rd x140001_2 x20_1)))) else (none)) else (none)) else (spec_CloseRelation.l1 k2 x20_1 (t136.length : Int) x20_1 (x140001_1.length : Int) (wrap64 (x26_2 + 1)) a0_0 x140001_2)) = some (r1,r2,r3):=H;have A29:=A_ A290;clear A290;by_cases c30 : t141 = true
          ·subst c30;have H1 : (if 0 ≤ x20_1 then (if x20_1 < (x140001_2.length : Int) then (spec_CloseRelation.l1 k2 x20_1 (t136.length : Int) x20_1 (x140001_1.length : Int) (wrap64 (x26_2 + 1)) a0_0 (x140001_2.set (x26_2 : Int).toNat (Go.bits .or .i64 (rd x140001_2 x26_2) (rd x140001_2 x20_1)))) else (none)) else (none)) = some (r1,r2,r3):=by rw [if_pos rfl] at H;exact H
           clear H;have H:=H1;clear H1;by_cases c31 : 0 ≤ x20_1
           ·rw [if_pos c31] at H;have c31b0 : decide (0 ≤ x20_1) = true:=decide_eq_true c31;clear c31;by_cases c32 : x20_1 < (x140001_2.length : Int)
            ·rw [if_pos c32] at H;have c32b0 : decide (x20_1 < (x140001_2.length : Int)) = true:=decide_eq_true c32;clear c32;obtain ⟨y144,hy144⟩ : ∃ y_ : List Int,y_ = (x140001_2.set (x26_2 : Int).toNat (Go.bits .or .i64 (rd x140001_2 x26_2) (rd x140001_2 x20_1))):=⟨_,rfl⟩;replace H : (spec_CloseRelation.l1 k2 x20_1 (t136.length : Int) x20_1 (x140001_1.length : Int) (wrap64 (x26_2 + 1)) a0_0 y144) = some (r1,r2,r3):=by first|(rw [hy144];with_reducible exact H)|(have H2_:=(Option.bind_some _ _).symm.trans H;rw [hy144];with_reducible exact H2_)|(have H2_:=(Option.bind_some _ _).symm.trans H;with_reducible exact H2_)|with_reducible exact H|(rw [hy144];exact H)|exact H
             have Ny144:=A_ hy144;clear hy144;have H':=A_ H;clear H;have hnb34:=NB139_133.out;have hnc34:=NB133_139.out;have hnb35:=NB139_134.out;have hnc35:=NB134_139.out;have hcz36_0 : wr.cell? ⟨gb139,0,none⟩ = some (.int .i64 a0_0):=blk_cell BK139.out 0;have hcz36_1 : wr.cell? ⟨gb139,1,none⟩ = some (u140001):=blk_cell BK139.out 1;have hfz36_0:=blk_frozen BK139.out 0;have hfz36_1:=blk_frozen BK139.out 1;obtain ⟨Ao37,co37,eo37⟩:=Kd.R_slice HO_140001.out;subst eo37;have p140 : 0 ≤ (x26_2 : Int):=of_decide_eq_true (by first|(with_reducible assumption)|assumption);have q140 : x26_2 < (x140001_2.length : Int):=of_decide_eq_true (by first|(with_reducible assumption)|assumption);obtain ⟨ad140,e140,hx140_0⟩:=Kd.at_int (Kd.R_reads' HO_140001.out).2.2 x26_2 p140 q140;cases e140
             replace p140:=eq_true p140;replace q140:=eq_true q140;try go_wp2_with (first|((with_reducible refine gate_callee (f:=65) rfl ?_);refine goesL_ (some 35) rfl rfl Tryd.func65 (by kernel_rfl) rfl #[.int .i64 (rd x140001_2 x26_2),.int .i64 x20_1] rfl au_ ?_;(with_reducible refine (spec_orHas.calls (rd x140001_2 x26_2) x20_1 true _ A29.out).mono ?_);rintro e w' ⟨rfl,⟨nd,rfl⟩⟩;refine ⟨_,rfl,?_⟩;(try (rw [drewN_self wr];generalize hq_ : World.drewN wr _ = wr;have n0_ : Aside0 (Kd.R (Kd.int .i64) 3 wr w.heap.size (fun _=>True) (.slice (some ad140) x140001_2.length co37) x140001_2):=⟨by rw [← hq_];exact (rl_ HO_140001)⟩;have n1_ : Aside0 (wr.heap[gb133]? = some (.cells #[.int .i64 a0_0,.slice A0_1 l0_1.length c0_1] 26 (0,0))):=⟨by rw [← hq_];exact (bl_ BK133)⟩;have n2_ : Aside0 (wr.heap[gb134]? = some (.cells #[.int .i64 0,.slice none 0 0] 26 (0,0))):=⟨by rw [← hq_];exact (bl_ BK134)⟩;have n3_ : Aside0 (wr.heap[gb139]? = some (.cells #[.int .i64 a0_0,.slice (some ad140) x140001_2.length co37] 26 (0,0))):=⟨by rw [← hq_];exact (bl_ BK139)⟩;have n4_ : Aside0 (Below w.heap.size w wr):=⟨by rw [← hq_];exact bb_⟩;clear HO_140001 BK133 BK134 BK139 HB hq_;have HO_140001:=n0_;have BK133:=n1_;have BK134:=n2_;have BK139:=n3_;have HB:=n4_;clear n0_ n1_ n2_ n3_ n4_;have hcu133_0 : wr.cell? ⟨gb133,0,none⟩ = some (.int .i64 a0_0):=blk_cell BK133.out 0;have hfu133_0:=blk_frozen BK133.out 0;have hcu133_1 : wr.cell? ⟨gb133,1,none⟩ = some (.slice A0_1 l0_1.length c0_1):=blk_cell BK133.out 1;have hfu133_1:=blk_frozen BK133.out 1;have hcu134_0 : wr.cell? ⟨gb134,0,none⟩ = some (.int .i64 0):=blk_cell BK134.out 0;have hfu134_0:=blk_frozen BK134.out 0;have hcu134_1 : wr.cell? ⟨gb134,1,none⟩ = some (.slice none 0 0):=blk_cell BK134.out 1;have hfu134_1:=blk_frozen BK134.out 1;have hcu139_0 : wr.cell? ⟨gb139,0,none⟩ = some (.int .i64 a0_0):=blk_cell BK139.out 0;have hfu139_0:=blk_frozen BK139.out 0;have hcu139_1 : wr.cell? ⟨gb139,1,none⟩ = some (.slice (some ad140) x140001_2.length co37):=blk_cell BK139.out 1;have hfu139_1:=blk_frozen BK139.out 1))))
             replace HO_140001:=A_ (Kd.R_drew HO_140001.out);replace BK133:=A_ (blk_drew BK133.out);replace BK134:=A_ (blk_drew BK134.out);replace BK139:=A_ (blk_drew BK139.out);replace HB:=A_ (below_drew1 HB.out);have p142 : 0 ≤ (x26_2 : Int):=of_decide_eq_true (by first|(with_reducible assumption)|assumption);have q142 : x26_2 < (x140001_2.length : Int):=of_decide_eq_true (by first|(with_reducible assumption)|assumption);obtain ⟨ad142,e142,hx142_0⟩:=Kd.at_int (Kd.R_reads' HO_140001.out).2.2 x26_2 p142 q142;obtain rfl : ad140 = ad142:=(by injection e142);replace p142:=eq_true p142;replace q142:=eq_true q142;have p143 : 0 ≤ (x20_1 : Int):=of_decide_eq_true (by first|(with_reducible assumption)|assumption);have q143 : x20_1 < (x140001_2.length : Int):=of_decide_eq_true (by first|(with_reducible assumption)|assumption);obtain ⟨ad143,e143,hx143_0⟩:=Kd.at_int (Kd.R_reads' HO_140001.out).2.2 x20_1 p143 q143;obtain rfl : ad140 = ad143:=(by injection e143);replace p143:=eq_true p143;replace q143:=eq_true q143;have p33 : 0 ≤ (x26_2 : Int):=of_decide_eq_true (by first|(with_reducible assumption)|assumption);have q33 : (x26_2 : Int) < ((x140001_2.length : Int) : Int):=of_decide_eq_true (by first|(with_reducible assumption)|assumption);obtain ⟨go33,co33,eo33,gb33,gl33,cl33,HG33⟩:=Kd.R_form HO_140001.out (by omega);(first|cases eo33|(injection eo33 with ea_ en_ ec_;(first|subst ea_|(injection ea_ with ea_;subst ea_));subst ec_;clear en_))
             have GB33:=A_ gb33;have GG33:=A_ HG33;clear gb33 gl33 HG33;(first|simp only [add_plain] at hx140_0|skip)
             (first|simp only [add_plain] at hx142_0|skip)
             (first|simp only [add_plain] at hx143_0|skip)
             obtain ⟨hx33_0,hf33_0⟩:=Kd.R_celln 0 HO_140001.out (x26_2 : Int) p33 q33;replace p33:=eq_true p33;replace q33:=eq_true q33;have HP39:=Kd.R_putn HO_140001.out (x26_2 : Int) (Go.bits .or .i64 (rd x140001_2 x26_2) (rd x140001_2 x20_1));rw [← Ny144.out] at HP39;have HQ39:=A_ HP39;clear HP39;refine start_ (n:=13) (S:=fun w'=>w'.cell? ⟨gb139,0,none⟩ = some (.int .i64 a0_0) ∧ w'.cell? ⟨gb139,1,none⟩ = some (.slice (some ⟨go33,0,none⟩) x140001_2.length co37) ∧ w'.cell? ⟨go33,(x26_2).toNat,none⟩ = some (.int .i64 (rd x140001_2 x26_2)) ∧ w'.cell? ⟨go33,(x20_1).toNat,none⟩ = some (.int .i64 (rd x140001_2 x20_1))) (ds:=[12]) #[F,F,F,F,F,F,F,F,F,F,F,F,F] (by kernel_rfl) rfl rfl ⟨blk_cell BK139.out 0,blk_cell BK139.out 1,hx142_0,hx143_0⟩ (fun hHeld=>?_);refine with_tabW spec_CloseRelation.tab11 spec_CloseRelation.bits11 (fun HT_ HW_=>?_)
             generalize wr.drew = w38 at HO_140001 BK133 BK134 BK139 HB GG33 HQ39 hf33_0 hx140_0 hx142_0 hx143_0 hx33_0 hHeld ⊢
             refine pure_ (i:=0) (N:=some 36) (v:=?_) (a':=?_) #[T,F,F,F,F,F,F,F,F,F,F,F,F] rfl rfl (any_of HT_.out (by kernel_rfl)) (fun _ _ _ h=>h) (Or.inl ⟨by rfl,?_⟩) ?_ ?_
             rotate_left;·intro w';go_simp;with_reducible rfl
             rotate_left;·simp only [Act.put,L_,M_,N_,i64_w,i32_w];rfl
             refine pure_ (i:=2) (N:=some 38) (v:=?_) (a':=?_) #[T,F,T,F,F,F,F,F,F,F,F,F,F] rfl rfl (any_of HT_.out (by kernel_rfl)) (fun _ _ _ h=>h) (Or.inl ⟨by rfl,?_⟩) ?_ ?_
             rotate_left;·intro w';go_simp;with_reducible rfl
             rotate_left;·simp only [Act.put,L_,M_,N_,i64_w,i32_w];rfl
             refine pure_ (i:=5) (N:=some 41) (v:=?_) (a':=?_) #[T,F,T,F,F,T,F,F,F,F,F,F,F] rfl rfl (any_of HT_.out (by kernel_rfl)) (fun _ _ _ h=>h) (Or.inl ⟨by rfl,?_⟩) ?_ ?_
             rotate_left;·intro w';go_simp;with_reducible rfl
             rotate_left;·simp only [Act.put,L_,M_,N_,i64_w,i32_w];rfl
             refine pure_ (i:=7) (N:=some 43) (v:=?_) (a':=?_) #[T,F,T,F,F,T,F,T,F,F,F,F,F] rfl rfl (any_of HT_.out (by kernel_rfl)) (fun _ _ _ h=>h) (Or.inl ⟨by rfl,?_⟩) ?_ ?_
             rotate_left;·intro w';go_simp;with_reducible rfl
             rotate_left;·simp only [Act.put,L_,M_,N_,i64_w,i32_w];rfl
             refine take_ (i:=1) (N:=some 37) (v:=?_) (a':=?_) #[T,T,T,F,F,T,F,T,F,F,F,F,F] rfl rfl (take_ofW HT_.out HW_.out (by kernel_rfl)) (fun _ _ _ h=>h) (Or.inl ⟨by rfl,?_⟩) hHeld ?_ ?_
             rotate_left
             ·rintro w' ⟨s0,s1,s2,s3⟩
              go_simp
              with_reducible rfl
             rotate_left;·simp only [Act.put,L_,M_,N_,i64_w,i32_w];rfl
             refine pure_ (i:=3) (N:=some 39) (v:=?_) (a':=?_) #[T,T,T,T,F,T,F,T,F,F,F,F,F] rfl rfl (any_of HT_.out (by kernel_rfl)) (fun _ _ _ h=>h) (Or.inl ⟨by rfl,?_⟩) ?_ ?_
             rotate_left;·intro w';go_simp;with_reducible rfl
             rotate_left;·simp only [Act.put,L_,M_,N_,i64_w,i32_w];rfl
             refine take_ (i:=4) (N:=some 40) (v:=?_) (a':=?_) #[T,T,T,T,T,T,F,T,F,F,F,F,F] rfl rfl (take_ofW HT_.out HW_.out (by kernel_rfl)) (fun _ _ _ h=>h) (Or.inl ⟨by rfl,?_⟩) hHeld ?_ ?_
             rotate_left
             ·rintro w' ⟨s0,s1,s2,s3⟩
              go_simp
              with_reducible rfl
             rotate_left;·simp only [Act.put,L_,M_,N_,i64_w,i32_w];rfl
             refine take_ (i:=6) (N:=some 42) (v:=?_) (a':=?_) #[T,T,T,T,T,T,T,T,F,F,F,F,F] rfl rfl (take_ofW HT_.out HW_.out (by kernel_rfl)) (fun _ _ _ h=>h) (Or.inl ⟨by rfl,?_⟩) hHeld ?_ ?_
             rotate_left
             ·rintro w' ⟨s0,s1,s2,s3⟩
              go_simp
              with_reducible rfl
             rotate_left;·simp only [Act.put,L_,M_,N_,i64_w,i32_w];rfl
             refine pure_ (i:=8) (N:=some 44) (v:=?_) (a':=?_) #[T,T,T,T,T,T,T,T,T,F,F,F,F] rfl rfl (any_of HT_.out (by kernel_rfl)) (fun _ _ _ h=>h) (Or.inl ⟨by rfl,?_⟩) ?_ ?_
             rotate_left;·intro w';go_simp;with_reducible rfl
             rotate_left;·simp only [Act.put,L_,M_,N_,i64_w,i32_w];rfl
             refine take_ (i:=9) (N:=some 45) (v:=?_) (a':=?_) #[T,T,T,T,T,T,T,T,T,T,F,F,F] rfl rfl (take_ofW HT_.out HW_.out (by kernel_rfl)) (fun _ _ _ h=>h) (Or.inl ⟨by rfl,?_⟩) hHeld ?_ ?_
             rotate_left
             ·rintro w' ⟨s0,s1,s2,s3⟩
              go_simp
              with_reducible rfl
             rotate_left;·simp only [Act.put,L_,M_,N_,i64_w,i32_w];rfl
             refine pure_ (i:=10) (N:=some 46) (v:=?_) (a':=?_) #[T,T,T,T,T,T,T,T,T,T,T,F,F] rfl rfl (any_of HT_.out (by kernel_rfl)) (fun _ _ _ h=>h) (Or.inl ⟨by rfl,?_⟩) ?_ ?_
             rotate_left;·intro w';go_simp;with_reducible rfl
             rotate_left;·simp only [Act.put,L_,M_,N_,i64_w,i32_w];rfl
             refine pure_ (i:=11) (N:=some 47) (v:=?_) (a':=?_) #[T,T,T,T,T,T,T,T,T,T,T,T,F] rfl rfl (any_of HT_.out (by kernel_rfl)) (fun _ _ _ h=>h) (Or.inl ⟨by rfl,?_⟩) ?_ ?_
             rotate_left;·intro w';go_simp;with_reducible rfl
             rotate_left;·simp only [Act.put,L_,M_,N_,i64_w,i32_w];rfl
             refine last_ (i:=12) (N:=none) #[T,T,T,T,T,T,T,T,T,T,T,T,T] rfl rfl (one_of HT_.out (by kernel_rfl)) (by decide) (fun K hK=>?_)
             refine skip_ (w1:=?_) (by rfl) rfl ?_ ?_
             rotate_left
             ·go_simp
              rfl
             refine hK.out _ _ ?_
             clear hK K;refine done_ (done_of HT_.out (by kernel_rfl)) ?_
             try go_wp2
             go_roundg k2
             case measure=>have:=HK1.out;have:=HK2.out;omega
             case rel=>exact ⟨(wrap64 (x26_2 + 1)),(y144),(.slice (some ⟨go33,0,none⟩) x140001_2.length co37),(by first|rfl|(simp;done)|(simp [*];done)),H',⟨by have:=HK1.out;have:=HK2.out;omega⟩,⟨by (with_reducible repeat (first|apply Kd.R_alloc|apply Kd.R_drewN|apply Kd.R_drew));exact HQ39.out⟩,⟨by (with_reducible repeat (first|refine blk_drewN ?_ _|refine blk_drew ?_|refine blk_alloc ?_ _));refine blk_far ?_ (by have h_:=Kd.R_ne HO_140001.out BK133.out (by decide);intro e_;exact h_ (by rw [e_];rfl)) _;(with_reducible repeat (first|refine blk_drewN ?_ _|refine blk_drew ?_|refine blk_alloc ?_ _));exact BK133.out⟩,⟨by (with_reducible repeat (first|refine blk_drewN ?_ _|refine blk_drew ?_|refine blk_alloc ?_ _));refine blk_far ?_ (by have h_:=Kd.R_ne HO_140001.out BK134.out (by decide);intro e_;exact h_ (by rw [e_];rfl)) _;(with_reducible repeat (first|refine blk_drewN ?_ _|refine blk_drew ?_|refine blk_alloc ?_ _));exact BK134.out⟩,⟨by (with_reducible repeat (first|refine blk_drewN ?_ _|refine blk_drew ?_|refine blk_alloc ?_ _));refine blk_far ?_ (by have h_:=Kd.R_ne HO_140001.out BK139.out (by decide);intro e_;exact h_ (by rw [e_];rfl)) _;(with_reducible repeat (first|refine blk_drewN ?_ _|refine blk_drew ?_|refine blk_alloc ?_ _));exact BK139.out⟩,⟨by repeat (first|(with_reducible first|exact HB.out|apply below_alloc|apply pw_below_drewN|apply below_drew1|refine below_set ?_ GB33.out|refine below_set ?_ (Aside0.out (by assumption)))|exact HB.out)⟩⟩
            ·rw [if_neg c32] at H;exact absurd H (by simp)
           ·rw [if_neg c31] at H;exact absurd H (by simp)
          ·replace c30:=Bool.eq_false_iff.mpr c30;subst c30;have H1 : (spec_CloseRelation.l1 k2 x20_1 (t136.length : Int) x20_1 (x140001_1.length : Int) (wrap64 (x26_2 + 1)) a0_0 x140001_2) = some (r1,r2,r3):=by rw [if_neg (show ¬ (false = true) by decide)] at H;exact H
           clear H;have H:=H1;clear H1;have H':=A_ H;clear H;have hnb40:=NB139_133.out;have hnc40:=NB133_139.out;have hnb41:=NB139_134.out;have hnc41:=NB134_139.out;have hcz42_0 : wr.cell? ⟨gb139,0,none⟩ = some (.int .i64 a0_0):=blk_cell BK139.out 0;have hcz42_1 : wr.cell? ⟨gb139,1,none⟩ = some (u140001):=blk_cell BK139.out 1;have hfz42_0:=blk_frozen BK139.out 0;have hfz42_1:=blk_frozen BK139.out 1;obtain ⟨Ao43,co43,eo43⟩:=Kd.R_slice HO_140001.out;subst eo43;have p140 : 0 ≤ (x26_2 : Int):=of_decide_eq_true (by first|(with_reducible assumption)|assumption);have q140 : x26_2 < (x140001_2.length : Int):=of_decide_eq_true (by first|(with_reducible assumption)|assumption);obtain ⟨ad140,e140,hx140_0⟩:=Kd.at_int (Kd.R_reads' HO_140001.out).2.2 x26_2 p140 q140;cases e140
           replace p140:=eq_true p140;replace q140:=eq_true q140;go_wp2_with (first|((with_reducible refine gate_callee (f:=65) rfl ?_);refine goesL_ (some 35) rfl rfl Tryd.func65 (by kernel_rfl) rfl #[.int .i64 (rd x140001_2 x26_2),.int .i64 x20_1] rfl au_ ?_;(with_reducible refine (spec_orHas.calls (rd x140001_2 x26_2) x20_1 false _ A29.out).mono ?_);rintro e w' ⟨rfl,⟨nd,rfl⟩⟩;refine ⟨_,rfl,?_⟩))
           go_roundg k2
           case measure=>have:=HK1.out;have:=HK2.out;omega
           case rel=>exact ⟨(wrap64 (x26_2 + 1)),(x140001_2),(.slice (some ad140) x140001_2.length co43),(by first|rfl|(simp;done)|(simp [*];done)),H',⟨by have:=HK1.out;have:=HK2.out;omega⟩,⟨by (with_reducible repeat (first|apply Kd.R_alloc|apply Kd.R_drewN|apply Kd.R_drew));exact HO_140001.out⟩,⟨bl_ BK133⟩,⟨bl_ BK134⟩,⟨bl_ BK139⟩,⟨bb_⟩⟩
         ·rw [if_neg c28] at H;exact absurd H (by simp)
        ·rw [if_neg c27] at H;exact absurd H (by simp)
       ·rw [if_neg c26] at H;have c26b0 : decide (x26_2 < (x140001_1.length : Int)) = false:=decide_eq_false c26;clear c26;have H':=A_ H;clear H;go_wp2
        go_roundg k2
        case measure=>have:=HK1.out;have:=HK2.out;omega
        case rel=>exact ⟨(wrap64 (x20_1 + 1)),(x140001_2),(u140001),(by first|rfl|(simp;done)|(simp [*];done)),H',⟨by have:=HK1.out;have:=HK2.out;omega⟩,⟨by (with_reducible repeat (first|apply Kd.R_alloc|apply Kd.R_drewN|apply Kd.R_drew));exact HO_140001.out⟩,⟨bl_ BK133⟩,⟨bl_ BK134⟩,⟨bl_ BK139⟩,⟨bb_⟩⟩
    ·rw [if_neg c21] at H;have c21b0 : decide (x20_1 < (t136.length : Int)) = false:=decide_eq_false c21;clear c21;simp only [Option.some.injEq,Prod.mk.injEq] at H
     obtain ⟨rfl,rfl,rfl⟩:=H;have hnb44:=NB139_133.out;have hnc44:=NB133_139.out;have hnb45:=NB139_134.out;have hnc45:=NB134_139.out;have hcz46_0 : wr.cell? ⟨gb139,0,none⟩ = some (.int .i64 a0_0):=blk_cell BK139.out 0;have hcz46_1 : wr.cell? ⟨gb139,1,none⟩ = some (u140001):=blk_cell BK139.out 1;have hfz46_0:=blk_frozen BK139.out 0;have hfz46_1:=blk_frozen BK139.out 1;have hnb47:=NB134_133.out;have hnc47:=NB133_134.out;have hcz48_0 : wr.cell? ⟨gb134,0,none⟩ = some (.int .i64 0):=blk_cell BK134.out 0;have hcz48_1 : wr.cell? ⟨gb134,1,none⟩ = some (.slice none 0 0):=blk_cell BK134.out 1;have hfz48_0:=blk_frozen BK134.out 0;have hfz48_1:=blk_frozen BK134.out 1;obtain ⟨Ao49,co49,eo49⟩:=Kd.R_slice HO_140001.out;subst eo49;go_wp2
     refine bodyPost_ret (results_ct rfl _ _ gb134 26 #[.int .i64 a0_0,.slice Ao49 x140001_1.length co49] (0,0) _ rfl (by (with_reducible repeat (first|refine blk_drewN ?_ _|refine blk_drew ?_|refine blk_alloc ?_ _));refine blk_put (cs:=#[.int .i64 a0_0,.slice none 0 0]) ?_ 1 _ rfl;(with_reducible repeat (first|refine blk_drewN ?_ _|refine blk_drew ?_|refine blk_alloc ?_ _));refine blk_put (cs:=#[.int .i64 0,.slice none 0 0]) ?_ 0 _ rfl;(with_reducible repeat (first|refine blk_drewN ?_ _|refine blk_drew ?_|refine blk_alloc ?_ _));exact BK134.out) Tryd.underlying26 rfl (by kernel_rfl)) rfl ?_
     exact ⟨_,by first|rfl|(simp [errW_none,errW_some] <;> rfl)|(simp [*,errW_none,errW_some] <;> rfl),by (with_reducible repeat (first|apply Kd.R_alloc|apply Kd.R_drewN|apply Kd.R_drew));exact Kd.R_mono (Kd.R_far (p:=⟨gb134,1,none⟩) (Kd.R_far (p:=⟨gb134,0,none⟩) (Kd.R_types HO_140001.out BK134.out (by decide)) (fun _ hk=>hk.2) (.int .i64 a0_0)) (fun _ hk=>hk.2) (.slice Ao49 x140001_1.length co49)) (fun _ hk=>trivial),bb_⟩
 ·replace c3:=Bool.eq_false_iff.mpr c3;subst c3;have H1 : (some (0,([] : List Int),false)) = some (r1,r2,r3):=by rw [if_neg (show ¬ (false = true) by decide)] at H;exact H
  clear H;have H:=H1;clear H1;simp only [Option.some.injEq,Prod.mk.injEq] at H
  obtain ⟨rfl,rfl,rfl⟩:=H;go_enter Tryd.func12,Tryd.ntmps12
  go_wp2_with (first|((with_reducible refine gate_dst (N:=1) rfl ?_);refine box_event ?hg (N:=1) ?hd (cs:=#[.int .i64 a0_0,.slice A0_1 l0_1.length c0_1]) (t:=26) ?hr ?_;(case hd=>rfl);(case hg=>rfl);(case hr=>first|(go_simp;done)|(go_simp;rfl));intro gb133 hg w50 hbox hb;have BK133:=A_ (hbox);have GW133:=A_ ((by rw [hg];exact (below_size bb_) : w.heap.size ≤ gb133));have GE133:=A_ ((by rw [hg];exact (below_size bb_) : w.heap.size ≤ gb133));replace HB:=A_ (below_step bb_ hb);clear hb hbox hg)|((with_reducible refine gate_dst (N:=2) rfl ?_);refine box_event ?hg (N:=2) ?hd (cs:=#[.int .i64 0,.slice none 0 0]) (t:=26) ?hr ?_;(case hd=>rfl);(case hg=>rfl);(case hr=>first|(go_simp;done)|(go_simp;rfl));intro gb134 hg w51 hbox hb;have BK134:=A_ (hbox);have GW134:=A_ ((by rw [hg];exact (below_size bb_) : w.heap.size ≤ gb134));have GE134:=A_ ((by rw [hg];exact (below_size bb_) : w.heap.size ≤ gb134));replace HB:=A_ (below_step bb_ hb);have NB133_134:=A_ ((by rw [hg];exact Nat.ne_of_lt (blk_lt (bl_ BK133)) : gb133 ≠ gb134));have NB134_133:=A_ ((by rw [hg];exact Nat.ne_of_gt (blk_lt (bl_ BK133)) : gb134 ≠ gb133));replace BK133:=bz BK133 hb;clear hb hbox hg;have hnb52:=NB133_134.out;have hnc52:=NB134_133.out;have hcz53_0 : w51.cell? ⟨gb133,0,none⟩ = some (.int .i64 a0_0):=blk_cell BK133.out 0;have hcz53_1 : w51.cell? ⟨gb133,1,none⟩ = some (.slice A0_1 l0_1.length c0_1):=blk_cell BK133.out 1;have hfz53_0:=blk_frozen BK133.out 0;have hfz53_1:=blk_frozen BK133.out 1)|((with_reducible refine gate_callee (f:=63) rfl ?_);refine goesL_ (some 8) rfl rfl Tryd.func63 (by kernel_rfl) rfl #[.agg #[.int .i64 a0_0,.slice A0_1 l0_1.length c0_1]] rfl au_ ?_;(with_reducible refine (spec_orRelation.calls k a0_0 _ _ l0_1 false _ ?side1 ?side2 A2.out).mono ?_);(case side1=>exact cl_ (Kd.C_below HR0_1.out HB.out));(case side2=>exact HC0_1.out);rintro e w54 ⟨rfl,hb⟩;refine ⟨_,rfl,?_⟩;replace BK133:=bz BK133 hb;replace BK134:=bz BK134 hb;replace HB:=A_ (below_step bb_ hb);(try clear hb);(try clear hb2);(try clear hk);(try clear hi);have hcz55_0 : w54.cell? ⟨gb134,0,none⟩ = some (.int .i64 0):=blk_cell BK134.out 0;have hcz55_1 : w54.cell? ⟨gb134,1,none⟩ = some (.slice none 0 0):=blk_cell BK134.out 1;have hfz55_0:=blk_frozen BK134.out 0;have hfz55_1:=blk_frozen BK134.out 1))
  refine bodyPost_ret (results_ct rfl _ _ gb134 26 #[.int .i64 0,.slice none 0 0] (0,0) _ rfl (by (with_reducible repeat (first|refine blk_drewN ?_ _|refine blk_drew ?_|refine blk_alloc ?_ _));refine blk_put (cs:=#[.int .i64 0,.slice none 0 0]) ?_ 1 _ rfl;(with_reducible repeat (first|refine blk_drewN ?_ _|refine blk_drew ?_|refine blk_alloc ?_ _));refine blk_put (cs:=#[.int .i64 0,.slice none 0 0]) ?_ 0 _ rfl;(with_reducible repeat (first|refine blk_drewN ?_ _|refine blk_drew ?_|refine blk_alloc ?_ _));exact BK134.out) Tryd.underlying26 rfl (by kernel_rfl)) rfl ?_
  exact ⟨_,by first|rfl|(simp [errW_none,errW_some] <;> rfl)|(simp [*,errW_none,errW_some] <;> rfl),by first|exact Kd.R_nil _ _ _ _ _|exact Kd.N_nil _ _ _ _ _|exact Kd.V_nil _ _ _ _ _|exact Kd.Q_nil _ _ _ _ _|exact Kd.S_nil _ _ _ _ _,bb_⟩
mutual
def spec_l1Cur_order.l0 : Nat → Int → Int → List Int → List Int → Int → List Int → Int → Int → Int → List Int → Option (Int × List Int × Int × Int)
 | 0,_,_,_,_,_,_,_,_,_,_=>none
 | k + 1,x5,x7,x8,x9,x10,x1000,x1001,x1002,x153000,x153001=>if x10 < x5 then ((spec_l1Cur_pick.f x1000 x1001 x1002 8).bind fun bt156=>(if x8.length < 17592186044416 then ((some (x8 ++ [bt156.1] : List Int)).bind fun y159=>(if x7 = 1 then ((spec_l1Cur_pick.f x1000 bt156.2.1 bt156.2.2 4).bind fun bt162=>(if x9.length < 17592186044416 then (spec_l1Cur_order.l0 k x5 x7 y159 (x9 ++ [wrap64 (bt156.1 + bt162.1)]) (wrap64 (x10 + 1)) x1000 bt162.2.1 bt162.2.2 x153000 x153001) else (none))) else (if x9.length < 17592186044416 then (spec_l1Cur_order.l0 k x5 x7 y159 (x9 ++ [wrap64 (bt156.1 + 2)]) (wrap64 (x10 + 1)) x1000 bt156.2.1 bt156.2.2 x153000 x153001) else (none)))) else (none))) else (spec_l1Cur_order.l1 k x5 x7 x8 x9 0 x1000 x1001 x1002 x153000 x153001)
def spec_l1Cur_order.l1 : Nat → Int → Int → List Int → List Int → Int → List Int → Int → Int → Int → List Int → Option (Int × List Int × Int × Int)
 | 0,_,_,_,_,_,_,_,_,_,_=>none
 | k + 1,x5,x7,x8,x9,x12,x1000,x1001,x1002,x153000,x153001=>if x12 < x5 then (spec_l1Cur_order.l2 k x5 x7 x8 x9 x12 0 x1000 x1001 x1002 x153000 x153001) else (if x7 > 0 then (some (x153000,x153001,x1001,x1002)) else ((spec_CloseRelation.f k x153000 x153001).bind fun bt171=>(some (bt171.1,bt171.2.1,x1001,x1002))))
def spec_l1Cur_order.l2 : Nat → Int → Int → List Int → List Int → Int → Int → List Int → Int → Int → Int → List Int → Option (Int × List Int × Int × Int)
 | 0,_,_,_,_,_,_,_,_,_,_,_=>none
 | k + 1,x5,x7,x8,x9,x12,x13,x1000,x1001,x1002,x153000,x153001=>if x13 < x5 then (if x7 > 0 then (if 0 ≤ x12 then (if x12 < (x9.length : Int) then (if 0 ≤ x13 then (if x13 < (x8.length : Int) then (if (rd x9 x12) < (rd x8 x13) then (if x12 < (x153001.length : Int) then (spec_l1Cur_order.l2 k x5 x7 x8 x9 x12 (wrap64 (x13 + 1)) x1000 x1001 x1002 x153000 (x153001.set (x12 : Int).toNat (Go.bits .or .i64 (rd x153001 x12) (shl .i64 1 x13)))) else (none)) else (if x7 = 0 then (if x12 < x13 then ((spec_l1Cur_one.f x1000 x1001 x1002 3).bind fun bt181=>(if bt181.1 = true then (if x12 < (x153001.length : Int) then (spec_l1Cur_order.l2 k x5 x7 x8 x9 x12 (wrap64 (x13 + 1)) x1000 bt181.2.1 bt181.2.2 x153000 (x153001.set (x12 : Int).toNat (Go.bits .or .i64 (rd x153001 x12) (shl .i64 1 x13)))) else (none)) else (spec_l1Cur_order.l2 k x5 x7 x8 x9 x12 (wrap64 (x13 + 1)) x1000 bt181.2.1 bt181.2.2 x153000 x153001))) else (spec_l1Cur_order.l2 k x5 x7 x8 x9 x12 (wrap64 (x13 + 1)) x1000 x1001 x1002 x153000 x153001)) else (spec_l1Cur_order.l2 k x5 x7 x8 x9 x12 (wrap64 (x13 + 1)) x1000 x1001 x1002 x153000 x153001))) else (none)) else (none)) else (none)) else (none)) else (if x7 = 0 then (if x12 < x13 then ((spec_l1Cur_one.f x1000 x1001 x1002 3).bind fun bt186=>(if bt186.1 = true then (if 0 ≤ x12 then (if x12 < (x153001.length : Int) then (if 0 ≤ x13 then (spec_l1Cur_order.l2 k x5 x7 x8 x9 x12 (wrap64 (x13 + 1)) x1000 bt186.2.1 bt186.2.2 x153000 (x153001.set (x12 : Int).toNat (Go.bits .or .i64 (rd x153001 x12) (shl .i64 1 x13)))) else (none)) else (none)) else (none)) else (spec_l1Cur_order.l2 k x5 x7 x8 x9 x12 (wrap64 (x13 + 1)) x1000 bt186.2.1 bt186.2.2 x153000 x153001))) else (spec_l1Cur_order.l2 k x5 x7 x8 x9 x12 (wrap64 (x13 + 1)) x1000 x1001 x1002 x153000 x153001)) else (spec_l1Cur_order.l2 k x5 x7 x8 x9 x12 (wrap64 (x13 + 1)) x1000 x1001 x1002 x153000 x153001))) else (spec_l1Cur_order.l1 k x5 x7 x8 x9 (wrap64 (x12 + 1)) x1000 x1001 x1002 x153000 x153001)
end
def spec_l1Cur_order.f (k : Nat) (s0_0 : List Int) (s0_1 : Int) (s0_2 : Int) (a1 : Int) : Option (Int × List Int × Int × Int) := (spec_l1Cur_pick.f s0_0 s0_1 s0_2 (wrap64 (a1 + 1))).bind fun bt146 => (if 0 ≤ bt146.1 then (if (bt146.1 : Int).toNat ≤ 35184372088832 then ((spec_l1Cur_pick.f s0_0 bt146.2.1 bt146.2.2 3).bind fun bt153 => (spec_l1Cur_order.l0 k bt146.1 bt153.1 ([] : List Int) ([] : List Int) 0 s0_0 bt153.2.1 bt153.2.2 bt146.1 (List.replicate (bt146.1 : Int).toNat 0))) else (none)) else (none))
def spec_l1Cur_order.T19 : Bool × List (List Nat × List Nat) := (true, [([], []), ([0], [0]), ([1], [1]), ([2], [2]), ([2], [2]), ([3, 4, 2], [2, 3, 4]), ([5, 2], [2, 5]), ([2], [2]), ([2], [2]), ([7, 8, 2], [2, 7, 8]), ([9, 2], [2, 9]), ([6, 10, 2], [2, 6, 10]), ([2, 11], [2, 11]), ([12, 2], [12]), ([13], [13]), ([14, 13], [13, 14]), ([15, 13, 13], [13, 15]), ([16], [16]), ([16], [16]), ([17, 18, 16], [16, 17, 18]), ([16, 19, 13], [13, 16, 19]), ([20, 16, 13], [13, 20]), ([21], [21]), ([22, 21, 21], [21, 22]), ([21, 23, 13], [13, 21, 23]), ([13, 24], [13, 24])])
def spec_l1Cur_order.B19 : List Nat := [0, 1, 3, 7, 7, 31, 63, 7, 7, 391, 903, 2047, 4095, 8191, 16383, 32767, 65535, 131071, 131071, 524287, 1048575, 2097151, 4194303, 8388607, 16777215, 33554431]
theorem spec_l1Cur_order.tab19 : rtab .any (opsOf Tryd.f112 19) = spec_l1Cur_order.T19:=by kernel_rfl
theorem spec_l1Cur_order.bits19 : waitsOk spec_l1Cur_order.T19.2 spec_l1Cur_order.B19 = true:=by kernel_rfl
def spec_l1Cur_order.T20 : Bool × List (List Nat × List Nat) := (true, [([], []), ([0], [0]), ([], []), ([1, 2], [1, 2]), ([3], [3]), ([], []), ([5], [5]), ([4, 6], [4, 6]), ([1, 2, 0, 1, 2, 3, 4, 5, 6, 7], [1, 2]), ([8, 7, 0, 1, 2, 3, 4, 5, 6, 7], [7, 8])])
def spec_l1Cur_order.B20 : List Nat := [0, 1, 0, 7, 15, 0, 32, 127, 255, 511]
theorem spec_l1Cur_order.tab20 : rtab .any (opsOf Tryd.f112 20) = spec_l1Cur_order.T20:=by kernel_rfl
theorem spec_l1Cur_order.bits20 : waitsOk spec_l1Cur_order.T20.2 spec_l1Cur_order.B20 = true:=by kernel_rfl
set_option maxHeartbeats 8000000 in
set_option maxRecDepth 100000 in
theorem spec_l1Cur_order.calls (k : Nat) (g : Nat) (s0_0 : List Int) (s0_1 : Int) (s0_2 : Int) (a1 : Int) (r1 : Int) (r2 : List Int) (r3 : Int) (r4 : Int) (w0 w : World) (hI : IsS62 w0 w g s0_0 s0_1 s0_2) (hB : Below w0.heap.size w0 w) (h : spec_l1Cur_order.f k s0_0 s0_1 s0_2 a1 = some (r1,r2,r3,r4)) :
 Calls Tryd.prog 112 #[.pointer (some ⟨g,0,none⟩),.int .i64 a1] w fun e w'=>∃ v1_ : Value,e = .returned (.agg #[.int .i64 r1,v1_]) ∧ Kd.R (Kd.int .i64) 3 w' w.heap.size (fun _=>True) v1_ r2 ∧ IsS62 w0 w' g s0_0 r3 r4 ∧ Below w0.heap.size w0 w' ∧ KeepBut w w' g none:=by
 have hu26:=Tryd.underlying26;have HI0:=A_ hI;have HK:=A_ (KeepBut.refl w g none);have HL:=A_ hB.size;clear hI;have HW0:=A_ hB.size;have HB:=A_ hB;clear hB;have H : ((spec_l1Cur_pick.f s0_0 s0_1 s0_2 (wrap64 (a1 + 1))).bind fun bt146=>(if 0 ≤ bt146.1 then (if (bt146.1 : Int).toNat ≤ 35184372088832 then ((spec_l1Cur_pick.f s0_0 bt146.2.1 bt146.2.2 3).bind fun bt153=>(spec_l1Cur_order.l0 k bt146.1 bt153.1 ([] : List Int) ([] : List Int) 0 s0_0 bt153.2.1 bt153.2.2 bt146.1 (List.replicate (bt146.1 : Int).toNat 0))) else (none)) else (none))) = some (r1,r2,r3,r4):=h;clear h;replace H:=Option.bind_eq_some_iff.mp H;obtain ⟨⟨t146,t147,t148⟩,A30,H⟩:=H;replace H : (if 0 ≤ t146 then (if (t146 : Int).toNat ≤ 35184372088832 then ((spec_l1Cur_pick.f s0_0 t147 t148 3).bind fun bt153=>(spec_l1Cur_order.l0 k t146 bt153.1 ([] : List Int) ([] : List Int) 0 s0_0 bt153.2.1 bt153.2.2 t146 (List.replicate (t146 : Int).toNat 0))) else (none)) else (none)) = some (r1,r2,r3,r4):=H;have A3:=A_ A30;clear A30;by_cases c4 : 0 ≤ t146
 ·rw [if_pos c4] at H;have c4b0:=eq_true c4;have c4b1 : decide (0 ≤ t146) = true:=decide_eq_true c4;clear c4;by_cases c5 : (t146 : Int).toNat ≤ 35184372088832
  ·rw [if_pos c5] at H;have c5b0:=eq_true c5;have c5b1 : decide ((t146 : Int).toNat ≤ 35184372088832) = true:=decide_eq_true c5;clear c5;obtain ⟨y149,hy149⟩ : ∃ y_ : List Int,y_ = (List.replicate (t146 : Int).toNat 0):=⟨_,rfl⟩;replace H : ((spec_l1Cur_pick.f s0_0 t147 t148 3).bind fun bt153=>(spec_l1Cur_order.l0 k t146 bt153.1 ([] : List Int) ([] : List Int) 0 s0_0 bt153.2.1 bt153.2.2 t146 y149)) = some (r1,r2,r3,r4):=by first|(rw [hy149];with_reducible exact H)|(have H2_:=(Option.bind_some _ _).symm.trans H;rw [hy149];with_reducible exact H2_)|(have H2_:=(Option.bind_some _ _).symm.trans H;with_reducible exact H2_)|with_reducible exact H|(rw [hy149];exact H)|exact H
   have Ny149:=A_ hy149;clear hy149;replace H:=Option.bind_eq_some_iff.mp H;obtain ⟨⟨t153,t154,t155⟩,A60,H⟩:=H;replace H : (spec_l1Cur_order.l0 k t146 t153 ([] : List Int) ([] : List Int) 0 s0_0 t154 t155 t146 y149) = some (r1,r2,r3,r4):=H;have A6:=A_ A60;clear A60;have H':=A_ H;clear H;go_enter Tryd.func112,Tryd.ntmps112
   go_wp2_with (first|((with_reducible refine gate_dst (N:=4) rfl ?_);refine box_event ?hg (N:=4) ?hd (cs:=#[.int .i64 0,.slice none 0 0]) (t:=26) ?hr ?_;(case hd=>rfl);(case hg=>rfl);(case hr=>first|(go_simp;done)|(go_simp;rfl));intro gb145 hg w7 hbox hb;replace HB:=A_ (below_step (by repeat (with_reducible first|exact HB.out|apply below_alloc|apply pw_below_drewN|apply below_drew1|refine below_set ?_ (IsS62.ge HI0.out))) hb);have BK145:=A_ (hbox);have GW145:=A_ ((by rw [hg];exact (keep_size (w:=w) (g:=g) (row:=none) (by repeat (with_reducible first|exact HK.out|apply KeepBut.set_|apply keep_drewN|apply keep_drew|apply keep_alloc))) : w.heap.size ≤ gb145));have GE145:=A_ ((Nat.le_trans HW0.out (by rw [hg];exact (keep_size (w:=w) (g:=g) (row:=none) (by repeat (with_reducible first|exact HK.out|apply KeepBut.set_|apply keep_drewN|apply keep_drew|apply keep_alloc))) : w.heap.size ≤ gb145) : w0.heap.size ≤ gb145));replace HK:=A_ (KeepBut.trans (by repeat (with_reducible first|exact HK.out|apply KeepBut.set_|apply keep_drewN|apply keep_drew|apply keep_alloc)) (KeepBut.of_below hb g none) (.inl rfl));have NB0_145:=A_ ((by rw [hg];exact Nat.ne_of_lt (IsS62.lt (show IsS62 w0 _ g s0_0 s0_1 s0_2 from by repeat (first|(with_reducible first|exact HI0.out|apply IsS62.alloc|apply IsS62.drewN|apply IsS62.drew|apply IsS62.set_1|apply IsS62.set_2)|exact HI0.out))) : g ≠ gb145));have NB145_0:=A_ ((by rw [hg];exact Nat.ne_of_gt (IsS62.lt (show IsS62 w0 _ g s0_0 s0_1 s0_2 from by repeat (first|(with_reducible first|exact HI0.out|apply IsS62.alloc|apply IsS62.drewN|apply IsS62.drew|apply IsS62.set_1|apply IsS62.set_2)|exact HI0.out))) : gb145 ≠ g));replace HI0:=A_ (IsS62.below (by repeat (with_reducible first|exact HI0.out|apply IsS62.alloc|apply IsS62.drewN|apply IsS62.drew|apply IsS62.set_1|apply IsS62.set_2)) hb);clear hb hbox hg)|((with_reducible refine gate_callee (f:=81) rfl ?_);refine goesL_ (some 19) rfl rfl Tryd.func81 (by kernel_rfl) rfl #[.pointer (some ⟨g,0,none⟩),.int .i64 (wrap64 (a1 + 1))] rfl au_ ?_;(with_reducible refine (spec_l1Cur_pick.calls g s0_0 s0_1 s0_2 (wrap64 (a1 + 1)) t146 t147 t148 w0 _ ?side1 ?side2 A3.out).mono ?_);(case side1=>repeat (first|(with_reducible first|exact HI0.out|apply IsS62.alloc|apply IsS62.drewN|apply IsS62.drew|apply IsS62.set_1|apply IsS62.set_2|refine IsS62.far ?_ NB0_145.out _)|exact HI0.out));(case side2=>repeat (first|(with_reducible first|exact HB.out|apply below_alloc|apply pw_below_drewN|apply below_drew1|refine below_set ?_ (IsS62.ge HI0.out)|refine below_set ?_ (Aside0.out (by assumption)))|exact HB.out));rintro e w8 ⟨rfl,hi,hb,hk⟩;refine ⟨_,rfl,?_⟩;replace BK145:=A_ (KeepBut.blk hk (g':=gb145) (o:=.cells #[.int .i64 0,.slice none 0 0] 26 (0,0)) (bl_ BK145) NB145_0.out (by simp));replace HK:=A_ (KeepBut.trans (by repeat (with_reducible first|exact HK.out|apply KeepBut.set_|apply keep_drewN|apply keep_drew|apply keep_alloc|refine keep_far ?_ GW145.out _)) hk (.inl rfl));replace HB:=A_ (hb);replace HI0:=A_ (hi);(try clear hb);(try clear hb2);(try clear hk);(try clear hi))|((with_reducible refine gate_dst (N:=22) rfl ?_);refine Kd.R_make (Kd.int .i64) _ 3 rfl (N:=22) rfl 24 _ _ rfl t146 rfl rfl Tryd.underlying24 (.int .i64 0) 8 info3 rfl (by decide) (by omega) 0 (ok:=fun _=>True) (okp:=fun _=>True) rfl (fun _ hk=>hk) trivial (of_decide_eq_true (by first|(with_reducible assumption)|assumption)) (Nat.le_trans (Nat.mul_le_mul_right _ (of_decide_eq_true (by first|(with_reducible assumption)|assumption) : t146.toNat ≤ 35184372088832)) (by omega)) (Below.refl _ _) (Nat.le_refl _) ?_;intro v150 w9 ho10 hb hg_ hnew_;clear hg_ hnew_;(first|rw [← Ny149.out] at ho10|(simp only [Int.reduceToNat] at ho10;rw [← Ny149.out] at ho10));have HO151:=A_ (Kd.R_lower ho10 (keep_size (w:=w) (g:=g) (row:=none) (by repeat (with_reducible first|exact HK.out|apply KeepBut.set_|apply keep_drewN|apply keep_drew|apply keep_alloc|refine keep_far ?_ GW145.out _))));replace BK145:=bz BK145 hb;replace HK:=A_ (KeepBut.trans (by repeat (with_reducible first|exact HK.out|apply KeepBut.set_|apply keep_drewN|apply keep_drew|apply keep_alloc|refine keep_far ?_ GW145.out _)) (KeepBut.of_below hb g none) (.inl rfl));replace HB:=A_ (below_step (by repeat (with_reducible first|exact HB.out|apply below_alloc|apply pw_below_drewN|apply below_drew1|refine below_set ?_ (IsS62.ge HI0.out)|refine below_set ?_ (Aside0.out (by assumption)))) hb);replace HI0:=A_ (IsS62.below (by repeat (with_reducible first|exact HI0.out|apply IsS62.alloc|apply IsS62.drewN|apply IsS62.drew|apply IsS62.set_1|apply IsS62.set_2|refine IsS62.far ?_ NB0_145.out _)) hb);clear hb ho10;obtain ⟨Ao11,co11,eo11⟩:=Kd.R_slice HO151.out;subst eo11)|((with_reducible refine gate_dst (N:=6) rfl ?_);refine box_event ?hg (N:=6) ?hd (cs:=#[.int .i64 0,.slice none 0 0]) (t:=26) ?hr ?_;(case hd=>rfl);(case hg=>rfl);(case hr=>first|(go_simp;done)|(go_simp;rfl));intro gb152 hg w12 hbox hb;replace HO151:=rb_ HO151 hb;replace HB:=A_ (below_step (by repeat (with_reducible first|exact HB.out|apply below_alloc|apply pw_below_drewN|apply below_drew1|refine below_set ?_ (IsS62.ge HI0.out)|refine below_set ?_ (Aside0.out (by assumption)))) hb);have BK152:=A_ (hbox);have GW152:=A_ ((by rw [hg];exact (keep_size (w:=w) (g:=g) (row:=none) (by repeat (with_reducible first|exact HK.out|apply KeepBut.set_|apply keep_drewN|apply keep_drew|apply keep_alloc|refine keep_far ?_ GW145.out _))) : w.heap.size ≤ gb152));have GE152:=A_ ((Nat.le_trans HW0.out (by rw [hg];exact (keep_size (w:=w) (g:=g) (row:=none) (by repeat (with_reducible first|exact HK.out|apply KeepBut.set_|apply keep_drewN|apply keep_drew|apply keep_alloc|refine keep_far ?_ GW145.out _))) : w.heap.size ≤ gb152) : w0.heap.size ≤ gb152));replace HK:=A_ (KeepBut.trans (by repeat (with_reducible first|exact HK.out|apply KeepBut.set_|apply keep_drewN|apply keep_drew|apply keep_alloc|refine keep_far ?_ GW145.out _)) (KeepBut.of_below hb g none) (.inl rfl));have NB145_152:=A_ ((by rw [hg];exact Nat.ne_of_lt (blk_lt (bl_ BK145)) : gb145 ≠ gb152));have NB152_145:=A_ ((by rw [hg];exact Nat.ne_of_gt (blk_lt (bl_ BK145)) : gb152 ≠ gb145));replace BK145:=bz BK145 hb;have NB0_152:=A_ ((by rw [hg];exact Nat.ne_of_lt (IsS62.lt (show IsS62 w0 _ g s0_0 t147 t148 from by repeat (first|(with_reducible first|exact HI0.out|apply IsS62.alloc|apply IsS62.drewN|apply IsS62.drew|apply IsS62.set_1|apply IsS62.set_2|refine IsS62.far ?_ NB0_145.out _)|exact HI0.out))) : g ≠ gb152));have NB152_0:=A_ ((by rw [hg];exact Nat.ne_of_gt (IsS62.lt (show IsS62 w0 _ g s0_0 t147 t148 from by repeat (first|(with_reducible first|exact HI0.out|apply IsS62.alloc|apply IsS62.drewN|apply IsS62.drew|apply IsS62.set_1|apply IsS62.set_2|refine IsS62.far ?_ NB0_145.out _)|exact HI0.out))) : gb152 ≠ g));replace HI0:=A_ (IsS62.below (by repeat (with_reducible first|exact HI0.out|apply IsS62.alloc|apply IsS62.drewN|apply IsS62.drew|apply IsS62.set_1|apply IsS62.set_2|refine IsS62.far ?_ NB0_145.out _)) hb);clear hb hbox hg;have hnb13:=NB152_145.out;have hnc13:=NB145_152.out;have hnb14:=NB152_0.out;have hnc14:=NB0_152.out;have hcz15_0 : w12.cell? ⟨gb152,0,none⟩ = some (.int .i64 0):=blk_cell BK152.out 0;have hcz15_1 : w12.cell? ⟨gb152,1,none⟩ = some (.slice none 0 0):=blk_cell BK152.out 1;have hfz15_0:=blk_frozen BK152.out 0;have hfz15_1:=blk_frozen BK152.out 1)|((with_reducible refine gate_callee (f:=81) rfl ?_);refine goesL_ (some 25) rfl rfl Tryd.func81 (by kernel_rfl) rfl #[.pointer (some ⟨g,0,none⟩),.int .i64 3] rfl au_ ?_;(with_reducible refine (spec_l1Cur_pick.calls g s0_0 t147 t148 3 t153 t154 t155 w0 _ ?side1 ?side2 A6.out).mono ?_);(case side1=>repeat (first|(with_reducible first|exact HI0.out|apply IsS62.alloc|apply IsS62.drewN|apply IsS62.drew|apply IsS62.set_1|apply IsS62.set_2|refine IsS62.far ?_ (Aside0.out (by assumption)) _)|exact HI0.out));(case side2=>repeat (first|(with_reducible first|exact HB.out|apply below_alloc|apply pw_below_drewN|apply below_drew1|refine below_set ?_ (IsS62.ge HI0.out)|refine below_set ?_ (Aside0.out (by assumption)))|exact HB.out));rintro e w16 ⟨rfl,hi,hb,hk⟩;refine ⟨_,rfl,?_⟩;replace BK145:=A_ (KeepBut.blk hk (g':=gb145) (o:=.cells #[.int .i64 0,.slice none 0 0] 26 (0,0)) (by (with_reducible repeat (first|refine blk_drewN ?_ _|refine blk_drew ?_|refine blk_alloc ?_ _));refine blk_far ?_ NB145_152.out _;(with_reducible repeat (first|refine blk_drewN ?_ _|refine blk_drew ?_|refine blk_alloc ?_ _));refine blk_far ?_ NB145_152.out _;(with_reducible repeat (first|refine blk_drewN ?_ _|refine blk_drew ?_|refine blk_alloc ?_ _));exact BK145.out) NB145_0.out (by simp));replace HO151:=A_ (Kd.R_mono (Kd.R_keep (IsS62.apart (show IsS62 w0 _ g s0_0 t147 t148 from by repeat (first|(with_reducible first|exact HI0.out|apply IsS62.alloc|apply IsS62.drewN|apply IsS62.drew|apply IsS62.set_1|apply IsS62.set_2|refine IsS62.far ?_ (Aside0.out (by assumption)) _)|exact HI0.out)) (by (with_reducible repeat (first|apply Kd.R_alloc|apply Kd.R_drewN|apply Kd.R_drew));exact (Kd.R_mono (Kd.R_far (p:=⟨gb152,1,none⟩) (Kd.R_far (p:=⟨gb152,0,none⟩) (Kd.R_types HO151.out BK152.out (by decide)) (fun _ hk=>hk.2) (.int .i64 t146)) (fun _ hk=>hk.2) (.slice Ao11 y149.length co11)) (fun _ h_=>h_.1))) (by decide)) hk (fun _ h=>h.2)) (fun _ h=>h.1));replace BK152:=A_ (KeepBut.blk hk (g':=gb152) (o:=.cells #[.int .i64 t146,.slice Ao11 y149.length co11] 26 (0,0)) (by (with_reducible repeat (first|refine blk_drewN ?_ _|refine blk_drew ?_|refine blk_alloc ?_ _));refine blk_put (cs:=#[.int .i64 t146,.slice none 0 0]) ?_ 1 _ rfl;(with_reducible repeat (first|refine blk_drewN ?_ _|refine blk_drew ?_|refine blk_alloc ?_ _));refine blk_put (cs:=#[.int .i64 0,.slice none 0 0]) ?_ 0 _ rfl;(with_reducible repeat (first|refine blk_drewN ?_ _|refine blk_drew ?_|refine blk_alloc ?_ _));exact BK152.out) NB152_0.out (by simp));replace HK:=A_ (KeepBut.trans (by repeat (with_reducible first|exact HK.out|apply KeepBut.set_|apply keep_drewN|apply keep_drew|apply keep_alloc|refine keep_far ?_ GW145.out _|refine keep_far ?_ GW152.out _)) hk (.inl rfl));replace HB:=A_ (hb);replace HI0:=A_ (hi);(try clear hb);(try clear hb2);(try clear hk);(try clear hi)))
   go_loopg [8,9,10] k (fun kq v8 v9 v10 w'=>∃ (x8_1 : List Int) (x9_1 : List Int) (x10_1 : Int) (x1001_1 : Int) (x1002_1 : Int),v10 = .int .i64 x10_1 ∧ Aside0 (spec_l1Cur_order.l0 kq t146 t153 x8_1 x9_1 x10_1 s0_0 x1001_1 x1002_1 t146 y149 = some (r1,r2,r3,r4)) ∧ Aside0 (kq ≤ k) ∧ Aside0 (Kd.R (Kd.int .i64) 3 w' w.heap.size (fun k_=>some k_ ≠ (v9 : Value).ownBlock ∧ some k_ ≠ ((.slice Ao11 y149.length co11) : Value).ownBlock) v8 x8_1) ∧ Aside0 (Kd.R (Kd.int .i64) 3 w' w.heap.size (fun k_=>some k_ ≠ (v8 : Value).ownBlock ∧ some k_ ≠ ((.slice Ao11 y149.length co11) : Value).ownBlock) v9 x9_1) ∧ Aside0 (Kd.R (Kd.int .i64) 3 w' w.heap.size (fun k_=>some k_ ≠ (v8 : Value).ownBlock ∧ some k_ ≠ (v9 : Value).ownBlock) (.slice Ao11 y149.length co11) y149) ∧ Aside0 (w'.heap[gb145]? = some (.cells #[.int .i64 0,(.slice none 0 0)] 26 (0,0))) ∧ Aside0 (w'.heap[gb152]? = some (.cells #[.int .i64 t146,(.slice Ao11 y149.length co11)] 26 (0,0))) ∧ Aside0 (IsS62 w0 w' g s0_0 x1001_1 x1002_1) ∧ Aside0 (KeepBut w w' g none) ∧ Aside0 (Below w0.heap.size w0 w'))
   case atStart=>exact ⟨(([] : List Int)),(([] : List Int)),(0),(t154),(t155),(by first|rfl|(simp;done)|(simp [*];done)),H',⟨Nat.le_refl _⟩,⟨by first|exact Kd.R_nil _ _ _ _ _|exact Kd.N_nil _ _ _ _ _|exact Kd.V_nil _ _ _ _ _|exact Kd.Q_nil _ _ _ _ _|exact Kd.S_nil _ _ _ _ _⟩,⟨by first|exact Kd.R_nil _ _ _ _ _|exact Kd.N_nil _ _ _ _ _|exact Kd.V_nil _ _ _ _ _|exact Kd.Q_nil _ _ _ _ _|exact Kd.S_nil _ _ _ _ _⟩,⟨by (with_reducible repeat (first|apply Kd.R_alloc|apply Kd.R_drewN|apply Kd.R_drew));exact Kd.R_mono HO151.out (fun _ hk=>⟨(by simp [Value.ownBlock]),(by simp [Value.ownBlock])⟩)⟩,⟨bl_ BK145⟩,⟨bl_ BK152⟩,⟨by repeat (first|(with_reducible first|exact HI0.out|apply IsS62.alloc|apply IsS62.drewN|apply IsS62.drew|apply IsS62.set_1|apply IsS62.set_2|refine IsS62.far ?_ (Aside0.out (by assumption)) _)|exact HI0.out)⟩,⟨by repeat (first|(with_reducible first|exact HK.out|apply KeepBut.set_|apply keep_drewN|apply keep_drew|apply keep_alloc|refine keep_far ?_ GW145.out _|refine keep_far ?_ GW152.out _)|exact HK.out)⟩,⟨by repeat (first|(with_reducible first|exact HB.out|apply below_alloc|apply pw_below_drewN|apply below_drew1|refine below_set ?_ (IsS62.ge HI0.out)|refine below_set ?_ (Aside0.out (by assumption)))|exact HB.out)⟩⟩
   case round =>
    clear H';try clear c1
    try clear p2
    try clear c4
    try clear c4b0
    try clear c4b1
    try clear c5
    try clear c5b0
    try clear c5b1
    try clear p6
    try clear c8
    try clear c11
    try clear c13
    try clear c14
    try clear hcz15_0
    try clear hcz15_1
    try clear hfz15_0
    try clear hfz15_1
    obtain ⟨x8_1,x9_1,x10_1,x1001_1,x1002_1,rfl,HA,HK1,HO_8,HO_9,HO_153001,BK145,BK152,HI0,HK,HB⟩:=hrel;cases gk with
    | zero=>exact absurd HA.out (by simp [spec_l1Cur_order.l0])
    | succ k1 =>
     have H:=HA.out;clear HA;simp only [spec_l1Cur_order.l0] at H
     by_cases c17 : x10_1 < t146
     ·rw [if_pos c17] at H;have c17b0 : decide (x10_1 < t146) = true:=decide_eq_true c17;clear c17;replace H:=Option.bind_eq_some_iff.mp H;obtain ⟨⟨t156,t157,t158⟩,A180,H⟩:=H;replace H : (if x8_1.length < 17592186044416 then ((some (x8_1 ++ [t156] : List Int)).bind fun y159=>(if t153 = 1 then ((spec_l1Cur_pick.f s0_0 t157 t158 4).bind fun bt162=>(if x9_1.length < 17592186044416 then (spec_l1Cur_order.l0 k1 t146 t153 y159 (x9_1 ++ [wrap64 (t156 + bt162.1)]) (wrap64 (x10_1 + 1)) s0_0 bt162.2.1 bt162.2.2 t146 y149) else (none))) else (if x9_1.length < 17592186044416 then (spec_l1Cur_order.l0 k1 t146 t153 y159 (x9_1 ++ [wrap64 (t156 + 2)]) (wrap64 (x10_1 + 1)) s0_0 t157 t158 t146 y149) else (none)))) else (none)) = some (r1,r2,r3,r4):=H;have A18:=A_ A180;clear A180;by_cases c19 : x8_1.length < 17592186044416
      ·rw [if_pos c19] at H;have LMc19:=A_ c19;clear c19;obtain ⟨y159,hy159⟩ : ∃ y_ : List Int,y_ = (x8_1 ++ [t156]):=⟨_,rfl⟩;replace H : (if t153 = 1 then ((spec_l1Cur_pick.f s0_0 t157 t158 4).bind fun bt162=>(if x9_1.length < 17592186044416 then (spec_l1Cur_order.l0 k1 t146 t153 y159 (x9_1 ++ [wrap64 (t156 + bt162.1)]) (wrap64 (x10_1 + 1)) s0_0 bt162.2.1 bt162.2.2 t146 y149) else (none))) else (if x9_1.length < 17592186044416 then (spec_l1Cur_order.l0 k1 t146 t153 y159 (x9_1 ++ [wrap64 (t156 + 2)]) (wrap64 (x10_1 + 1)) s0_0 t157 t158 t146 y149) else (none))) = some (r1,r2,r3,r4):=by first|(rw [hy159];with_reducible exact H)|(have H2_:=(Option.bind_some _ _).symm.trans H;rw [hy159];with_reducible exact H2_)|(have H2_:=(Option.bind_some _ _).symm.trans H;with_reducible exact H2_)|with_reducible exact H|(rw [hy159];exact H)|exact H
       have Ny159:=A_ hy159;clear hy159;by_cases c20 : t153 = 1
       ·rw [if_pos c20] at H;have c20b0 : (t153 == 1) = true:=beq_iff_eq.mpr c20;have c20b1 : (t153 != 1) = false:=bne_eq_false_iff_eq.mpr c20;clear c20;replace H:=Option.bind_eq_some_iff.mp H;obtain ⟨⟨t162,t163,t164⟩,A210,H⟩:=H;replace H : (if x9_1.length < 17592186044416 then (spec_l1Cur_order.l0 k1 t146 t153 y159 (x9_1 ++ [wrap64 (t156 + t162)]) (wrap64 (x10_1 + 1)) s0_0 t163 t164 t146 y149) else (none)) = some (r1,r2,r3,r4):=H;have A21:=A_ A210;clear A210;by_cases c22 : x9_1.length < 17592186044416
        ·rw [if_pos c22] at H;have LMc22:=A_ c22;clear c22;obtain ⟨y165,hy165⟩ : ∃ y_ : List Int,y_ = (x9_1 ++ [wrap64 (t156 + t162)]):=⟨_,rfl⟩;replace H : (spec_l1Cur_order.l0 k1 t146 t153 y159 y165 (wrap64 (x10_1 + 1)) s0_0 t163 t164 t146 y149) = some (r1,r2,r3,r4):=by first|(rw [hy165];with_reducible exact H)|(have H2_:=(Option.bind_some _ _).symm.trans H;rw [hy165];with_reducible exact H2_)|(have H2_:=(Option.bind_some _ _).symm.trans H;with_reducible exact H2_)|with_reducible exact H|(rw [hy165];exact H)|exact H
         have Ny165:=A_ hy165;clear hy165;have H':=A_ H;clear H;go_wp2_with (first|((with_reducible refine gate_callee (f:=81) rfl ?_);refine goesL_ (some 32) rfl rfl Tryd.func81 (by kernel_rfl) rfl #[.pointer (some ⟨g,0,none⟩),.int .i64 8] rfl au_ ?_;(with_reducible refine (spec_l1Cur_pick.calls g s0_0 x1001_1 x1002_1 8 t156 t157 t158 w0 _ ?side1 ?side2 A18.out).mono ?_);(case side1=>repeat (first|(with_reducible first|exact HI0.out|apply IsS62.alloc|apply IsS62.drewN|apply IsS62.drew|apply IsS62.set_1|apply IsS62.set_2|refine IsS62.far ?_ (Aside0.out (by assumption)) _)|exact HI0.out));(case side2=>repeat (first|(with_reducible first|exact HB.out|apply below_alloc|apply pw_below_drewN|apply below_drew1|refine below_set ?_ (IsS62.ge HI0.out)|refine below_set ?_ (Aside0.out (by assumption)))|exact HB.out));rintro e w23 ⟨rfl,hi,hb,hk⟩;refine ⟨_,rfl,?_⟩;replace HO_8:=A_ (Kd.R_mono (Kd.R_keep (IsS62.apart (show IsS62 w0 _ g s0_0 x1001_1 x1002_1 from by repeat (first|(with_reducible first|exact HI0.out|apply IsS62.alloc|apply IsS62.drewN|apply IsS62.drew|apply IsS62.set_1|apply IsS62.set_2|refine IsS62.far ?_ (Aside0.out (by assumption)) _)|exact HI0.out)) (rl_ HO_8) (by decide)) hk (fun _ h=>h.2)) (fun _ h=>h.1));replace HO_9:=A_ (Kd.R_mono (Kd.R_keep (IsS62.apart (show IsS62 w0 _ g s0_0 x1001_1 x1002_1 from by repeat (first|(with_reducible first|exact HI0.out|apply IsS62.alloc|apply IsS62.drewN|apply IsS62.drew|apply IsS62.set_1|apply IsS62.set_2|refine IsS62.far ?_ (Aside0.out (by assumption)) _)|exact HI0.out)) (rl_ HO_9) (by decide)) hk (fun _ h=>h.2)) (fun _ h=>h.1));replace HO_153001:=A_ (Kd.R_mono (Kd.R_keep (IsS62.apart (show IsS62 w0 _ g s0_0 x1001_1 x1002_1 from by repeat (first|(with_reducible first|exact HI0.out|apply IsS62.alloc|apply IsS62.drewN|apply IsS62.drew|apply IsS62.set_1|apply IsS62.set_2|refine IsS62.far ?_ (Aside0.out (by assumption)) _)|exact HI0.out)) (rl_ HO_153001) (by decide)) hk (fun _ h=>h.2)) (fun _ h=>h.1));replace BK145:=A_ (KeepBut.blk hk (g':=gb145) (o:=.cells #[.int .i64 0,.slice none 0 0] 26 (0,0)) (bl_ BK145) NB145_0.out (by simp));replace BK152:=A_ (KeepBut.blk hk (g':=gb152) (o:=.cells #[.int .i64 t146,.slice Ao11 y149.length co11] 26 (0,0)) (bl_ BK152) NB152_0.out (by simp));replace HK:=A_ (KeepBut.trans (by repeat (with_reducible first|exact HK.out|apply KeepBut.set_|apply keep_drewN|apply keep_drew|apply keep_alloc|refine keep_far ?_ GW145.out _|refine keep_far ?_ GW152.out _)) hk (.inl rfl));replace HB:=A_ (hb);replace HI0:=A_ (hi);(try clear hb);(try clear hb2);(try clear hk);(try clear hi))|((with_reducible refine gate_builtin (b:=.append) (xs:=#[.tmp 33,.tmp 35]) rfl ?_);at_builtin;refine Kd.R_append (Kd.int .i64) w.heap.size rfl (.tmp 33) (.tmp 35) 24 3 (.int .i64 0) 8 rfl Tryd.underlying24 info3 rfl (by decide) (by omega) u8 x8_1 t156 [.int .i64 t156] (fun k_=>some k_ ≠ (u9 : Value).ownBlock ∧ some k_ ≠ (.slice Ao11 y149.length co11 : Value).ownBlock) (fun _=>False) rfl rfl ?aP (fun _ hk=>hk.elim) ?aF ?aO (Below.refl _ _) ?aS ?aL ?_;(case aP=>exact rfl);(case aF=>exact (fun k_ hk=>⟨Kd.fresh' (Kd.R_lt (rl_ HO_9)) k_ hk,Kd.fresh' (Kd.R_lt (rl_ HO_153001)) k_ hk⟩));(case aO=>exact (rl_ HO_8));(case aS=>exact (keep_size (w:=w) (g:=g) (row:=none) (by repeat (with_reducible first|exact HK.out|apply KeepBut.set_|apply keep_drewN|apply keep_drew|apply keep_alloc|refine keep_far ?_ GW145.out _|refine keep_far ?_ GW152.out _))));(case aL=>have:=LMc19.out;omega);intro v160 w24 ho hb hg hat;rw [← Ny159.out] at ho;replace HO_9:=A_ (Kd.R_after (ok:=(fun k_=>some k_ ≠ (.slice Ao11 y149.length co11 : Value).ownBlock)) (by (with_reducible repeat (first|apply Kd.R_alloc|apply Kd.R_drewN|apply Kd.R_drew));exact Kd.R_mono HO_9.out (fun _ hk=>⟨hk.2,hk.1⟩)) hg hat);replace HO_153001:=A_ (Kd.R_after (ok:=(fun k_=>some k_ ≠ (u9 : Value).ownBlock)) (by (with_reducible repeat (first|apply Kd.R_alloc|apply Kd.R_drewN|apply Kd.R_drew));exact Kd.R_mono HO_153001.out (fun _ hk=>⟨hk.2,hk.1⟩)) hg hat);replace BK145:=A_ (blk_grown (g:=gb145) (o:=.cells #[.int .i64 0,.slice none 0 0] 26 (0,0)) (bl_ BK145) hg (Kd.R_ne HO_8.out BK145.out (by decide)));replace BK152:=A_ (blk_grown (g:=gb152) (o:=.cells #[.int .i64 t146,.slice Ao11 y149.length co11] 26 (0,0)) (bl_ BK152) hg (Kd.R_ne HO_8.out BK152.out (by decide)));replace HB:=A_ (below_weaken (by repeat (with_reducible first|exact HB.out|apply below_alloc|apply pw_below_drewN|apply below_drew1|refine below_set ?_ (IsS62.ge HI0.out)|refine below_set ?_ (Aside0.out (by assumption)))) HL.out hb);replace HI0:=A_ (IsS62.grown (by repeat (first|(with_reducible first|exact HI0.out|apply IsS62.alloc|apply IsS62.drewN|apply IsS62.drew|apply IsS62.set_1|apply IsS62.set_2|refine IsS62.far ?_ (Aside0.out (by assumption)) _)|exact HI0.out)) hg (IsS62.own_ne HI0.out HO_8.out (by decide)));replace HK:=A_ (KeepBut.trans (by repeat (with_reducible first|exact HK.out|apply KeepBut.set_|apply keep_drewN|apply keep_drew|apply keep_alloc|refine keep_far ?_ GW145.out _|refine keep_far ?_ GW152.out _)) (KeepBut.of_grown hg g) (Kd.R_base2 HO_8.out));have HO161:=A_ (ho);clear HO_8;clear ho hb hg hat)|((with_reducible refine gate_callee (f:=81) rfl ?_);refine goesL_ (some 42) rfl rfl Tryd.func81 (by kernel_rfl) rfl #[.pointer (some ⟨g,0,none⟩),.int .i64 4] rfl au_ ?_;(with_reducible refine (spec_l1Cur_pick.calls g s0_0 t157 t158 4 t162 t163 t164 w0 _ ?side1 ?side2 A21.out).mono ?_);(case side1=>repeat (first|(with_reducible first|exact HI0.out|apply IsS62.alloc|apply IsS62.drewN|apply IsS62.drew|apply IsS62.set_1|apply IsS62.set_2|refine IsS62.far ?_ (Aside0.out (by assumption)) _)|exact HI0.out));(case side2=>repeat (first|(with_reducible first|exact HB.out|apply below_alloc|apply pw_below_drewN|apply below_drew1|refine below_set ?_ (IsS62.ge HI0.out)|refine below_set ?_ (Aside0.out (by assumption)))|exact HB.out));rintro e w25 ⟨rfl,hi,hb,hk⟩;refine ⟨_,rfl,?_⟩;replace HO_9:=A_ (Kd.R_mono (Kd.R_keep (IsS62.apart (show IsS62 w0 _ g s0_0 t157 t158 from by repeat (first|(with_reducible first|exact HI0.out|apply IsS62.alloc|apply IsS62.drewN|apply IsS62.drew|apply IsS62.set_1|apply IsS62.set_2|refine IsS62.far ?_ (Aside0.out (by assumption)) _)|exact HI0.out)) (rl_ HO_9) (by decide)) hk (fun _ h=>h.2)) (fun _ h=>h.1));replace HO_153001:=A_ (Kd.R_mono (Kd.R_keep (IsS62.apart (show IsS62 w0 _ g s0_0 t157 t158 from by repeat (first|(with_reducible first|exact HI0.out|apply IsS62.alloc|apply IsS62.drewN|apply IsS62.drew|apply IsS62.set_1|apply IsS62.set_2|refine IsS62.far ?_ (Aside0.out (by assumption)) _)|exact HI0.out)) (rl_ HO_153001) (by decide)) hk (fun _ h=>h.2)) (fun _ h=>h.1));replace BK145:=A_ (KeepBut.blk hk (g':=gb145) (o:=.cells #[.int .i64 0,.slice none 0 0] 26 (0,0)) (bl_ BK145) NB145_0.out (by simp));replace BK152:=A_ (KeepBut.blk hk (g':=gb152) (o:=.cells #[.int .i64 t146,.slice Ao11 y149.length co11] 26 (0,0)) (bl_ BK152) NB152_0.out (by simp));replace HO161:=A_ (Kd.R_mono (Kd.R_keep (IsS62.apart (show IsS62 w0 _ g s0_0 t157 t158 from by repeat (first|(with_reducible first|exact HI0.out|apply IsS62.alloc|apply IsS62.drewN|apply IsS62.drew|apply IsS62.set_1|apply IsS62.set_2|refine IsS62.far ?_ (Aside0.out (by assumption)) _)|exact HI0.out)) (rl_ HO161) (by decide)) hk (fun _ h=>h.2)) (fun _ h=>h.1));replace HK:=A_ (KeepBut.trans (by repeat (with_reducible first|exact HK.out|apply KeepBut.set_|apply keep_drewN|apply keep_drew|apply keep_alloc|refine keep_far ?_ GW145.out _|refine keep_far ?_ GW152.out _)) hk (.inl rfl));replace HB:=A_ (hb);replace HI0:=A_ (hi);(try clear hb);(try clear hb2);(try clear hk);(try clear hi))|((with_reducible refine gate_builtin (b:=.append) (xs:=#[.tmp 39,.tmp 44]) rfl ?_);at_builtin;refine Kd.R_append (Kd.int .i64) w.heap.size rfl (.tmp 39) (.tmp 44) 24 3 (.int .i64 0) 8 rfl Tryd.underlying24 info3 rfl (by decide) (by omega) u9 x9_1 (wrap64 (t156 + t162)) [.int .i64 (wrap64 (t156 + t162))] (fun k_=>some k_ ≠ (.slice Ao11 y149.length co11 : Value).ownBlock ∧ some k_ ≠ (v160 : Value).ownBlock) (fun _=>False) rfl rfl ?aP (fun _ hk=>hk.elim) ?aF ?aO (Below.refl _ _) ?aS ?aL ?_;(case aP=>exact rfl);(case aF=>exact (fun k_ hk=>⟨Kd.fresh' (Kd.R_lt (rl_ HO_153001)) k_ hk,Kd.fresh' (Kd.R_lt (rl_ HO161)) k_ hk⟩));(case aO=>exact (rl_ HO_9));(case aS=>exact (keep_size (w:=w) (g:=g) (row:=none) (by repeat (with_reducible first|exact HK.out|apply KeepBut.set_|apply keep_drewN|apply keep_drew|apply keep_alloc|refine keep_far ?_ GW145.out _|refine keep_far ?_ GW152.out _))));(case aL=>have:=LMc22.out;omega);intro v166 w26 ho hb hg hat;rw [← Ny165.out] at ho;replace HO_153001:=A_ (Kd.R_after (ok:=(fun k_=>some k_ ≠ (v160 : Value).ownBlock)) (by (with_reducible repeat (first|apply Kd.R_alloc|apply Kd.R_drewN|apply Kd.R_drew));exact Kd.R_mono HO_153001.out (fun _ hk=>⟨hk.2,hk.1⟩)) hg hat);replace BK145:=A_ (blk_grown (g:=gb145) (o:=.cells #[.int .i64 0,.slice none 0 0] 26 (0,0)) (bl_ BK145) hg (Kd.R_ne HO_9.out BK145.out (by decide)));replace BK152:=A_ (blk_grown (g:=gb152) (o:=.cells #[.int .i64 t146,.slice Ao11 y149.length co11] 26 (0,0)) (bl_ BK152) hg (Kd.R_ne HO_9.out BK152.out (by decide)));replace HO161:=A_ (Kd.R_after (ok:=(fun k_=>some k_ ≠ (.slice Ao11 y149.length co11 : Value).ownBlock)) (by (with_reducible repeat (first|apply Kd.R_alloc|apply Kd.R_drewN|apply Kd.R_drew));exact Kd.R_mono HO161.out (fun _ hk=>⟨hk.2,hk.1⟩)) hg hat);replace HB:=A_ (below_weaken (by repeat (with_reducible first|exact HB.out|apply below_alloc|apply pw_below_drewN|apply below_drew1|refine below_set ?_ (IsS62.ge HI0.out)|refine below_set ?_ (Aside0.out (by assumption)))) HL.out hb);replace HI0:=A_ (IsS62.grown (by repeat (first|(with_reducible first|exact HI0.out|apply IsS62.alloc|apply IsS62.drewN|apply IsS62.drew|apply IsS62.set_1|apply IsS62.set_2|refine IsS62.far ?_ (Aside0.out (by assumption)) _)|exact HI0.out)) hg (IsS62.own_ne HI0.out HO_9.out (by decide)));replace HK:=A_ (KeepBut.trans (by repeat (with_reducible first|exact HK.out|apply KeepBut.set_|apply keep_drewN|apply keep_drew|apply keep_alloc|refine keep_far ?_ GW145.out _|refine keep_far ?_ GW152.out _)) (KeepBut.of_grown hg g) (Kd.R_base2 HO_9.out));have HO167:=A_ (ho);clear HO_9;clear ho hb hg hat))
         go_roundg k1
         case measure=>have:=HK1.out;omega
         case rel=>exact ⟨(y159),(y165),(wrap64 (x10_1 + 1)),(t163),(t164),(by first|rfl|(simp;done)|(simp [*];done)),H',⟨by have:=HK1.out;omega⟩,⟨by (with_reducible repeat (first|apply Kd.R_alloc|apply Kd.R_drewN|apply Kd.R_drew));exact Kd.R_mono HO161.out (fun _ hk=>⟨hk.2,hk.1⟩)⟩,⟨by (with_reducible repeat (first|apply Kd.R_alloc|apply Kd.R_drewN|apply Kd.R_drew));exact Kd.R_mono HO167.out (fun _ hk=>⟨hk.2,hk.1⟩)⟩,⟨by (with_reducible repeat (first|apply Kd.R_alloc|apply Kd.R_drewN|apply Kd.R_drew));exact HO_153001.out⟩,⟨bl_ BK145⟩,⟨bl_ BK152⟩,⟨by repeat (first|(with_reducible first|exact HI0.out|apply IsS62.alloc|apply IsS62.drewN|apply IsS62.drew|apply IsS62.set_1|apply IsS62.set_2|refine IsS62.far ?_ (Aside0.out (by assumption)) _)|exact HI0.out)⟩,⟨by repeat (first|(with_reducible first|exact HK.out|apply KeepBut.set_|apply keep_drewN|apply keep_drew|apply keep_alloc|refine keep_far ?_ GW145.out _|refine keep_far ?_ GW152.out _)|exact HK.out)⟩,⟨by repeat (first|(with_reducible first|exact HB.out|apply below_alloc|apply pw_below_drewN|apply below_drew1|refine below_set ?_ (IsS62.ge HI0.out)|refine below_set ?_ (Aside0.out (by assumption)))|exact HB.out)⟩⟩
        ·rw [if_neg c22] at H;exact absurd H (by simp)
       ·rw [if_neg c20] at H;have c20b0 : (t153 == 1) = false:=beq_eq_false_iff_ne.mpr c20;have c20b1 : (t153 != 1) = true:=bne_iff_ne.mpr c20;by_cases c27 : x9_1.length < 17592186044416
        ·rw [if_pos c27] at H;have LMc27:=A_ c27;clear c27;obtain ⟨y168,hy168⟩ : ∃ y_ : List Int,y_ = (x9_1 ++ [wrap64 (t156 + 2)]):=⟨_,rfl⟩;replace H : (spec_l1Cur_order.l0 k1 t146 t153 y159 y168 (wrap64 (x10_1 + 1)) s0_0 t157 t158 t146 y149) = some (r1,r2,r3,r4):=by first|(rw [hy168];with_reducible exact H)|(have H2_:=(Option.bind_some _ _).symm.trans H;rw [hy168];with_reducible exact H2_)|(have H2_:=(Option.bind_some _ _).symm.trans H;with_reducible exact H2_)|with_reducible exact H|(rw [hy168];exact H)|exact H
         have Ny168:=A_ hy168;clear hy168;have H':=A_ H;clear H;go_wp2_with (first|((with_reducible refine gate_callee (f:=81) rfl ?_);refine goesL_ (some 32) rfl rfl Tryd.func81 (by kernel_rfl) rfl #[.pointer (some ⟨g,0,none⟩),.int .i64 8] rfl au_ ?_;(with_reducible refine (spec_l1Cur_pick.calls g s0_0 x1001_1 x1002_1 8 t156 t157 t158 w0 _ ?side1 ?side2 A18.out).mono ?_);(case side1=>repeat (first|(with_reducible first|exact HI0.out|apply IsS62.alloc|apply IsS62.drewN|apply IsS62.drew|apply IsS62.set_1|apply IsS62.set_2|refine IsS62.far ?_ (Aside0.out (by assumption)) _)|exact HI0.out));(case side2=>repeat (first|(with_reducible first|exact HB.out|apply below_alloc|apply pw_below_drewN|apply below_drew1|refine below_set ?_ (IsS62.ge HI0.out)|refine below_set ?_ (Aside0.out (by assumption)))|exact HB.out));rintro e w28 ⟨rfl,hi,hb,hk⟩;refine ⟨_,rfl,?_⟩;replace HO_8:=A_ (Kd.R_mono (Kd.R_keep (IsS62.apart (show IsS62 w0 _ g s0_0 x1001_1 x1002_1 from by repeat (first|(with_reducible first|exact HI0.out|apply IsS62.alloc|apply IsS62.drewN|apply IsS62.drew|apply IsS62.set_1|apply IsS62.set_2|refine IsS62.far ?_ (Aside0.out (by assumption)) _)|exact HI0.out)) (rl_ HO_8) (by decide)) hk (fun _ h=>h.2)) (fun _ h=>h.1));replace HO_9:=A_ (Kd.R_mono (Kd.R_keep (IsS62.apart (show IsS62 w0 _ g s0_0 x1001_1 x1002_1 from by repeat (first|(with_reducible first|exact HI0.out|apply IsS62.alloc|apply IsS62.drewN|apply IsS62.drew|apply IsS62.set_1|apply IsS62.set_2|refine IsS62.far ?_ (Aside0.out (by assumption)) _)|exact HI0.out)) (rl_ HO_9) (by decide)) hk (fun _ h=>h.2)) (fun _ h=>h.1));replace HO_153001:=A_ (Kd.R_mono (Kd.R_keep (IsS62.apart (show IsS62 w0 _ g s0_0 x1001_1 x1002_1 from by repeat (first|(with_reducible first|exact HI0.out|apply IsS62.alloc|apply IsS62.drewN|apply IsS62.drew|apply IsS62.set_1|apply IsS62.set_2|refine IsS62.far ?_ (Aside0.out (by assumption)) _)|exact HI0.out)) (rl_ HO_153001) (by decide)) hk (fun _ h=>h.2)) (fun _ h=>h.1));replace BK145:=A_ (KeepBut.blk hk (g':=gb145) (o:=.cells #[.int .i64 0,.slice none 0 0] 26 (0,0)) (bl_ BK145) NB145_0.out (by simp));replace BK152:=A_ (KeepBut.blk hk (g':=gb152) (o:=.cells #[.int .i64 t146,.slice Ao11 y149.length co11] 26 (0,0)) (bl_ BK152) NB152_0.out (by simp));replace HK:=A_ (KeepBut.trans (by repeat (with_reducible first|exact HK.out|apply KeepBut.set_|apply keep_drewN|apply keep_drew|apply keep_alloc|refine keep_far ?_ GW145.out _|refine keep_far ?_ GW152.out _)) hk (.inl rfl));replace HB:=A_ (hb);replace HI0:=A_ (hi);(try clear hb);(try clear hb2);(try clear hk);(try clear hi))|((with_reducible refine gate_builtin (b:=.append) (xs:=#[.tmp 33,.tmp 35]) rfl ?_);at_builtin;refine Kd.R_append (Kd.int .i64) w.heap.size rfl (.tmp 33) (.tmp 35) 24 3 (.int .i64 0) 8 rfl Tryd.underlying24 info3 rfl (by decide) (by omega) u8 x8_1 t156 [.int .i64 t156] (fun k_=>some k_ ≠ (u9 : Value).ownBlock ∧ some k_ ≠ (.slice Ao11 y149.length co11 : Value).ownBlock) (fun _=>False) rfl rfl ?aP (fun _ hk=>hk.elim) ?aF ?aO (Below.refl _ _) ?aS ?aL ?_;(case aP=>exact rfl);(case aF=>exact (fun k_ hk=>⟨Kd.fresh' (Kd.R_lt (rl_ HO_9)) k_ hk,Kd.fresh' (Kd.R_lt (rl_ HO_153001)) k_ hk⟩));(case aO=>exact (rl_ HO_8));(case aS=>exact (keep_size (w:=w) (g:=g) (row:=none) (by repeat (with_reducible first|exact HK.out|apply KeepBut.set_|apply keep_drewN|apply keep_drew|apply keep_alloc|refine keep_far ?_ GW145.out _|refine keep_far ?_ GW152.out _))));(case aL=>have:=LMc19.out;omega);intro v160 w29 ho hb hg hat;rw [← Ny159.out] at ho;replace HO_9:=A_ (Kd.R_after (ok:=(fun k_=>some k_ ≠ (.slice Ao11 y149.length co11 : Value).ownBlock)) (by (with_reducible repeat (first|apply Kd.R_alloc|apply Kd.R_drewN|apply Kd.R_drew));exact Kd.R_mono HO_9.out (fun _ hk=>⟨hk.2,hk.1⟩)) hg hat);replace HO_153001:=A_ (Kd.R_after (ok:=(fun k_=>some k_ ≠ (u9 : Value).ownBlock)) (by (with_reducible repeat (first|apply Kd.R_alloc|apply Kd.R_drewN|apply Kd.R_drew));exact Kd.R_mono HO_153001.out (fun _ hk=>⟨hk.2,hk.1⟩)) hg hat);replace BK145:=A_ (blk_grown (g:=gb145) (o:=.cells #[.int .i64 0,.slice none 0 0] 26 (0,0)) (bl_ BK145) hg (Kd.R_ne HO_8.out BK145.out (by decide)));replace BK152:=A_ (blk_grown (g:=gb152) (o:=.cells #[.int .i64 t146,.slice Ao11 y149.length co11] 26 (0,0)) (bl_ BK152) hg (Kd.R_ne HO_8.out BK152.out (by decide)));replace HB:=A_ (below_weaken (by repeat (with_reducible first|exact HB.out|apply below_alloc|apply pw_below_drewN|apply below_drew1|refine below_set ?_ (IsS62.ge HI0.out)|refine below_set ?_ (Aside0.out (by assumption)))) HL.out hb);replace HI0:=A_ (IsS62.grown (by repeat (first|(with_reducible first|exact HI0.out|apply IsS62.alloc|apply IsS62.drewN|apply IsS62.drew|apply IsS62.set_1|apply IsS62.set_2|refine IsS62.far ?_ (Aside0.out (by assumption)) _)|exact HI0.out)) hg (IsS62.own_ne HI0.out HO_8.out (by decide)));replace HK:=A_ (KeepBut.trans (by repeat (with_reducible first|exact HK.out|apply KeepBut.set_|apply keep_drewN|apply keep_drew|apply keep_alloc|refine keep_far ?_ GW145.out _|refine keep_far ?_ GW152.out _)) (KeepBut.of_grown hg g) (Kd.R_base2 HO_8.out));have HO161:=A_ (ho);clear HO_8;clear ho hb hg hat)|((with_reducible refine gate_builtin (b:=.append) (xs:=#[.tmp 46,.tmp 49]) rfl ?_);at_builtin;refine Kd.R_append (Kd.int .i64) w.heap.size rfl (.tmp 46) (.tmp 49) 24 3 (.int .i64 0) 8 rfl Tryd.underlying24 info3 rfl (by decide) (by omega) u9 x9_1 (wrap64 (t156 + 2)) [.int .i64 (wrap64 (t156 + 2))] (fun k_=>some k_ ≠ (.slice Ao11 y149.length co11 : Value).ownBlock ∧ some k_ ≠ (v160 : Value).ownBlock) (fun _=>False) rfl rfl ?aP (fun _ hk=>hk.elim) ?aF ?aO (Below.refl _ _) ?aS ?aL ?_;(case aP=>exact rfl);(case aF=>exact (fun k_ hk=>⟨Kd.fresh' (Kd.R_lt (rl_ HO_153001)) k_ hk,Kd.fresh' (Kd.R_lt (rl_ HO161)) k_ hk⟩));(case aO=>exact (rl_ HO_9));(case aS=>exact (keep_size (w:=w) (g:=g) (row:=none) (by repeat (with_reducible first|exact HK.out|apply KeepBut.set_|apply keep_drewN|apply keep_drew|apply keep_alloc|refine keep_far ?_ GW145.out _|refine keep_far ?_ GW152.out _))));(case aL=>have:=LMc27.out;omega);intro v169 w30 ho hb hg hat;rw [← Ny168.out] at ho;replace HO_153001:=A_ (Kd.R_after (ok:=(fun k_=>some k_ ≠ (v160 : Value).ownBlock)) (by (with_reducible repeat (first|apply Kd.R_alloc|apply Kd.R_drewN|apply Kd.R_drew));exact Kd.R_mono HO_153001.out (fun _ hk=>⟨hk.2,hk.1⟩)) hg hat);replace BK145:=A_ (blk_grown (g:=gb145) (o:=.cells #[.int .i64 0,.slice none 0 0] 26 (0,0)) (bl_ BK145) hg (Kd.R_ne HO_9.out BK145.out (by decide)));replace BK152:=A_ (blk_grown (g:=gb152) (o:=.cells #[.int .i64 t146,.slice Ao11 y149.length co11] 26 (0,0)) (bl_ BK152) hg (Kd.R_ne HO_9.out BK152.out (by decide)));replace HO161:=A_ (Kd.R_after (ok:=(fun k_=>some k_ ≠ (.slice Ao11 y149.length co11 : Value).ownBlock)) (by (with_reducible repeat (first|apply Kd.R_alloc|apply Kd.R_drewN|apply Kd.R_drew));exact Kd.R_mono HO161.out (fun _ hk=>⟨hk.2,hk.1⟩)) hg hat);replace HB:=A_ (below_weaken (by repeat (with_reducible first|exact HB.out|apply below_alloc|apply pw_below_drewN|apply below_drew1|refine below_set ?_ (IsS62.ge HI0.out)|refine below_set ?_ (Aside0.out (by assumption)))) HL.out hb);replace HI0:=A_ (IsS62.grown (by repeat (first|(with_reducible first|exact HI0.out|apply IsS62.alloc|apply IsS62.drewN|apply IsS62.drew|apply IsS62.set_1|apply IsS62.set_2|refine IsS62.far ?_ (Aside0.out (by assumption)) _)|exact HI0.out)) hg (IsS62.own_ne HI0.out HO_9.out (by decide)));replace HK:=A_ (KeepBut.trans (by repeat (with_reducible first|exact HK.out|apply KeepBut.set_|apply keep_drewN|apply keep_drew|apply keep_alloc|refine keep_far ?_ GW145.out _|refine keep_far ?_ GW152.out _)) (KeepBut.of_grown hg g) (Kd.R_base2 HO_9.out));have HO170:=A_ (ho);clear HO_9;clear ho hb hg hat))
         go_roundg k1
         case measure=>have:=HK1.out;omega
         case rel=>exact ⟨(y159),(y168),(wrap64 (x10_1 + 1)),(t157),(t158),(by first|rfl|(simp;done)|(simp [*];done)),H',⟨by have:=HK1.out;omega⟩,⟨by (with_reducible repeat (first|apply Kd.R_alloc|apply Kd.R_drewN|apply Kd.R_drew));exact Kd.R_mono HO161.out (fun _ hk=>⟨hk.2,hk.1⟩)⟩,⟨by (with_reducible repeat (first|apply Kd.R_alloc|apply Kd.R_drewN|apply Kd.R_drew));exact Kd.R_mono HO170.out (fun _ hk=>⟨hk.2,hk.1⟩)⟩,⟨by (with_reducible repeat (first|apply Kd.R_alloc|apply Kd.R_drewN|apply Kd.R_drew));exact HO_153001.out⟩,⟨bl_ BK145⟩,⟨bl_ BK152⟩,⟨by repeat (first|(with_reducible first|exact HI0.out|apply IsS62.alloc|apply IsS62.drewN|apply IsS62.drew|apply IsS62.set_1|apply IsS62.set_2|refine IsS62.far ?_ (Aside0.out (by assumption)) _)|exact HI0.out)⟩,⟨by repeat (first|(with_reducible first|exact HK.out|apply KeepBut.set_|apply keep_drewN|apply keep_drew|apply keep_alloc|refine keep_far ?_ GW145.out _|refine keep_far ?_ GW152.out _)|exact HK.out)⟩,⟨by repeat (first|(with_reducible first|exact HB.out|apply below_alloc|apply pw_below_drewN|apply below_drew1|refine below_set ?_ (IsS62.ge HI0.out)|refine below_set ?_ (Aside0.out (by assumption)))|exact HB.out)⟩⟩
        ·rw [if_neg c27] at H;exact absurd H (by simp)
      ·rw [if_neg c19] at H;exact absurd H (by simp)
     ·rw [if_neg c17] at H;have c17b0 : decide (x10_1 < t146) = false:=decide_eq_false c17;clear c17;have H':=A_ H;clear H;go_wp2
      go_loopg [12] k1 (fun kq v12 w'=>∃ (x8_2 : List Int) (x9_2 : List Int) (x12_2 : Int) (x1001_2 : Int) (x1002_2 : Int) (x153001_2 : List Int) (u153001 : Value),v12 = .int .i64 x12_2 ∧ Aside0 (spec_l1Cur_order.l1 kq t146 t153 x8_2 x9_2 x12_2 s0_0 x1001_2 x1002_2 t146 x153001_2 = some (r1,r2,r3,r4)) ∧ Aside0 (kq ≤ k1) ∧ Aside0 (Kd.R (Kd.int .i64) 3 w' w.heap.size (fun k_=>some k_ ≠ (u9 : Value).ownBlock ∧ some k_ ≠ (u153001 : Value).ownBlock) u8 x8_2) ∧ Aside0 (Kd.R (Kd.int .i64) 3 w' w.heap.size (fun k_=>some k_ ≠ (u8 : Value).ownBlock ∧ some k_ ≠ (u153001 : Value).ownBlock) u9 x9_2) ∧ Aside0 (Kd.R (Kd.int .i64) 3 w' w.heap.size (fun k_=>some k_ ≠ (u8 : Value).ownBlock ∧ some k_ ≠ (u9 : Value).ownBlock) u153001 x153001_2) ∧ Aside0 (w'.heap[gb145]? = some (.cells #[.int .i64 0,(.slice none 0 0)] 26 (0,0))) ∧ Aside0 (w'.heap[gb152]? = some (.cells #[.int .i64 t146,u153001] 26 (0,0))) ∧ Aside0 (IsS62 w0 w' g s0_0 x1001_2 x1002_2) ∧ Aside0 (KeepBut w w' g none) ∧ Aside0 (Below w0.heap.size w0 w'))
      case atStart=>exact ⟨(x8_1),(x9_1),(0),(x1001_1),(x1002_1),(y149),(.slice Ao11 y149.length co11),(by first|rfl|(simp;done)|(simp [*];done)),H',⟨Nat.le_refl _⟩,⟨by (with_reducible repeat (first|apply Kd.R_alloc|apply Kd.R_drewN|apply Kd.R_drew));exact HO_8.out⟩,⟨by (with_reducible repeat (first|apply Kd.R_alloc|apply Kd.R_drewN|apply Kd.R_drew));exact HO_9.out⟩,⟨by (with_reducible repeat (first|apply Kd.R_alloc|apply Kd.R_drewN|apply Kd.R_drew));exact HO_153001.out⟩,⟨bl_ BK145⟩,⟨bl_ BK152⟩,⟨by repeat (first|(with_reducible first|exact HI0.out|apply IsS62.alloc|apply IsS62.drewN|apply IsS62.drew|apply IsS62.set_1|apply IsS62.set_2|refine IsS62.far ?_ (Aside0.out (by assumption)) _)|exact HI0.out)⟩,⟨by repeat (first|(with_reducible first|exact HK.out|apply KeepBut.set_|apply keep_drewN|apply keep_drew|apply keep_alloc|refine keep_far ?_ GW145.out _|refine keep_far ?_ GW152.out _)|exact HK.out)⟩,⟨by repeat (first|(with_reducible first|exact HB.out|apply below_alloc|apply pw_below_drewN|apply below_drew1|refine below_set ?_ (IsS62.ge HI0.out)|refine below_set ?_ (Aside0.out (by assumption)))|exact HB.out)⟩⟩
      case round =>
       clear H';try clear c1
       try clear c2
       try clear p2
       try clear c4
       try clear c4b0
       try clear c4b1
       try clear c5
       try clear c5b0
       try clear c5b1
       try clear p6
       try clear c8
       try clear c11
       try clear c13
       try clear c14
       try clear c17
       try clear c17b0
       try clear c19
       try clear c20
       try clear c20b0
       try clear c20b1
       try clear c22
       try clear c27
       try clear hcz15_0
       try clear hcz15_1
       try clear hfz15_0
       try clear hfz15_1
       try clear p2
       try clear p6
       obtain ⟨x8_2,x9_2,x12_2,x1001_2,x1002_2,x153001_2,u153001,rfl,HA,HK2,HO_8,HO_9,HO_153001,BK145,BK152,HI0,HK,HB⟩:=hrel;cases gk with
       | zero=>exact absurd HA.out (by simp [spec_l1Cur_order.l1])
       | succ k2 =>
        have H:=HA.out;clear HA;simp only [spec_l1Cur_order.l1] at H
        by_cases c31 : x12_2 < t146
        ·rw [if_pos c31] at H;have c31b0 : decide (x12_2 < t146) = true:=decide_eq_true c31;clear c31;have H':=A_ H;clear H;go_wp2
         go_loopg [13] k2 (fun kq v13 w'=>∃ (x8_3 : List Int) (x9_3 : List Int) (x13_3 : Int) (x1001_3 : Int) (x1002_3 : Int) (x153001_3 : List Int) (u153001 : Value),v13 = .int .i64 x13_3 ∧ Aside0 (spec_l1Cur_order.l2 kq t146 t153 x8_3 x9_3 x12_2 x13_3 s0_0 x1001_3 x1002_3 t146 x153001_3 = some (r1,r2,r3,r4)) ∧ Aside0 (kq ≤ k2) ∧ Aside0 (Kd.R (Kd.int .i64) 3 w' w.heap.size (fun k_=>some k_ ≠ (u9 : Value).ownBlock ∧ some k_ ≠ (u153001 : Value).ownBlock) u8 x8_3) ∧ Aside0 (Kd.R (Kd.int .i64) 3 w' w.heap.size (fun k_=>some k_ ≠ (u8 : Value).ownBlock ∧ some k_ ≠ (u153001 : Value).ownBlock) u9 x9_3) ∧ Aside0 (Kd.R (Kd.int .i64) 3 w' w.heap.size (fun k_=>some k_ ≠ (u8 : Value).ownBlock ∧ some k_ ≠ (u9 : Value).ownBlock) u153001 x153001_3) ∧ Aside0 (w'.heap[gb145]? = some (.cells #[.int .i64 0,(.slice none 0 0)] 26 (0,0))) ∧ Aside0 (w'.heap[gb152]? = some (.cells #[.int .i64 t146,u153001] 26 (0,0))) ∧ Aside0 (IsS62 w0 w' g s0_0 x1001_3 x1002_3) ∧ Aside0 (KeepBut w w' g none) ∧ Aside0 (Below w0.heap.size w0 w'))
         case atStart=>exact ⟨(x8_2),(x9_2),(0),(x1001_2),(x1002_2),(x153001_2),(u153001),(by first|rfl|(simp;done)|(simp [*];done)),H',⟨Nat.le_refl _⟩,⟨by (with_reducible repeat (first|apply Kd.R_alloc|apply Kd.R_drewN|apply Kd.R_drew));exact HO_8.out⟩,⟨by (with_reducible repeat (first|apply Kd.R_alloc|apply Kd.R_drewN|apply Kd.R_drew));exact HO_9.out⟩,⟨by (with_reducible repeat (first|apply Kd.R_alloc|apply Kd.R_drewN|apply Kd.R_drew));exact HO_153001.out⟩,⟨bl_ BK145⟩,⟨bl_ BK152⟩,⟨by repeat (first|(with_reducible first|exact HI0.out|apply IsS62.alloc|apply IsS62.drewN|apply IsS62.drew|apply IsS62.set_1|apply IsS62.set_2|refine IsS62.far ?_ (Aside0.out (by assumption)) _)|exact HI0.out)⟩,⟨by repeat (first|(with_reducible first|exact HK.out|apply KeepBut.set_|apply keep_drewN|apply keep_drew|apply keep_alloc|refine keep_far ?_ GW145.out _|refine keep_far ?_ GW152.out _)|exact HK.out)⟩,⟨by repeat (first|(with_reducible first|exact HB.out|apply below_alloc|apply pw_below_drewN|apply below_drew1|refine below_set ?_ (IsS62.ge HI0.out)|refine below_set ?_ (Aside0.out (by assumption)))|exact HB.out)⟩⟩
         case round =>
          clear H';try clear c1
          try clear c2
          try clear p2
          try clear c3
          try clear c4
          try clear c4b0
          try clear c4b1
          try clear c5
          try clear c5b0
          try clear c5b1
          try clear p6
          try clear c8
          try clear c11
          try clear c13
          try clear c14
          try clear c17
          try clear c17b0
          try clear c19
          try clear c20
          try clear c20b0
          try clear c20b1
          try clear c22
          try clear c27
          try clear c31
          try clear c31b0
          try clear hcz15_0
          try clear hcz15_1
          try clear hfz15_0
          try clear hfz15_1
          try clear p2
          try clear p6
          obtain ⟨x8_3,x9_3,x13_3,x1001_3,x1002_3,x153001_3,u153001,rfl,HA,HK3,HO_8,HO_9,HO_153001,BK145,BK152,HI0,HK,HB⟩:=hrel;cases gk with
          | zero=>exact absurd HA.out (by simp [spec_l1Cur_order.l2])
          | succ k3 =>
           have H:=HA.out;clear HA;simp only [spec_l1Cur_order.l2] at H
           by_cases c32 : x13_3 < t146
           ·rw [if_pos c32] at H;have c32b0 : decide (x13_3 < t146) = true:=decide_eq_true c32;clear c32;by_cases c33 : t153 > 0
            ·rw [if_pos c33] at H;have c33b0 : decide (0 < t153) = true:=decide_eq_true c33;clear c33;by_cases c34 : 0 ≤ x12_2
             ·rw [if_pos c34] at H;have c34b0 : decide (0 ≤ x12_2) = true:=decide_eq_true c34;clear c34;by_cases c35 : x12_2 < (x9_3.length : Int)
              ·rw [if_pos c35] at H;have c35b0 : decide (x12_2 < (x9_3.length : Int)) = true:=decide_eq_true c35;clear c35;by_cases c36 : 0 ≤ x13_3
               ·rw [if_pos c36] at H;have c36b0 : decide (0 ≤ x13_3) = true:=decide_eq_true c36;clear c36;by_cases c37 : x13_3 < (x8_3.length : Int)
                ·rw [if_pos c37] at H;have c37b0 : decide (x13_3 < (x8_3.length : Int)) = true:=decide_eq_true c37;clear c37;by_cases c38 : (rd x9_3 x12_2) < (rd x8_3 x13_3)
                 ·rw [if_pos c38] at H;have c38b0 : decide ((rd x9_3 x12_2) < (rd x8_3 x13_3)) = true:=decide_eq_true c38;clear c38;by_cases c39 : x12_2 < (x153001_3.length : Int)
                  ·rw [if_pos c39] at H;have c39b0 : decide (x12_2 < (x153001_3.length : Int)) = true:=decide_eq_true c39;clear c39;have c40b0:=eq_true (of_decide_eq_true (by first|(with_reducible assumption)|assumption) : 0 ≤ x13_3);obtain ⟨ji41,hji41⟩ : ∃ j_ : Int,(shl .i64 1 x13_3) = j_:=⟨_,rfl⟩;replace H : (spec_l1Cur_order.l2 k3 t146 t153 x8_3 x9_3 x12_2 (wrap64 (x13_3 + 1)) s0_0 x1001_3 x1002_3 t146 (x153001_3.set (x12_2 : Int).toNat (Go.bits .or .i64 (rd x153001_3 x12_2) (ji41)))) = some (r1,r2,r3,r4):=by first|(rw [hji41] at H;exact H)|(simp only [hji41] at H ⊢;exact H)
                   have hji41_ : (IntKind.i64.wrap (1 * 2 ^ min x13_3.toNat 64)) = ji41:=hji41;have hji41z : x13_3 ≤ 64 → (IntKind.i64.wrap (1 * 2 ^ x13_3.toNat)) = ji41:=shl_small hji41;have hji41u : (IntKind.i64.wrap (2 ^ min x13_3.toNat 64)) = ji41:=by have h_:=hji41_;rw [Int.one_mul] at h_;exact h_
                   have hji41v : x13_3 ≤ 64 → (IntKind.i64.wrap (2 ^ x13_3.toNat)) = ji41:=fun hle_=>by have h_:=hji41z hle_;rw [Int.one_mul] at h_;exact h_
                   have hji41y : (wrap64 (1 * 2 ^ min x13_3.toNat 64)) = ji41:=(i64_w _).symm.trans hji41_;have hji41x : x13_3 ≤ 64 → (wrap64 (1 * 2 ^ x13_3.toNat)) = ji41:=fun h_=>(i64_w _).symm.trans (hji41z h_)
                   obtain ⟨y180,hy180⟩ : ∃ y_ : List Int,y_ = (x153001_3.set (x12_2 : Int).toNat (Go.bits .or .i64 (rd x153001_3 x12_2) (ji41))):=⟨_,rfl⟩;replace H : (spec_l1Cur_order.l2 k3 t146 t153 x8_3 x9_3 x12_2 (wrap64 (x13_3 + 1)) s0_0 x1001_3 x1002_3 t146 y180) = some (r1,r2,r3,r4):=by first|(rw [hy180];with_reducible exact H)|(have H2_:=(Option.bind_some _ _).symm.trans H;rw [hy180];with_reducible exact H2_)|(have H2_:=(Option.bind_some _ _).symm.trans H;with_reducible exact H2_)|with_reducible exact H|(rw [hy180];exact H)|exact H
                   have Ny180:=A_ hy180;clear hy180;have H':=A_ H;clear H;try go_wp2
                   replace HO_8:=A_ (Kd.R_drew HO_8.out);replace HO_9:=A_ (Kd.R_drew HO_9.out);replace HO_153001:=A_ (Kd.R_drew HO_153001.out);replace BK145:=A_ (blk_drew BK145.out);replace BK152:=A_ (blk_drew BK152.out);replace HI0:=A_ (IsS62.drew HI0.out);replace HK:=A_ (keep_drew HK.out);replace HB:=A_ (below_drew1 HB.out);obtain ⟨Ao44,co44,eo44⟩:=Kd.R_slice HO_9.out;(first|subst eo44|(injection eo44 with f1_ f2_ f3_;have f4_:=f1_.symm;have f5_:=f3_.symm;clear f1_ f2_ f3_;subst f4_;subst f5_))
                   have p177 : 0 ≤ (x12_2 : Int):=of_decide_eq_true (by first|(with_reducible assumption)|assumption);have q177 : x12_2 < (x9_3.length : Int):=of_decide_eq_true (by first|(with_reducible assumption)|assumption);obtain ⟨ad177,e177,hx177_0⟩:=Kd.at_int (Kd.R_reads' HO_9.out).2.2 x12_2 p177 q177;cases e177
                   replace p177:=eq_true p177;replace q177:=eq_true q177;obtain ⟨Ao45,co45,eo45⟩:=Kd.R_slice HO_8.out;(first|subst eo45|(injection eo45 with f1_ f2_ f3_;have f4_:=f1_.symm;have f5_:=f3_.symm;clear f1_ f2_ f3_;subst f4_;subst f5_))
                   have p178 : 0 ≤ (x13_3 : Int):=of_decide_eq_true (by first|(with_reducible assumption)|assumption);have q178 : x13_3 < (x8_3.length : Int):=of_decide_eq_true (by first|(with_reducible assumption)|assumption);obtain ⟨ad178,e178,hx178_0⟩:=Kd.at_int (Kd.R_reads' HO_8.out).2.2 x13_3 p178 q178;cases e178
                   replace p178:=eq_true p178;replace q178:=eq_true q178;refine start_ (n:=26) (S:=fun w'=>w'.cell? (ad177.add (x12_2).toNat) = some (.int .i64 (rd x9_3 x12_2)) ∧ w'.cell? (ad178.add (x13_3).toNat) = some (.int .i64 (rd x8_3 x13_3))) (ds:=[]) #[F,F,F,F,F,F,F,F,F,F,F,F,F,F,F,F,F,F,F,F,F,F,F,F,F,F] (by kernel_rfl) rfl rfl ⟨hx177_0,hx178_0⟩ (fun hHeld=>?_);refine with_tabW spec_l1Cur_order.tab19 spec_l1Cur_order.bits19 (fun HT_ HW_=>?_)
                   generalize wr.drew = w43 at HO_8 HO_9 HO_153001 BK145 BK152 HI0 HK HB hx177_0 hx178_0 hHeld ⊢
                   refine pure_ (i:=0) (N:=some 61) (v:=?_) (a':=?_) #[T,F,F,F,F,F,F,F,F,F,F,F,F,F,F,F,F,F,F,F,F,F,F,F,F,F] rfl rfl (any_of HT_.out (by kernel_rfl)) (fun _ _ _ h=>h) (Or.inl ⟨by rfl,?_⟩) ?_ ?_
                   rotate_left;·intro w';go_simp;with_reducible rfl
                   rotate_left;·simp only [Act.put,L_,M_,N_,i64_w,i32_w];rfl
                   refine pure_ (i:=1) (N:=some 62) (v:=?_) (a':=?_) #[T,T,F,F,F,F,F,F,F,F,F,F,F,F,F,F,F,F,F,F,F,F,F,F,F,F] rfl rfl (any_of HT_.out (by kernel_rfl)) (fun _ _ _ h=>h) (Or.inl ⟨by rfl,?_⟩) ?_ ?_
                   rotate_left;·intro w';go_simp;with_reducible rfl
                   rotate_left;·simp only [Act.put,L_,M_,N_,i64_w,i32_w];rfl
                   refine pure_ (i:=2) (N:=some 63) (v:=?_) (a':=?_) #[T,T,T,F,F,F,F,F,F,F,F,F,F,F,F,F,F,F,F,F,F,F,F,F,F,F] rfl rfl (any_of HT_.out (by kernel_rfl)) (fun _ _ _ h=>h) (Or.inl ⟨by rfl,?_⟩) ?_ ?_
                   rotate_left;·intro w';go_simp;with_reducible rfl
                   rotate_left;·simp only [Act.put,L_,M_,N_,i64_w,i32_w];rfl
                   refine pure_ (i:=3) (N:=some 64) (v:=?_) (a':=?_) #[T,T,T,T,F,F,F,F,F,F,F,F,F,F,F,F,F,F,F,F,F,F,F,F,F,F] rfl rfl (any_of HT_.out (by kernel_rfl)) (fun _ _ _ h=>h) (Or.inl ⟨by rfl,?_⟩) ?_ ?_
                   rotate_left;·intro w';go_simp;with_reducible rfl
                   rotate_left;·simp only [Act.put,L_,M_,N_,i64_w,i32_w];rfl
                   refine pure_ (i:=4) (N:=some 65) (v:=?_) (a':=?_) #[T,T,T,T,T,F,F,F,F,F,F,F,F,F,F,F,F,F,F,F,F,F,F,F,F,F] rfl rfl (any_of HT_.out (by kernel_rfl)) (fun _ _ _ h=>h) (Or.inl ⟨by rfl,?_⟩) ?_ ?_
                   rotate_left;·intro w';go_simp;with_reducible rfl
                   rotate_left;·simp only [Act.put,L_,M_,N_,i64_w,i32_w];rfl
                   refine pure_ (i:=5) (N:=some 66) (v:=?_) (a':=?_) #[T,T,T,T,T,T,F,F,F,F,F,F,F,F,F,F,F,F,F,F,F,F,F,F,F,F] rfl rfl (any_of HT_.out (by kernel_rfl)) (fun _ _ _ h=>h) (Or.inl ⟨by rfl,?_⟩) ?_ ?_
                   rotate_left;·intro w';go_simp;with_reducible rfl
                   rotate_left;·simp only [Act.put,L_,M_,N_,i64_w,i32_w];rfl
                   refine pure_ (i:=7) (N:=some 68) (v:=?_) (a':=?_) #[T,T,T,T,T,T,F,T,F,F,F,F,F,F,F,F,F,F,F,F,F,F,F,F,F,F] rfl rfl (any_of HT_.out (by kernel_rfl)) (fun _ _ _ h=>h) (Or.inl ⟨by rfl,?_⟩) ?_ ?_
                   rotate_left;·intro w';go_simp;with_reducible rfl
                   rotate_left;·simp only [Act.put,L_,M_,N_,i64_w,i32_w];rfl
                   refine pure_ (i:=8) (N:=some 69) (v:=?_) (a':=?_) #[T,T,T,T,T,T,F,T,T,F,F,F,F,F,F,F,F,F,F,F,F,F,F,F,F,F] rfl rfl (any_of HT_.out (by kernel_rfl)) (fun _ _ _ h=>h) (Or.inl ⟨by rfl,?_⟩) ?_ ?_
                   rotate_left;·intro w';go_simp;with_reducible rfl
                   rotate_left;·simp only [Act.put,L_,M_,N_,i64_w,i32_w];rfl
                   refine pure_ (i:=9) (N:=some 70) (v:=?_) (a':=?_) #[T,T,T,T,T,T,F,T,T,T,F,F,F,F,F,F,F,F,F,F,F,F,F,F,F,F] rfl rfl (any_of HT_.out (by kernel_rfl)) (fun _ _ _ h=>h) (Or.inl ⟨by rfl,?_⟩) ?_ ?_
                   rotate_left;·intro w';go_simp;with_reducible rfl
                   rotate_left;·simp only [Act.put,L_,M_,N_,i64_w,i32_w];rfl
                   refine take_ (i:=6) (N:=some 67) (v:=?_) (a':=?_) #[T,T,T,T,T,T,T,T,T,T,F,F,F,F,F,F,F,F,F,F,F,F,F,F,F,F] rfl rfl (take_ofW HT_.out HW_.out (by kernel_rfl)) (fun _ _ _ h=>h) (Or.inl ⟨by rfl,?_⟩) hHeld ?_ ?_
                   rotate_left
                   ·rintro w' ⟨s0,s1⟩
                    go_simp
                    with_reducible rfl
                   rotate_left;·simp only [Act.put,L_,M_,N_,i64_w,i32_w];rfl
                   refine take_ (i:=10) (N:=some 71) (v:=?_) (a':=?_) #[T,T,T,T,T,T,T,T,T,T,T,F,F,F,F,F,F,F,F,F,F,F,F,F,F,F] rfl rfl (take_ofW HT_.out HW_.out (by kernel_rfl)) (fun _ _ _ h=>h) (Or.inl ⟨by rfl,?_⟩) hHeld ?_ ?_
                   rotate_left
                   ·rintro w' ⟨s0,s1⟩
                    go_simp
                    with_reducible rfl
                   rotate_left;·simp only [Act.put,L_,M_,N_,i64_w,i32_w];rfl
                   refine pure_ (i:=11) (N:=some 72) (v:=?_) (a':=?_) #[T,T,T,T,T,T,T,T,T,T,T,T,F,F,F,F,F,F,F,F,F,F,F,F,F,F] rfl rfl (any_of HT_.out (by kernel_rfl)) (fun _ _ _ h=>h) (Or.inl ⟨by rfl,?_⟩) ?_ ?_
                   rotate_left;·intro w';go_simp;with_reducible rfl
                   rotate_left;·simp only [Act.put,L_,M_,N_,i64_w,i32_w];rfl
                   refine pure_ (i:=12) (N:=some 73) (v:=?_) (a':=?_) #[T,T,T,T,T,T,T,T,T,T,T,T,T,F,F,F,F,F,F,F,F,F,F,F,F,F] rfl rfl (any_of HT_.out (by kernel_rfl)) (fun _ _ _ h=>h) (Or.inl ⟨by rfl,?_⟩) ?_ ?_
                   rotate_left;·intro w';go_simp;with_reducible rfl
                   rotate_left;·simp only [Act.put,L_,M_,N_,i64_w,i32_w];rfl
                   refine pure_ (i:=13) (N:=some 74) (v:=?_) (a':=?_) #[T,T,T,T,T,T,T,T,T,T,T,T,T,T,F,F,F,F,F,F,F,F,F,F,F,F] rfl rfl (any_of HT_.out (by kernel_rfl)) (fun _ _ _ h=>h) (Or.inl ⟨by rfl,?_⟩) ?_ ?_
                   rotate_left;·intro w';go_simp;with_reducible rfl
                   rotate_left;·simp only [Act.put,L_,M_,N_,i64_w,i32_w];rfl
                   refine pure_ (i:=14) (N:=some 75) (v:=undef) (a':=?_) #[T,T,T,T,T,T,T,T,T,T,T,T,T,T,T,F,F,F,F,F,F,F,F,F,F,F] rfl rfl (any_of HT_.out (by kernel_rfl)) (fun _ _ _ h=>h) (Or.inr ⟨by rfl,rfl⟩) ?_ ?_
                   rotate_left;·simp only [Act.put,L_,M_,N_,i64_w,i32_w];rfl
                   refine pure_ (i:=15) (N:=some 76) (v:=undef) (a':=?_) #[T,T,T,T,T,T,T,T,T,T,T,T,T,T,T,T,F,F,F,F,F,F,F,F,F,F] rfl rfl (any_of HT_.out (by kernel_rfl)) (fun _ _ _ h=>h) (Or.inr ⟨by rfl,rfl⟩) ?_ ?_
                   rotate_left;·simp only [Act.put,L_,M_,N_,i64_w,i32_w];rfl
                   refine pure_ (i:=16) (N:=some 77) (v:=undef) (a':=?_) #[T,T,T,T,T,T,T,T,T,T,T,T,T,T,T,T,T,F,F,F,F,F,F,F,F,F] rfl rfl (any_of HT_.out (by kernel_rfl)) (fun _ _ _ h=>h) (Or.inr ⟨by rfl,rfl⟩) ?_ ?_
                   rotate_left;·simp only [Act.put,L_,M_,N_,i64_w,i32_w];rfl
                   refine pure_ (i:=17) (N:=some 78) (v:=undef) (a':=?_) #[T,T,T,T,T,T,T,T,T,T,T,T,T,T,T,T,T,T,F,F,F,F,F,F,F,F] rfl rfl (any_of HT_.out (by kernel_rfl)) (fun _ _ _ h=>h) (Or.inr ⟨by rfl,rfl⟩) ?_ ?_
                   rotate_left;·simp only [Act.put,L_,M_,N_,i64_w,i32_w];rfl
                   refine pure_ (i:=18) (N:=some 79) (v:=undef) (a':=?_) #[T,T,T,T,T,T,T,T,T,T,T,T,T,T,T,T,T,T,T,F,F,F,F,F,F,F] rfl rfl (any_of HT_.out (by kernel_rfl)) (fun _ _ _ h=>h) (Or.inr ⟨by rfl,rfl⟩) ?_ ?_
                   rotate_left;·simp only [Act.put,L_,M_,N_,i64_w,i32_w];rfl
                   refine pure_ (i:=19) (N:=some 80) (v:=undef) (a':=?_) #[T,T,T,T,T,T,T,T,T,T,T,T,T,T,T,T,T,T,T,T,F,F,F,F,F,F] rfl rfl (any_of HT_.out (by kernel_rfl)) (fun _ _ _ h=>h) (Or.inr ⟨by rfl,rfl⟩) ?_ ?_
                   rotate_left;·simp only [Act.put,L_,M_,N_,i64_w,i32_w];rfl
                   refine pure_ (i:=20) (N:=some 81) (v:=undef) (a':=?_) #[T,T,T,T,T,T,T,T,T,T,T,T,T,T,T,T,T,T,T,T,T,F,F,F,F,F] rfl rfl (any_of HT_.out (by kernel_rfl)) (fun _ _ _ h=>h) (Or.inr ⟨by rfl,rfl⟩) ?_ ?_
                   rotate_left;·simp only [Act.put,L_,M_,N_,i64_w,i32_w];rfl
                   refine pure_ (i:=21) (N:=some 82) (v:=undef) (a':=?_) #[T,T,T,T,T,T,T,T,T,T,T,T,T,T,T,T,T,T,T,T,T,T,F,F,F,F] rfl rfl (any_of HT_.out (by kernel_rfl)) (fun _ _ _ h=>h) (Or.inr ⟨by rfl,rfl⟩) ?_ ?_
                   rotate_left;·simp only [Act.put,L_,M_,N_,i64_w,i32_w];rfl
                   refine pure_ (i:=22) (N:=some 83) (v:=undef) (a':=?_) #[T,T,T,T,T,T,T,T,T,T,T,T,T,T,T,T,T,T,T,T,T,T,T,F,F,F] rfl rfl (any_of HT_.out (by kernel_rfl)) (fun _ _ _ h=>h) (Or.inr ⟨by rfl,rfl⟩) ?_ ?_
                   rotate_left;·simp only [Act.put,L_,M_,N_,i64_w,i32_w];rfl
                   refine pure_ (i:=23) (N:=some 84) (v:=undef) (a':=?_) #[T,T,T,T,T,T,T,T,T,T,T,T,T,T,T,T,T,T,T,T,T,T,T,T,F,F] rfl rfl (any_of HT_.out (by kernel_rfl)) (fun _ _ _ h=>h) (Or.inr ⟨by rfl,rfl⟩) ?_ ?_
                   rotate_left;·simp only [Act.put,L_,M_,N_,i64_w,i32_w];rfl
                   refine pure_ (i:=24) (N:=some 85) (v:=undef) (a':=?_) #[T,T,T,T,T,T,T,T,T,T,T,T,T,T,T,T,T,T,T,T,T,T,T,T,T,F] rfl rfl (any_of HT_.out (by kernel_rfl)) (fun _ _ _ h=>h) (Or.inr ⟨by rfl,rfl⟩) ?_ ?_
                   rotate_left;·simp only [Act.put,L_,M_,N_,i64_w,i32_w];rfl
                   refine pure_ (i:=25) (N:=some 86) (v:=?_) (a':=?_) #[T,T,T,T,T,T,T,T,T,T,T,T,T,T,T,T,T,T,T,T,T,T,T,T,T,T] rfl rfl (any_of HT_.out (by kernel_rfl)) (fun _ _ _ h=>h) (Or.inl ⟨by rfl,?_⟩) ?_ ?_
                   rotate_left;·intro w';go_simp;with_reducible rfl
                   rotate_left;·simp only [Act.put,L_,M_,N_,i64_w,i32_w];rfl
                   refine done_ (done_of HT_.out (by kernel_rfl)) ?_
                   try go_wp2
                   replace HO_8:=A_ (Kd.R_drew HO_8.out);replace HO_9:=A_ (Kd.R_drew HO_9.out);replace HO_153001:=A_ (Kd.R_drew HO_153001.out);replace BK145:=A_ (blk_drew BK145.out);replace BK152:=A_ (blk_drew BK152.out);replace HI0:=A_ (IsS62.drew HI0.out);replace HK:=A_ (keep_drew HK.out);replace HB:=A_ (below_drew1 HB.out);obtain ⟨Ao47,co47,eo47⟩:=Kd.R_slice HO_153001.out;(first|subst eo47|(injection eo47 with f1_ f2_ f3_;have f4_:=f1_.symm;have f5_:=f3_.symm;clear f1_ f2_ f3_;subst f4_;subst f5_))
                   have p179 : 0 ≤ (x12_2 : Int):=of_decide_eq_true (by first|(with_reducible assumption)|assumption);have q179 : x12_2 < (x153001_3.length : Int):=of_decide_eq_true (by first|(with_reducible assumption)|assumption);obtain ⟨ad179,e179,hx179_0⟩:=Kd.at_int (Kd.R_reads' HO_153001.out).2.2 x12_2 p179 q179;cases e179
                   replace p179:=eq_true p179;replace q179:=eq_true q179;have p42 : 0 ≤ (x12_2 : Int):=of_decide_eq_true (by first|(with_reducible assumption)|assumption);have q42 : (x12_2 : Int) < ((x153001_3.length : Int) : Int):=of_decide_eq_true (by first|(with_reducible assumption)|assumption);obtain ⟨go42,co42,eo42,gb42,gl42,cl42,HG42⟩:=Kd.R_form HO_153001.out (by omega);(first|cases eo42|(injection eo42 with ea_ en_ ec_;(first|subst ea_|(injection ea_ with ea_;subst ea_));subst ec_;clear en_))
                   have GB42:=A_ gb42;have GG42:=A_ HG42;clear gb42 gl42 HG42;(first|simp only [add_plain] at hx179_0|skip)
                   obtain ⟨hx42_0,hf42_0⟩:=Kd.R_celln 0 HO_153001.out (x12_2 : Int) p42 q42;replace p42:=eq_true p42;replace q42:=eq_true q42;have HN0_go42:=A_ (show g ≠ go42 from by have h_:=IsS62.own_ne HI0.out HO_153001.out (by decide);intro e_;exact h_ (by rw [e_];rfl));have HP48:=Kd.R_putn HO_153001.out (x12_2 : Int) (Go.bits .or .i64 (rd x153001_3 x12_2) (ji41));rw [← Ny180.out] at HP48;have HQ48:=A_ HP48;clear HP48;refine start_ (n:=10) (S:=fun w'=>w'.cell? ⟨gb152,0,none⟩ = some (.int .i64 t146) ∧ w'.cell? ⟨gb152,1,none⟩ = some (.slice (some ⟨go42,0,none⟩) x153001_3.length co47) ∧ w'.cell? ⟨go42,(x12_2).toNat,none⟩ = some (.int .i64 (rd x153001_3 x12_2))) (ds:=[9]) #[F,F,F,F,F,F,F,F,F,F] (by kernel_rfl) rfl rfl ⟨blk_cell BK152.out 0,blk_cell BK152.out 1,hx179_0⟩ (fun hHeld=>?_);refine with_tabW spec_l1Cur_order.tab20 spec_l1Cur_order.bits20 (fun HT_ HW_=>?_)
                   generalize w43.drew = w46 at HO_8 HO_9 HO_153001 BK145 BK152 HI0 HK HB GG42 HQ48 hf42_0 hx179_0 hx42_0 hHeld ⊢
                   refine pure_ (i:=0) (N:=some 87) (v:=?_) (a':=?_) #[T,F,F,F,F,F,F,F,F,F] rfl rfl (any_of HT_.out (by kernel_rfl)) (fun _ _ _ h=>h) (Or.inl ⟨by rfl,?_⟩) ?_ ?_
                   rotate_left;·intro w';go_simp;with_reducible rfl
                   rotate_left;·simp only [Act.put,L_,M_,N_,i64_w,i32_w];rfl
                   refine pure_ (i:=2) (N:=some 89) (v:=?_) (a':=?_) #[T,F,T,F,F,F,F,F,F,F] rfl rfl (any_of HT_.out (by kernel_rfl)) (fun _ _ _ h=>h) (Or.inl ⟨by rfl,?_⟩) ?_ ?_
                   rotate_left;·intro w';go_simp;with_reducible rfl
                   rotate_left;·simp only [Act.put,L_,M_,N_,i64_w,i32_w];rfl
                   refine pure_ (i:=5) (N:=some 92) (v:=?_) (a':=?_) #[T,F,T,F,F,T,F,F,F,F] rfl rfl (any_of HT_.out (by kernel_rfl)) (fun _ _ _ h=>h) (Or.inl ⟨by rfl,?_⟩) ?_ ?_
                   rotate_left;·intro w';go_simp;with_reducible rfl
                   rotate_left;·simp only [Act.put,L_,M_,N_,i64_w,i32_w];rfl
                   refine pure_ (i:=6) (N:=some 93) (v:=?_) (a':=?_) #[T,F,T,F,F,T,T,F,F,F] rfl rfl (any_of HT_.out (by kernel_rfl)) (fun _ _ _ h=>h) (Or.inl ⟨by rfl,?_⟩) ?_ ?_
                   rotate_left;·intro w';go_simp;with_reducible rfl
                   rotate_left;·simp only [Act.put,L_,M_,N_,i64_w,i32_w];rfl
                   refine take_ (i:=1) (N:=some 88) (v:=?_) (a':=?_) #[T,T,T,F,F,T,T,F,F,F] rfl rfl (take_ofW HT_.out HW_.out (by kernel_rfl)) (fun _ _ _ h=>h) (Or.inl ⟨by rfl,?_⟩) hHeld ?_ ?_
                   rotate_left
                   ·rintro w' ⟨s0,s1,s2⟩
                    go_simp
                    with_reducible rfl
                   rotate_left;·simp only [Act.put,L_,M_,N_,i64_w,i32_w];rfl
                   refine pure_ (i:=3) (N:=some 90) (v:=?_) (a':=?_) #[T,T,T,T,F,T,T,F,F,F] rfl rfl (any_of HT_.out (by kernel_rfl)) (fun _ _ _ h=>h) (Or.inl ⟨by rfl,?_⟩) ?_ ?_
                   rotate_left;·intro w';go_simp;with_reducible rfl
                   rotate_left;·simp only [Act.put,L_,M_,N_,i64_w,i32_w];rfl
                   refine take_ (i:=4) (N:=some 91) (v:=?_) (a':=?_) #[T,T,T,T,T,T,T,F,F,F] rfl rfl (take_ofW HT_.out HW_.out (by kernel_rfl)) (fun _ _ _ h=>h) (Or.inl ⟨by rfl,?_⟩) hHeld ?_ ?_
                   rotate_left
                   ·rintro w' ⟨s0,s1,s2⟩
                    go_simp
                    with_reducible rfl
                   rotate_left;·simp only [Act.put,L_,M_,N_,i64_w,i32_w];rfl
                   refine pure_ (i:=7) (N:=some 94) (v:=?_) (a':=?_) #[T,T,T,T,T,T,T,T,F,F] rfl rfl (any_of HT_.out (by kernel_rfl)) (fun _ _ _ h=>h) (Or.inl ⟨by rfl,?_⟩) ?_ ?_
                   rotate_left;·intro w';go_simp;with_reducible rfl
                   rotate_left;·simp only [Act.put,L_,M_,N_,i64_w,i32_w];rfl
                   refine pure_ (i:=8) (N:=some 95) (v:=?_) (a':=?_) #[T,T,T,T,T,T,T,T,T,F] rfl rfl (any_of HT_.out (by kernel_rfl)) (fun _ _ _ h=>h) (Or.inl ⟨by rfl,?_⟩) ?_ ?_
                   rotate_left;·intro w';go_simp;with_reducible rfl
                   rotate_left;·simp only [Act.put,L_,M_,N_,i64_w,i32_w];rfl
                   refine last_ (i:=9) (N:=none) #[T,T,T,T,T,T,T,T,T,T] rfl rfl (one_of HT_.out (by kernel_rfl)) (by decide) (fun K hK=>?_)
                   refine skip_ (w1:=?_) (by rfl) rfl ?_ ?_
                   rotate_left
                   ·go_simp
                    rfl
                   refine hK.out _ _ ?_
                   clear hK K;refine done_ (done_of HT_.out (by kernel_rfl)) ?_
                   try go_wp2
                   go_roundg k3
                   case measure=>have:=HK1.out;have:=HK2.out;have:=HK3.out;omega
                   case rel=>exact ⟨(x8_3),(x9_3),(wrap64 (x13_3 + 1)),(x1001_3),(x1002_3),(y180),(.slice (some ⟨go42,0,none⟩) x153001_3.length co47),(by first|rfl|(simp;done)|(simp [*];done)),H',⟨by have:=HK1.out;have:=HK2.out;have:=HK3.out;omega⟩,⟨by (with_reducible repeat (first|apply Kd.R_alloc|apply Kd.R_drewN|apply Kd.R_drew));exact Kd.R_mono (Kd.R_far (p:=⟨go42,(x12_2 : Int).toNat,none⟩) (Kd.R_mono HO_8.out (fun k_ hk=>(⟨hk,fun e_=>hk.2 (by rw [e_];rfl)⟩ : _ ∧ k_ ≠ go42))) (fun _ hk=>hk.2) (.int .i64 (Go.bits .or .i64 (rd x153001_3 x12_2) (ji41)))) (fun _ hk=>⟨hk.1.1,hk.1.2⟩)⟩,⟨by (with_reducible repeat (first|apply Kd.R_alloc|apply Kd.R_drewN|apply Kd.R_drew));exact Kd.R_mono (Kd.R_far (p:=⟨go42,(x12_2 : Int).toNat,none⟩) (Kd.R_mono HO_9.out (fun k_ hk=>(⟨hk,fun e_=>hk.2 (by rw [e_];rfl)⟩ : _ ∧ k_ ≠ go42))) (fun _ hk=>hk.2) (.int .i64 (Go.bits .or .i64 (rd x153001_3 x12_2) (ji41)))) (fun _ hk=>⟨hk.1.1,hk.1.2⟩)⟩,⟨by (with_reducible repeat (first|apply Kd.R_alloc|apply Kd.R_drewN|apply Kd.R_drew));exact HQ48.out⟩,⟨by (with_reducible repeat (first|refine blk_drewN ?_ _|refine blk_drew ?_|refine blk_alloc ?_ _));refine blk_far ?_ (by have h_:=Kd.R_ne HO_153001.out BK145.out (by decide);intro e_;exact h_ (by rw [e_];rfl)) _;(with_reducible repeat (first|refine blk_drewN ?_ _|refine blk_drew ?_|refine blk_alloc ?_ _));exact BK145.out⟩,⟨by (with_reducible repeat (first|refine blk_drewN ?_ _|refine blk_drew ?_|refine blk_alloc ?_ _));refine blk_far ?_ (by have h_:=Kd.R_ne HO_153001.out BK152.out (by decide);intro e_;exact h_ (by rw [e_];rfl)) _;(with_reducible repeat (first|refine blk_drewN ?_ _|refine blk_drew ?_|refine blk_alloc ?_ _));exact BK152.out⟩,⟨by repeat (first|(with_reducible first|exact HI0.out|apply IsS62.alloc|apply IsS62.drewN|apply IsS62.drew|apply IsS62.set_1|apply IsS62.set_2|refine IsS62.far ?_ HN0_go42.out _|refine IsS62.far ?_ (Aside0.out (by assumption)) _)|exact HI0.out)⟩,⟨by repeat (first|(with_reducible first|exact HK.out|apply KeepBut.set_|apply keep_drewN|apply keep_drew|apply keep_alloc|refine keep_far ?_ GB42.out _|refine keep_far ?_ GW145.out _|refine keep_far ?_ GW152.out _)|exact HK.out)⟩,⟨by repeat (first|(with_reducible first|exact HB.out|apply below_alloc|apply pw_below_drewN|apply below_drew1|refine below_set ?_ (Nat.le_trans HL.out GB42.out)|refine below_set ?_ (IsS62.ge HI0.out)|refine below_set ?_ (Aside0.out (by assumption)))|exact HB.out)⟩⟩
                  ·rw [if_neg c39] at H;exact absurd H (by simp)
                 ·rw [if_neg c38] at H;have c38b0 : decide ((rd x9_3 x12_2) < (rd x8_3 x13_3)) = false:=decide_eq_false c38;clear c38;by_cases c49 : t153 = 0
                  ·rw [if_pos c49] at H;have c49b0 : (t153 == 0) = true:=beq_iff_eq.mpr c49;have c49b1 : (t153 != 0) = false:=bne_eq_false_iff_eq.mpr c49;clear c49;by_cases c50 : x12_2 < x13_3
                   ·rw [if_pos c50] at H;have c50b0 : decide (x12_2 < x13_3) = true:=decide_eq_true c50;clear c50;replace H:=Option.bind_eq_some_iff.mp H;obtain ⟨⟨t181,t182,t183⟩,A510,H⟩:=H;replace H : (if t181 = true then (if x12_2 < (x153001_3.length : Int) then (spec_l1Cur_order.l2 k3 t146 t153 x8_3 x9_3 x12_2 (wrap64 (x13_3 + 1)) s0_0 t182 t183 t146 (x153001_3.set (x12_2 : Int).toNat (Go.bits .or .i64 (rd x153001_3 x12_2) (shl .i64 1 x13_3)))) else (none)) else (spec_l1Cur_order.l2 k3 t146 t153 x8_3 x9_3 x12_2 (wrap64 (x13_3 + 1)) s0_0 t182 t183 t146 x153001_3)) = some (r1,r2,r3,r4):=H;have A51:=A_ A510;clear A510;by_cases c52 : t181 = true
                    ·subst c52;have H1 : (if x12_2 < (x153001_3.length : Int) then (spec_l1Cur_order.l2 k3 t146 t153 x8_3 x9_3 x12_2 (wrap64 (x13_3 + 1)) s0_0 t182 t183 t146 (x153001_3.set (x12_2 : Int).toNat (Go.bits .or .i64 (rd x153001_3 x12_2) (shl .i64 1 x13_3)))) else (none)) = some (r1,r2,r3,r4):=by rw [if_pos rfl] at H;exact H
                     clear H;have H:=H1;clear H1;by_cases c53 : x12_2 < (x153001_3.length : Int)
                     ·rw [if_pos c53] at H;have c53b0 : decide (x12_2 < (x153001_3.length : Int)) = true:=decide_eq_true c53;clear c53;have c54b0:=eq_true (of_decide_eq_true (by first|(with_reducible assumption)|assumption) : 0 ≤ x13_3);obtain ⟨ji55,hji55⟩ : ∃ j_ : Int,(shl .i64 1 x13_3) = j_:=⟨_,rfl⟩;replace H : (spec_l1Cur_order.l2 k3 t146 t153 x8_3 x9_3 x12_2 (wrap64 (x13_3 + 1)) s0_0 t182 t183 t146 (x153001_3.set (x12_2 : Int).toNat (Go.bits .or .i64 (rd x153001_3 x12_2) (ji55)))) = some (r1,r2,r3,r4):=by first|(rw [hji55] at H;exact H)|(simp only [hji55] at H ⊢;exact H)
                      (try rw [hji55] at A51);have hji55_ : (IntKind.i64.wrap (1 * 2 ^ min x13_3.toNat 64)) = ji55:=hji55;have hji55z : x13_3 ≤ 64 → (IntKind.i64.wrap (1 * 2 ^ x13_3.toNat)) = ji55:=shl_small hji55;have hji55u : (IntKind.i64.wrap (2 ^ min x13_3.toNat 64)) = ji55:=by have h_:=hji55_;rw [Int.one_mul] at h_;exact h_
                      have hji55v : x13_3 ≤ 64 → (IntKind.i64.wrap (2 ^ x13_3.toNat)) = ji55:=fun hle_=>by have h_:=hji55z hle_;rw [Int.one_mul] at h_;exact h_
                      have hji55y : (wrap64 (1 * 2 ^ min x13_3.toNat 64)) = ji55:=(i64_w _).symm.trans hji55_;have hji55x : x13_3 ≤ 64 → (wrap64 (1 * 2 ^ x13_3.toNat)) = ji55:=fun h_=>(i64_w _).symm.trans (hji55z h_)
                      obtain ⟨y185,hy185⟩ : ∃ y_ : List Int,y_ = (x153001_3.set (x12_2 : Int).toNat (Go.bits .or .i64 (rd x153001_3 x12_2) (ji55))):=⟨_,rfl⟩;replace H : (spec_l1Cur_order.l2 k3 t146 t153 x8_3 x9_3 x12_2 (wrap64 (x13_3 + 1)) s0_0 t182 t183 t146 y185) = some (r1,r2,r3,r4):=by first|(rw [hy185];with_reducible exact H)|(have H2_:=(Option.bind_some _ _).symm.trans H;rw [hy185];with_reducible exact H2_)|(have H2_:=(Option.bind_some _ _).symm.trans H;with_reducible exact H2_)|with_reducible exact H|(rw [hy185];exact H)|exact H
                      have Ny185:=A_ hy185;clear hy185;have H':=A_ H;clear H;try go_wp2
                      replace HO_8:=A_ (Kd.R_drew HO_8.out);replace HO_9:=A_ (Kd.R_drew HO_9.out);replace HO_153001:=A_ (Kd.R_drew HO_153001.out);replace BK145:=A_ (blk_drew BK145.out);replace BK152:=A_ (blk_drew BK152.out);replace HI0:=A_ (IsS62.drew HI0.out);replace HK:=A_ (keep_drew HK.out);replace HB:=A_ (below_drew1 HB.out);obtain ⟨Ao58,co58,eo58⟩:=Kd.R_slice HO_9.out;(first|subst eo58|(injection eo58 with f1_ f2_ f3_;have f4_:=f1_.symm;have f5_:=f3_.symm;clear f1_ f2_ f3_;subst f4_;subst f5_))
                      have p177 : 0 ≤ (x12_2 : Int):=of_decide_eq_true (by first|(with_reducible assumption)|assumption);have q177 : x12_2 < (x9_3.length : Int):=of_decide_eq_true (by first|(with_reducible assumption)|assumption);obtain ⟨ad177,e177,hx177_0⟩:=Kd.at_int (Kd.R_reads' HO_9.out).2.2 x12_2 p177 q177;cases e177
                      replace p177:=eq_true p177;replace q177:=eq_true q177;obtain ⟨Ao59,co59,eo59⟩:=Kd.R_slice HO_8.out;(first|subst eo59|(injection eo59 with f1_ f2_ f3_;have f4_:=f1_.symm;have f5_:=f3_.symm;clear f1_ f2_ f3_;subst f4_;subst f5_))
                      have p178 : 0 ≤ (x13_3 : Int):=of_decide_eq_true (by first|(with_reducible assumption)|assumption);have q178 : x13_3 < (x8_3.length : Int):=of_decide_eq_true (by first|(with_reducible assumption)|assumption);obtain ⟨ad178,e178,hx178_0⟩:=Kd.at_int (Kd.R_reads' HO_8.out).2.2 x13_3 p178 q178;cases e178
                      replace p178:=eq_true p178;replace q178:=eq_true q178;refine start_ (n:=26) (S:=fun w'=>w'.cell? (ad177.add (x12_2).toNat) = some (.int .i64 (rd x9_3 x12_2)) ∧ w'.cell? (ad178.add (x13_3).toNat) = some (.int .i64 (rd x8_3 x13_3))) (ds:=[]) #[F,F,F,F,F,F,F,F,F,F,F,F,F,F,F,F,F,F,F,F,F,F,F,F,F,F] (by kernel_rfl) rfl rfl ⟨hx177_0,hx178_0⟩ (fun hHeld=>?_);refine with_tabW spec_l1Cur_order.tab19 spec_l1Cur_order.bits19 (fun HT_ HW_=>?_)
                      generalize wr.drew = w57 at HO_8 HO_9 HO_153001 BK145 BK152 HI0 HK HB hx177_0 hx178_0 hHeld ⊢
                      refine pure_ (i:=0) (N:=some 61) (v:=?_) (a':=?_) #[T,F,F,F,F,F,F,F,F,F,F,F,F,F,F,F,F,F,F,F,F,F,F,F,F,F] rfl rfl (any_of HT_.out (by kernel_rfl)) (fun _ _ _ h=>h) (Or.inl ⟨by rfl,?_⟩) ?_ ?_
                      rotate_left;·intro w';go_simp;with_reducible rfl
                      rotate_left;·simp only [Act.put,L_,M_,N_,i64_w,i32_w];rfl
                      refine pure_ (i:=1) (N:=some 62) (v:=?_) (a':=?_) #[T,T,F,F,F,F,F,F,F,F,F,F,F,F,F,F,F,F,F,F,F,F,F,F,F,F] rfl rfl (any_of HT_.out (by kernel_rfl)) (fun _ _ _ h=>h) (Or.inl ⟨by rfl,?_⟩) ?_ ?_
                      rotate_left;·intro w';go_simp;with_reducible rfl
                      rotate_left;·simp only [Act.put,L_,M_,N_,i64_w,i32_w];rfl
                      refine pure_ (i:=2) (N:=some 63) (v:=?_) (a':=?_) #[T,T,T,F,F,F,F,F,F,F,F,F,F,F,F,F,F,F,F,F,F,F,F,F,F,F] rfl rfl (any_of HT_.out (by kernel_rfl)) (fun _ _ _ h=>h) (Or.inl ⟨by rfl,?_⟩) ?_ ?_
                      rotate_left;·intro w';go_simp;with_reducible rfl
                      rotate_left;·simp only [Act.put,L_,M_,N_,i64_w,i32_w];rfl
                      refine pure_ (i:=3) (N:=some 64) (v:=?_) (a':=?_) #[T,T,T,T,F,F,F,F,F,F,F,F,F,F,F,F,F,F,F,F,F,F,F,F,F,F] rfl rfl (any_of HT_.out (by kernel_rfl)) (fun _ _ _ h=>h) (Or.inl ⟨by rfl,?_⟩) ?_ ?_
                      rotate_left;·intro w';go_simp;with_reducible rfl
                      rotate_left;·simp only [Act.put,L_,M_,N_,i64_w,i32_w];rfl
                      refine pure_ (i:=4) (N:=some 65) (v:=?_) (a':=?_) #[T,T,T,T,T,F,F,F,F,F,F,F,F,F,F,F,F,F,F,F,F,F,F,F,F,F] rfl rfl (any_of HT_.out (by kernel_rfl)) (fun _ _ _ h=>h) (Or.inl ⟨by rfl,?_⟩) ?_ ?_
                      rotate_left;·intro w';go_simp;with_reducible rfl
                      rotate_left;·simp only [Act.put,L_,M_,N_,i64_w,i32_w];rfl
                      refine pure_ (i:=5) (N:=some 66) (v:=?_) (a':=?_) #[T,T,T,T,T,T,F,F,F,F,F,F,F,F,F,F,F,F,F,F,F,F,F,F,F,F] rfl rfl (any_of HT_.out (by kernel_rfl)) (fun _ _ _ h=>h) (Or.inl ⟨by rfl,?_⟩) ?_ ?_
                      rotate_left;·intro w';go_simp;with_reducible rfl
                      rotate_left;·simp only [Act.put,L_,M_,N_,i64_w,i32_w];rfl
                      refine pure_ (i:=7) (N:=some 68) (v:=?_) (a':=?_) #[T,T,T,T,T,T,F,T,F,F,F,F,F,F,F,F,F,F,F,F,F,F,F,F,F,F] rfl rfl (any_of HT_.out (by kernel_rfl)) (fun _ _ _ h=>h) (Or.inl ⟨by rfl,?_⟩) ?_ ?_
                      rotate_left;·intro w';go_simp;with_reducible rfl
                      rotate_left;·simp only [Act.put,L_,M_,N_,i64_w,i32_w];rfl
                      refine pure_ (i:=8) (N:=some 69) (v:=?_) (a':=?_) #[T,T,T,T,T,T,F,T,T,F,F,F,F,F,F,F,F,F,F,F,F,F,F,F,F,F] rfl rfl (any_of HT_.out (by kernel_rfl)) (fun _ _ _ h=>h) (Or.inl ⟨by rfl,?_⟩) ?_ ?_
                      rotate_left;·intro w';go_simp;with_reducible rfl
                      rotate_left;·simp only [Act.put,L_,M_,N_,i64_w,i32_w];rfl
                      refine pure_ (i:=9) (N:=some 70) (v:=?_) (a':=?_) #[T,T,T,T,T,T,F,T,T,T,F,F,F,F,F,F,F,F,F,F,F,F,F,F,F,F] rfl rfl (any_of HT_.out (by kernel_rfl)) (fun _ _ _ h=>h) (Or.inl ⟨by rfl,?_⟩) ?_ ?_
                      rotate_left;·intro w';go_simp;with_reducible rfl
                      rotate_left;·simp only [Act.put,L_,M_,N_,i64_w,i32_w];rfl
                      refine take_ (i:=6) (N:=some 67) (v:=?_) (a':=?_) #[T,T,T,T,T,T,T,T,T,T,F,F,F,F,F,F,F,F,F,F,F,F,F,F,F,F] rfl rfl (take_ofW HT_.out HW_.out (by kernel_rfl)) (fun _ _ _ h=>h) (Or.inl ⟨by rfl,?_⟩) hHeld ?_ ?_
                      rotate_left
                      ·rintro w' ⟨s0,s1⟩
                       go_simp
                       with_reducible rfl
                      rotate_left;·simp only [Act.put,L_,M_,N_,i64_w,i32_w];rfl
                      refine take_ (i:=10) (N:=some 71) (v:=?_) (a':=?_) #[T,T,T,T,T,T,T,T,T,T,T,F,F,F,F,F,F,F,F,F,F,F,F,F,F,F] rfl rfl (take_ofW HT_.out HW_.out (by kernel_rfl)) (fun _ _ _ h=>h) (Or.inl ⟨by rfl,?_⟩) hHeld ?_ ?_
                      rotate_left
                      ·rintro w' ⟨s0,s1⟩
                       go_simp
                       with_reducible rfl
                      rotate_left;·simp only [Act.put,L_,M_,N_,i64_w,i32_w];rfl
                      refine pure_ (i:=11) (N:=some 72) (v:=?_) (a':=?_) #[T,T,T,T,T,T,T,T,T,T,T,T,F,F,F,F,F,F,F,F,F,F,F,F,F,F] rfl rfl (any_of HT_.out (by kernel_rfl)) (fun _ _ _ h=>h) (Or.inl ⟨by rfl,?_⟩) ?_ ?_
                      rotate_left;·intro w';go_simp;with_reducible rfl
                      rotate_left;·simp only [Act.put,L_,M_,N_,i64_w,i32_w];rfl
                      refine pure_ (i:=12) (N:=some 73) (v:=?_) (a':=?_) #[T,T,T,T,T,T,T,T,T,T,T,T,T,F,F,F,F,F,F,F,F,F,F,F,F,F] rfl rfl (any_of HT_.out (by kernel_rfl)) (fun _ _ _ h=>h) (Or.inl ⟨by rfl,?_⟩) ?_ ?_
                      rotate_left;·intro w';go_simp;with_reducible rfl
                      rotate_left;·simp only [Act.put,L_,M_,N_,i64_w,i32_w];rfl
                      refine pure_ (i:=13) (N:=some 74) (v:=?_) (a':=?_) #[T,T,T,T,T,T,T,T,T,T,T,T,T,T,F,F,F,F,F,F,F,F,F,F,F,F] rfl rfl (any_of HT_.out (by kernel_rfl)) (fun _ _ _ h=>h) (Or.inl ⟨by rfl,?_⟩) ?_ ?_
                      rotate_left;·intro w';go_simp;with_reducible rfl
                      rotate_left;·simp only [Act.put,L_,M_,N_,i64_w,i32_w];rfl
                      refine pure_ (i:=14) (N:=some 75) (v:=?_) (a':=?_) #[T,T,T,T,T,T,T,T,T,T,T,T,T,T,T,F,F,F,F,F,F,F,F,F,F,F] rfl rfl (any_of HT_.out (by kernel_rfl)) (fun _ _ _ h=>h) (Or.inl ⟨by rfl,?_⟩) ?_ ?_
                      rotate_left;·intro w';go_simp;with_reducible rfl
                      rotate_left;·simp only [Act.put,L_,M_,N_,i64_w,i32_w];rfl
                      refine pure_ (i:=15) (N:=some 76) (v:=?_) (a':=?_) #[T,T,T,T,T,T,T,T,T,T,T,T,T,T,T,T,F,F,F,F,F,F,F,F,F,F] rfl rfl (any_of HT_.out (by kernel_rfl)) (fun _ _ _ h=>h) (Or.inl ⟨by rfl,?_⟩) ?_ ?_
                      rotate_left;·intro w';go_simp;with_reducible rfl
                      rotate_left;·simp only [Act.put,L_,M_,N_,i64_w,i32_w];rfl
                      refine pure_ (i:=16) (N:=some 77) (v:=?_) (a':=?_) #[T,T,T,T,T,T,T,T,T,T,T,T,T,T,T,T,T,F,F,F,F,F,F,F,F,F] rfl rfl (any_of HT_.out (by kernel_rfl)) (fun _ _ _ h=>h) (Or.inl ⟨by rfl,?_⟩) ?_ ?_
                      rotate_left;·intro w';go_simp;with_reducible rfl
                      rotate_left;·simp only [Act.put,L_,M_,N_,i64_w,i32_w];rfl
                      refine pure_ (i:=17) (N:=some 78) (v:=?_) (a':=?_) #[T,T,T,T,T,T,T,T,T,T,T,T,T,T,T,T,T,T,F,F,F,F,F,F,F,F] rfl rfl (any_of HT_.out (by kernel_rfl)) (fun _ _ _ h=>h) (Or.inl ⟨by rfl,?_⟩) ?_ ?_
                      rotate_left;·intro w';go_simp;with_reducible rfl
                      rotate_left;·simp only [Act.put,L_,M_,N_,i64_w,i32_w];rfl
                      refine pure_ (i:=18) (N:=some 79) (v:=?_) (a':=?_) #[T,T,T,T,T,T,T,T,T,T,T,T,T,T,T,T,T,T,T,F,F,F,F,F,F,F] rfl rfl (any_of HT_.out (by kernel_rfl)) (fun _ _ _ h=>h) (Or.inl ⟨by rfl,?_⟩) ?_ ?_
                      rotate_left;·intro w';go_simp;with_reducible rfl
                      rotate_left;·simp only [Act.put,L_,M_,N_,i64_w,i32_w];rfl
                      refine pure_ (i:=19) (N:=some 80) (v:=?_) (a':=?_) #[T,T,T,T,T,T,T,T,T,T,T,T,T,T,T,T,T,T,T,T,F,F,F,F,F,F] rfl rfl (any_of HT_.out (by kernel_rfl)) (fun _ _ _ h=>h) (Or.inl ⟨by rfl,?_⟩) ?_ ?_
                      rotate_left;·intro w';go_simp;with_reducible rfl
                      rotate_left;·simp only [Act.put,L_,M_,N_,i64_w,i32_w];rfl
                      refine pure_ (i:=20) (N:=some 81) (v:=?_) (a':=?_) #[T,T,T,T,T,T,T,T,T,T,T,T,T,T,T,T,T,T,T,T,T,F,F,F,F,F] rfl rfl (any_of HT_.out (by kernel_rfl)) (fun _ _ _ h=>h) (Or.inl ⟨by rfl,?_⟩) ?_ ?_
                      rotate_left;·intro w';go_simp;with_reducible rfl
                      rotate_left;·simp only [Act.put,L_,M_,N_,i64_w,i32_w];rfl
                      refine pure_ (i:=21) (N:=some 82) (v:=?_) (a':=?_) #[T,T,T,T,T,T,T,T,T,T,T,T,T,T,T,T,T,T,T,T,T,T,F,F,F,F] rfl rfl (any_of HT_.out (by kernel_rfl)) (fun _ _ _ h=>h) (Or.inl ⟨by rfl,?_⟩) ?_ ?_
                      rotate_left;·intro w';go_simp;with_reducible rfl
                      rotate_left;·simp only [Act.put,L_,M_,N_,i64_w,i32_w];rfl
                      refine pure_ (i:=22) (N:=some 83) (v:=?_) (a':=?_) #[T,T,T,T,T,T,T,T,T,T,T,T,T,T,T,T,T,T,T,T,T,T,T,F,F,F] rfl rfl (any_of HT_.out (by kernel_rfl)) (fun _ _ _ h=>h) (Or.inl ⟨by rfl,?_⟩) ?_ ?_
                      rotate_left;·intro w';go_simp;with_reducible rfl
                      rotate_left;·simp only [Act.put,L_,M_,N_,i64_w,i32_w];rfl
                      refine one_ (i:=23) (N:=some 84) #[T,T,T,T,T,T,T,T,T,T,T,T,T,T,T,T,T,T,T,T,T,T,T,T,F,F] rfl rfl (one_of HT_.out (by kernel_rfl)) (by decide) (fun K hK=>?_)
                      refine goes_ Tryd.func58 (by kernel_rfl) rfl #[.pointer (some ⟨g,0,none⟩),.int .i64 3] (by rfl) rfl rfl au_ ?_
                      with_reducible refine (spec_l1Cur_one.calls g s0_0 x1001_3 x1002_3 3 true t182 t183 w0 _ ?side1 ?side2 A51.out).mono ?_
                      (case side1=>repeat (first|(with_reducible first|exact HI0.out|apply IsS62.alloc|apply IsS62.drewN|apply IsS62.drew|apply IsS62.set_1|apply IsS62.set_2|refine IsS62.far ?_ (Aside0.out (by assumption)) _)|exact HI0.out))
                      (case side2=>repeat (first|(with_reducible first|exact HB.out|apply below_alloc|apply pw_below_drewN|apply below_drew1|refine below_set ?_ (IsS62.ge HI0.out)|refine below_set ?_ (Aside0.out (by assumption)))|exact HB.out))
                      rintro e w60 ⟨rfl,hi,hb,hk⟩
                      have HS0_:=keep_cell hk (hHeld.1) (by first|(rw [add_block];exact Kd.own_blk (IsS62.own_ne HI0.out HO_9.out (by decide)))|(show (Addr.add _ _).block ≠ _;rw [add_block];exact Kd.own_blk (IsS62.own_ne HI0.out HO_9.out (by decide)))|exact Kd.own_blk (IsS62.own_ne HI0.out HO_9.out (by decide)));have HS1_:=keep_cell hk (hHeld.2) (by first|(rw [add_block];exact Kd.own_blk (IsS62.own_ne HI0.out HO_8.out (by decide)))|(show (Addr.add _ _).block ≠ _;rw [add_block];exact Kd.own_blk (IsS62.own_ne HI0.out HO_8.out (by decide)))|exact Kd.own_blk (IsS62.own_ne HI0.out HO_8.out (by decide)));refine ⟨_,rfl,?_⟩
                      replace HO_8:=A_ (Kd.R_mono (Kd.R_keep (IsS62.apart (show IsS62 w0 _ g s0_0 x1001_3 x1002_3 from by repeat (first|(with_reducible first|exact HI0.out|apply IsS62.alloc|apply IsS62.drewN|apply IsS62.drew|apply IsS62.set_1|apply IsS62.set_2|refine IsS62.far ?_ (Aside0.out (by assumption)) _)|exact HI0.out)) (rl_ HO_8) (by decide)) hk (fun _ h=>h.2)) (fun _ h=>h.1));replace HO_9:=A_ (Kd.R_mono (Kd.R_keep (IsS62.apart (show IsS62 w0 _ g s0_0 x1001_3 x1002_3 from by repeat (first|(with_reducible first|exact HI0.out|apply IsS62.alloc|apply IsS62.drewN|apply IsS62.drew|apply IsS62.set_1|apply IsS62.set_2|refine IsS62.far ?_ (Aside0.out (by assumption)) _)|exact HI0.out)) (rl_ HO_9) (by decide)) hk (fun _ h=>h.2)) (fun _ h=>h.1));replace HO_153001:=A_ (Kd.R_mono (Kd.R_keep (IsS62.apart (show IsS62 w0 _ g s0_0 x1001_3 x1002_3 from by repeat (first|(with_reducible first|exact HI0.out|apply IsS62.alloc|apply IsS62.drewN|apply IsS62.drew|apply IsS62.set_1|apply IsS62.set_2|refine IsS62.far ?_ (Aside0.out (by assumption)) _)|exact HI0.out)) (rl_ HO_153001) (by decide)) hk (fun _ h=>h.2)) (fun _ h=>h.1));replace BK145:=A_ (KeepBut.blk hk (g':=gb145) (o:=.cells #[.int .i64 0,.slice none 0 0] 26 (0,0)) (bl_ BK145) NB145_0.out (by simp));replace BK152:=A_ (KeepBut.blk hk (g':=gb152) (o:=.cells #[.int .i64 t146,u153001] 26 (0,0)) (bl_ BK152) NB152_0.out (by simp));replace HK:=A_ (KeepBut.trans (by repeat (with_reducible first|exact HK.out|apply KeepBut.set_|apply keep_drewN|apply keep_drew|apply keep_alloc|refine keep_far ?_ GW145.out _|refine keep_far ?_ GW152.out _)) hk (.inl rfl));replace HB:=A_ (hb);replace HI0:=A_ (hi);(try clear hb);(try clear hb2);(try clear hk);(try clear hi);refine hK.out _ _ ⟨HS0_,HS1_⟩ (fun hHeld=>?_)
                      clear hK K;refine norm_ (a':=?_) ?_ ?_
                      rotate_left
                      ·show Act.put _ (some 84) _ = _
                       simp only [Act.put,L_,M_,N_,i64_w,i32_w]
                       rfl
                      refine pure_ (i:=24) (N:=some 85) (v:=?_) (a':=?_) #[T,T,T,T,T,T,T,T,T,T,T,T,T,T,T,T,T,T,T,T,T,T,T,T,T,F] rfl rfl (any_of HT_.out (by kernel_rfl)) (fun _ _ _ h=>h) (Or.inl ⟨by rfl,?_⟩) ?_ ?_
                      rotate_left;·intro w';go_simp;with_reducible rfl
                      rotate_left;·simp only [Act.put,L_,M_,N_,i64_w,i32_w];rfl
                      refine pure_ (i:=25) (N:=some 86) (v:=?_) (a':=?_) #[T,T,T,T,T,T,T,T,T,T,T,T,T,T,T,T,T,T,T,T,T,T,T,T,T,T] rfl rfl (any_of HT_.out (by kernel_rfl)) (fun _ _ _ h=>h) (Or.inl ⟨by rfl,?_⟩) ?_ ?_
                      rotate_left;·intro w';go_simp;with_reducible rfl
                      rotate_left;·simp only [Act.put,L_,M_,N_,i64_w,i32_w];rfl
                      refine done_ (done_of HT_.out (by kernel_rfl)) ?_
                      try go_wp2
                      replace HO_8:=A_ (Kd.R_drew HO_8.out);replace HO_9:=A_ (Kd.R_drew HO_9.out);replace HO_153001:=A_ (Kd.R_drew HO_153001.out);replace BK145:=A_ (blk_drew BK145.out);replace BK152:=A_ (blk_drew BK152.out);replace HI0:=A_ (IsS62.drew HI0.out);replace HK:=A_ (keep_drew HK.out);replace HB:=A_ (below_drew1 HB.out);obtain ⟨Ao62,co62,eo62⟩:=Kd.R_slice HO_153001.out;(first|subst eo62|(injection eo62 with f1_ f2_ f3_;have f4_:=f1_.symm;have f5_:=f3_.symm;clear f1_ f2_ f3_;subst f4_;subst f5_))
                      have p184 : 0 ≤ (x12_2 : Int):=of_decide_eq_true (by first|(with_reducible assumption)|assumption);have q184 : x12_2 < (x153001_3.length : Int):=of_decide_eq_true (by first|(with_reducible assumption)|assumption);obtain ⟨ad184,e184,hx184_0⟩:=Kd.at_int (Kd.R_reads' HO_153001.out).2.2 x12_2 p184 q184;cases e184
                      replace p184:=eq_true p184;replace q184:=eq_true q184;have p56 : 0 ≤ (x12_2 : Int):=of_decide_eq_true (by first|(with_reducible assumption)|assumption);have q56 : (x12_2 : Int) < ((x153001_3.length : Int) : Int):=of_decide_eq_true (by first|(with_reducible assumption)|assumption);obtain ⟨go56,co56,eo56,gb56,gl56,cl56,HG56⟩:=Kd.R_form HO_153001.out (by omega);(first|cases eo56|(injection eo56 with ea_ en_ ec_;(first|subst ea_|(injection ea_ with ea_;subst ea_));subst ec_;clear en_))
                      have GB56:=A_ gb56;have GG56:=A_ HG56;clear gb56 gl56 HG56;(first|simp only [add_plain] at hx184_0|skip)
                      obtain ⟨hx56_0,hf56_0⟩:=Kd.R_celln 0 HO_153001.out (x12_2 : Int) p56 q56;replace p56:=eq_true p56;replace q56:=eq_true q56;have HN0_go56:=A_ (show g ≠ go56 from by have h_:=IsS62.own_ne HI0.out HO_153001.out (by decide);intro e_;exact h_ (by rw [e_];rfl));have HP63:=Kd.R_putn HO_153001.out (x12_2 : Int) (Go.bits .or .i64 (rd x153001_3 x12_2) (ji55));rw [← Ny185.out] at HP63;have HQ63:=A_ HP63;clear HP63;refine start_ (n:=10) (S:=fun w'=>w'.cell? ⟨gb152,0,none⟩ = some (.int .i64 t146) ∧ w'.cell? ⟨gb152,1,none⟩ = some (.slice (some ⟨go56,0,none⟩) x153001_3.length co62) ∧ w'.cell? ⟨go56,(x12_2).toNat,none⟩ = some (.int .i64 (rd x153001_3 x12_2))) (ds:=[9]) #[F,F,F,F,F,F,F,F,F,F] (by kernel_rfl) rfl rfl ⟨blk_cell BK152.out 0,blk_cell BK152.out 1,hx184_0⟩ (fun hHeld=>?_);refine with_tabW spec_l1Cur_order.tab20 spec_l1Cur_order.bits20 (fun HT_ HW_=>?_)
                      generalize w60.drew = w61 at HO_8 HO_9 HO_153001 BK145 BK152 HI0 HK HB GG56 HQ63 hf56_0 hx184_0 hx56_0 hHeld ⊢
                      refine pure_ (i:=0) (N:=some 87) (v:=?_) (a':=?_) #[T,F,F,F,F,F,F,F,F,F] rfl rfl (any_of HT_.out (by kernel_rfl)) (fun _ _ _ h=>h) (Or.inl ⟨by rfl,?_⟩) ?_ ?_
                      rotate_left;·intro w';go_simp;with_reducible rfl
                      rotate_left;·simp only [Act.put,L_,M_,N_,i64_w,i32_w];rfl
                      refine pure_ (i:=2) (N:=some 89) (v:=?_) (a':=?_) #[T,F,T,F,F,F,F,F,F,F] rfl rfl (any_of HT_.out (by kernel_rfl)) (fun _ _ _ h=>h) (Or.inl ⟨by rfl,?_⟩) ?_ ?_
                      rotate_left;·intro w';go_simp;with_reducible rfl
                      rotate_left;·simp only [Act.put,L_,M_,N_,i64_w,i32_w];rfl
                      refine pure_ (i:=5) (N:=some 92) (v:=?_) (a':=?_) #[T,F,T,F,F,T,F,F,F,F] rfl rfl (any_of HT_.out (by kernel_rfl)) (fun _ _ _ h=>h) (Or.inl ⟨by rfl,?_⟩) ?_ ?_
                      rotate_left;·intro w';go_simp;with_reducible rfl
                      rotate_left;·simp only [Act.put,L_,M_,N_,i64_w,i32_w];rfl
                      refine pure_ (i:=6) (N:=some 93) (v:=?_) (a':=?_) #[T,F,T,F,F,T,T,F,F,F] rfl rfl (any_of HT_.out (by kernel_rfl)) (fun _ _ _ h=>h) (Or.inl ⟨by rfl,?_⟩) ?_ ?_
                      rotate_left;·intro w';go_simp;with_reducible rfl
                      rotate_left;·simp only [Act.put,L_,M_,N_,i64_w,i32_w];rfl
                      refine take_ (i:=1) (N:=some 88) (v:=?_) (a':=?_) #[T,T,T,F,F,T,T,F,F,F] rfl rfl (take_ofW HT_.out HW_.out (by kernel_rfl)) (fun _ _ _ h=>h) (Or.inl ⟨by rfl,?_⟩) hHeld ?_ ?_
                      rotate_left
                      ·rintro w' ⟨s0,s1,s2⟩
                       go_simp
                       with_reducible rfl
                      rotate_left;·simp only [Act.put,L_,M_,N_,i64_w,i32_w];rfl
                      refine pure_ (i:=3) (N:=some 90) (v:=?_) (a':=?_) #[T,T,T,T,F,T,T,F,F,F] rfl rfl (any_of HT_.out (by kernel_rfl)) (fun _ _ _ h=>h) (Or.inl ⟨by rfl,?_⟩) ?_ ?_
                      rotate_left;·intro w';go_simp;with_reducible rfl
                      rotate_left;·simp only [Act.put,L_,M_,N_,i64_w,i32_w];rfl
                      refine take_ (i:=4) (N:=some 91) (v:=?_) (a':=?_) #[T,T,T,T,T,T,T,F,F,F] rfl rfl (take_ofW HT_.out HW_.out (by kernel_rfl)) (fun _ _ _ h=>h) (Or.inl ⟨by rfl,?_⟩) hHeld ?_ ?_
                      rotate_left
                      ·rintro w' ⟨s0,s1,s2⟩
                       go_simp
                       with_reducible rfl
                      rotate_left;·simp only [Act.put,L_,M_,N_,i64_w,i32_w];rfl
                      refine pure_ (i:=7) (N:=some 94) (v:=?_) (a':=?_) #[T,T,T,T,T,T,T,T,F,F] rfl rfl (any_of HT_.out (by kernel_rfl)) (fun _ _ _ h=>h) (Or.inl ⟨by rfl,?_⟩) ?_ ?_
                      rotate_left;·intro w';go_simp;with_reducible rfl
                      rotate_left;·simp only [Act.put,L_,M_,N_,i64_w,i32_w];rfl
                      refine pure_ (i:=8) (N:=some 95) (v:=?_) (a':=?_) #[T,T,T,T,T,T,T,T,T,F] rfl rfl (any_of HT_.out (by kernel_rfl)) (fun _ _ _ h=>h) (Or.inl ⟨by rfl,?_⟩) ?_ ?_
                      rotate_left;·intro w';go_simp;with_reducible rfl
                      rotate_left;·simp only [Act.put,L_,M_,N_,i64_w,i32_w];rfl
                      refine last_ (i:=9) (N:=none) #[T,T,T,T,T,T,T,T,T,T] rfl rfl (one_of HT_.out (by kernel_rfl)) (by decide) (fun K hK=>?_)
                      refine skip_ (w1:=?_) (by rfl) rfl ?_ ?_
                      rotate_left
                      ·go_simp
                       rfl
                      refine hK.out _ _ ?_
                      clear hK K;refine done_ (done_of HT_.out (by kernel_rfl)) ?_
                      try go_wp2
                      go_roundg k3
                      case measure=>have:=HK1.out;have:=HK2.out;have:=HK3.out;omega
                      case rel=>exact ⟨(x8_3),(x9_3),(wrap64 (x13_3 + 1)),(t182),(t183),(y185),(.slice (some ⟨go56,0,none⟩) x153001_3.length co62),(by first|rfl|(simp;done)|(simp [*];done)),H',⟨by have:=HK1.out;have:=HK2.out;have:=HK3.out;omega⟩,⟨by (with_reducible repeat (first|apply Kd.R_alloc|apply Kd.R_drewN|apply Kd.R_drew));exact Kd.R_mono (Kd.R_far (p:=⟨go56,(x12_2 : Int).toNat,none⟩) (Kd.R_mono HO_8.out (fun k_ hk=>(⟨hk,fun e_=>hk.2 (by rw [e_];rfl)⟩ : _ ∧ k_ ≠ go56))) (fun _ hk=>hk.2) (.int .i64 (Go.bits .or .i64 (rd x153001_3 x12_2) (ji55)))) (fun _ hk=>⟨hk.1.1,hk.1.2⟩)⟩,⟨by (with_reducible repeat (first|apply Kd.R_alloc|apply Kd.R_drewN|apply Kd.R_drew));exact Kd.R_mono (Kd.R_far (p:=⟨go56,(x12_2 : Int).toNat,none⟩) (Kd.R_mono HO_9.out (fun k_ hk=>(⟨hk,fun e_=>hk.2 (by rw [e_];rfl)⟩ : _ ∧ k_ ≠ go56))) (fun _ hk=>hk.2) (.int .i64 (Go.bits .or .i64 (rd x153001_3 x12_2) (ji55)))) (fun _ hk=>⟨hk.1.1,hk.1.2⟩)⟩,⟨by (with_reducible repeat (first|apply Kd.R_alloc|apply Kd.R_drewN|apply Kd.R_drew));exact HQ63.out⟩,⟨by (with_reducible repeat (first|refine blk_drewN ?_ _|refine blk_drew ?_|refine blk_alloc ?_ _));refine blk_far ?_ (by have h_:=Kd.R_ne HO_153001.out BK145.out (by decide);intro e_;exact h_ (by rw [e_];rfl)) _;(with_reducible repeat (first|refine blk_drewN ?_ _|refine blk_drew ?_|refine blk_alloc ?_ _));exact BK145.out⟩,⟨by (with_reducible repeat (first|refine blk_drewN ?_ _|refine blk_drew ?_|refine blk_alloc ?_ _));refine blk_far ?_ (by have h_:=Kd.R_ne HO_153001.out BK152.out (by decide);intro e_;exact h_ (by rw [e_];rfl)) _;(with_reducible repeat (first|refine blk_drewN ?_ _|refine blk_drew ?_|refine blk_alloc ?_ _));exact BK152.out⟩,⟨by repeat (first|(with_reducible first|exact HI0.out|apply IsS62.alloc|apply IsS62.drewN|apply IsS62.drew|apply IsS62.set_1|apply IsS62.set_2|refine IsS62.far ?_ HN0_go56.out _|refine IsS62.far ?_ (Aside0.out (by assumption)) _)|exact HI0.out)⟩,⟨by repeat (first|(with_reducible first|exact HK.out|apply KeepBut.set_|apply keep_drewN|apply keep_drew|apply keep_alloc|refine keep_far ?_ GB56.out _|refine keep_far ?_ GW145.out _|refine keep_far ?_ GW152.out _)|exact HK.out)⟩,⟨by repeat (first|(with_reducible first|exact HB.out|apply below_alloc|apply pw_below_drewN|apply below_drew1|refine below_set ?_ (Nat.le_trans HL.out GB56.out)|refine below_set ?_ (IsS62.ge HI0.out)|refine below_set ?_ (Aside0.out (by assumption)))|exact HB.out)⟩⟩
                     ·rw [if_neg c53] at H;exact absurd H (by simp)
                    ·replace c52:=Bool.eq_false_iff.mpr c52;subst c52;have H1 : (spec_l1Cur_order.l2 k3 t146 t153 x8_3 x9_3 x12_2 (wrap64 (x13_3 + 1)) s0_0 t182 t183 t146 x153001_3) = some (r1,r2,r3,r4):=by rw [if_neg (show ¬ (false = true) by decide)] at H;exact H
                     clear H;have H:=H1;clear H1;have H':=A_ H;clear H;try go_wp2
                     replace HO_8:=A_ (Kd.R_drew HO_8.out);replace HO_9:=A_ (Kd.R_drew HO_9.out);replace HO_153001:=A_ (Kd.R_drew HO_153001.out);replace BK145:=A_ (blk_drew BK145.out);replace BK152:=A_ (blk_drew BK152.out);replace HI0:=A_ (IsS62.drew HI0.out);replace HK:=A_ (keep_drew HK.out);replace HB:=A_ (below_drew1 HB.out);obtain ⟨Ao65,co65,eo65⟩:=Kd.R_slice HO_9.out;(first|subst eo65|(injection eo65 with f1_ f2_ f3_;have f4_:=f1_.symm;have f5_:=f3_.symm;clear f1_ f2_ f3_;subst f4_;subst f5_))
                     have p177 : 0 ≤ (x12_2 : Int):=of_decide_eq_true (by first|(with_reducible assumption)|assumption);have q177 : x12_2 < (x9_3.length : Int):=of_decide_eq_true (by first|(with_reducible assumption)|assumption);obtain ⟨ad177,e177,hx177_0⟩:=Kd.at_int (Kd.R_reads' HO_9.out).2.2 x12_2 p177 q177;cases e177
                     replace p177:=eq_true p177;replace q177:=eq_true q177;obtain ⟨Ao66,co66,eo66⟩:=Kd.R_slice HO_8.out;(first|subst eo66|(injection eo66 with f1_ f2_ f3_;have f4_:=f1_.symm;have f5_:=f3_.symm;clear f1_ f2_ f3_;subst f4_;subst f5_))
                     have p178 : 0 ≤ (x13_3 : Int):=of_decide_eq_true (by first|(with_reducible assumption)|assumption);have q178 : x13_3 < (x8_3.length : Int):=of_decide_eq_true (by first|(with_reducible assumption)|assumption);obtain ⟨ad178,e178,hx178_0⟩:=Kd.at_int (Kd.R_reads' HO_8.out).2.2 x13_3 p178 q178;cases e178
                     replace p178:=eq_true p178;replace q178:=eq_true q178;refine start_ (n:=26) (S:=fun w'=>w'.cell? (ad177.add (x12_2).toNat) = some (.int .i64 (rd x9_3 x12_2)) ∧ w'.cell? (ad178.add (x13_3).toNat) = some (.int .i64 (rd x8_3 x13_3))) (ds:=[]) #[F,F,F,F,F,F,F,F,F,F,F,F,F,F,F,F,F,F,F,F,F,F,F,F,F,F] (by kernel_rfl) rfl rfl ⟨hx177_0,hx178_0⟩ (fun hHeld=>?_);refine with_tabW spec_l1Cur_order.tab19 spec_l1Cur_order.bits19 (fun HT_ HW_=>?_)
                     generalize wr.drew = w64 at HO_8 HO_9 HO_153001 BK145 BK152 HI0 HK HB hx177_0 hx178_0 hHeld ⊢
                     refine pure_ (i:=0) (N:=some 61) (v:=?_) (a':=?_) #[T,F,F,F,F,F,F,F,F,F,F,F,F,F,F,F,F,F,F,F,F,F,F,F,F,F] rfl rfl (any_of HT_.out (by kernel_rfl)) (fun _ _ _ h=>h) (Or.inl ⟨by rfl,?_⟩) ?_ ?_
                     rotate_left;·intro w';go_simp;with_reducible rfl
                     rotate_left;·simp only [Act.put,L_,M_,N_,i64_w,i32_w];rfl
                     refine pure_ (i:=1) (N:=some 62) (v:=?_) (a':=?_) #[T,T,F,F,F,F,F,F,F,F,F,F,F,F,F,F,F,F,F,F,F,F,F,F,F,F] rfl rfl (any_of HT_.out (by kernel_rfl)) (fun _ _ _ h=>h) (Or.inl ⟨by rfl,?_⟩) ?_ ?_
                     rotate_left;·intro w';go_simp;with_reducible rfl
                     rotate_left;·simp only [Act.put,L_,M_,N_,i64_w,i32_w];rfl
                     refine pure_ (i:=2) (N:=some 63) (v:=?_) (a':=?_) #[T,T,T,F,F,F,F,F,F,F,F,F,F,F,F,F,F,F,F,F,F,F,F,F,F,F] rfl rfl (any_of HT_.out (by kernel_rfl)) (fun _ _ _ h=>h) (Or.inl ⟨by rfl,?_⟩) ?_ ?_
                     rotate_left;·intro w';go_simp;with_reducible rfl
                     rotate_left;·simp only [Act.put,L_,M_,N_,i64_w,i32_w];rfl
                     refine pure_ (i:=3) (N:=some 64) (v:=?_) (a':=?_) #[T,T,T,T,F,F,F,F,F,F,F,F,F,F,F,F,F,F,F,F,F,F,F,F,F,F] rfl rfl (any_of HT_.out (by kernel_rfl)) (fun _ _ _ h=>h) (Or.inl ⟨by rfl,?_⟩) ?_ ?_
                     rotate_left;·intro w';go_simp;with_reducible rfl
                     rotate_left;·simp only [Act.put,L_,M_,N_,i64_w,i32_w];rfl
                     refine pure_ (i:=4) (N:=some 65) (v:=?_) (a':=?_) #[T,T,T,T,T,F,F,F,F,F,F,F,F,F,F,F,F,F,F,F,F,F,F,F,F,F] rfl rfl (any_of HT_.out (by kernel_rfl)) (fun _ _ _ h=>h) (Or.inl ⟨by rfl,?_⟩) ?_ ?_
                     rotate_left;·intro w';go_simp;with_reducible rfl
                     rotate_left;·simp only [Act.put,L_,M_,N_,i64_w,i32_w];rfl
                     refine pure_ (i:=5) (N:=some 66) (v:=?_) (a':=?_) #[T,T,T,T,T,T,F,F,F,F,F,F,F,F,F,F,F,F,F,F,F,F,F,F,F,F] rfl rfl (any_of HT_.out (by kernel_rfl)) (fun _ _ _ h=>h) (Or.inl ⟨by rfl,?_⟩) ?_ ?_
                     rotate_left;·intro w';go_simp;with_reducible rfl
                     rotate_left;·simp only [Act.put,L_,M_,N_,i64_w,i32_w];rfl
                     refine pure_ (i:=7) (N:=some 68) (v:=?_) (a':=?_) #[T,T,T,T,T,T,F,T,F,F,F,F,F,F,F,F,F,F,F,F,F,F,F,F,F,F] rfl rfl (any_of HT_.out (by kernel_rfl)) (fun _ _ _ h=>h) (Or.inl ⟨by rfl,?_⟩) ?_ ?_
                     rotate_left;·intro w';go_simp;with_reducible rfl
                     rotate_left;·simp only [Act.put,L_,M_,N_,i64_w,i32_w];rfl
                     refine pure_ (i:=8) (N:=some 69) (v:=?_) (a':=?_) #[T,T,T,T,T,T,F,T,T,F,F,F,F,F,F,F,F,F,F,F,F,F,F,F,F,F] rfl rfl (any_of HT_.out (by kernel_rfl)) (fun _ _ _ h=>h) (Or.inl ⟨by rfl,?_⟩) ?_ ?_
                     rotate_left;·intro w';go_simp;with_reducible rfl
                     rotate_left;·simp only [Act.put,L_,M_,N_,i64_w,i32_w];rfl
                     refine pure_ (i:=9) (N:=some 70) (v:=?_) (a':=?_) #[T,T,T,T,T,T,F,T,T,T,F,F,F,F,F,F,F,F,F,F,F,F,F,F,F,F] rfl rfl (any_of HT_.out (by kernel_rfl)) (fun _ _ _ h=>h) (Or.inl ⟨by rfl,?_⟩) ?_ ?_
                     rotate_left;·intro w';go_simp;with_reducible rfl
                     rotate_left;·simp only [Act.put,L_,M_,N_,i64_w,i32_w];rfl
                     refine take_ (i:=6) (N:=some 67) (v:=?_) (a':=?_) #[T,T,T,T,T,T,T,T,T,T,F,F,F,F,F,F,F,F,F,F,F,F,F,F,F,F] rfl rfl (take_ofW HT_.out HW_.out (by kernel_rfl)) (fun _ _ _ h=>h) (Or.inl ⟨by rfl,?_⟩) hHeld ?_ ?_
                     rotate_left
                     ·rintro w' ⟨s0,s1⟩
                      go_simp
                      with_reducible rfl
                     rotate_left;·simp only [Act.put,L_,M_,N_,i64_w,i32_w];rfl
                     refine take_ (i:=10) (N:=some 71) (v:=?_) (a':=?_) #[T,T,T,T,T,T,T,T,T,T,T,F,F,F,F,F,F,F,F,F,F,F,F,F,F,F] rfl rfl (take_ofW HT_.out HW_.out (by kernel_rfl)) (fun _ _ _ h=>h) (Or.inl ⟨by rfl,?_⟩) hHeld ?_ ?_
                     rotate_left
                     ·rintro w' ⟨s0,s1⟩
                      go_simp
                      with_reducible rfl
                     rotate_left;·simp only [Act.put,L_,M_,N_,i64_w,i32_w];rfl
                     refine pure_ (i:=11) (N:=some 72) (v:=?_) (a':=?_) #[T,T,T,T,T,T,T,T,T,T,T,T,F,F,F,F,F,F,F,F,F,F,F,F,F,F] rfl rfl (any_of HT_.out (by kernel_rfl)) (fun _ _ _ h=>h) (Or.inl ⟨by rfl,?_⟩) ?_ ?_
                     rotate_left;·intro w';go_simp;with_reducible rfl
                     rotate_left;·simp only [Act.put,L_,M_,N_,i64_w,i32_w];rfl
                     refine pure_ (i:=12) (N:=some 73) (v:=?_) (a':=?_) #[T,T,T,T,T,T,T,T,T,T,T,T,T,F,F,F,F,F,F,F,F,F,F,F,F,F] rfl rfl (any_of HT_.out (by kernel_rfl)) (fun _ _ _ h=>h) (Or.inl ⟨by rfl,?_⟩) ?_ ?_
                     rotate_left;·intro w';go_simp;with_reducible rfl
                     rotate_left;·simp only [Act.put,L_,M_,N_,i64_w,i32_w];rfl
                     refine pure_ (i:=13) (N:=some 74) (v:=?_) (a':=?_) #[T,T,T,T,T,T,T,T,T,T,T,T,T,T,F,F,F,F,F,F,F,F,F,F,F,F] rfl rfl (any_of HT_.out (by kernel_rfl)) (fun _ _ _ h=>h) (Or.inl ⟨by rfl,?_⟩) ?_ ?_
                     rotate_left;·intro w';go_simp;with_reducible rfl
                     rotate_left;·simp only [Act.put,L_,M_,N_,i64_w,i32_w];rfl
                     refine pure_ (i:=14) (N:=some 75) (v:=?_) (a':=?_) #[T,T,T,T,T,T,T,T,T,T,T,T,T,T,T,F,F,F,F,F,F,F,F,F,F,F] rfl rfl (any_of HT_.out (by kernel_rfl)) (fun _ _ _ h=>h) (Or.inl ⟨by rfl,?_⟩) ?_ ?_
                     rotate_left;·intro w';go_simp;with_reducible rfl
                     rotate_left;·simp only [Act.put,L_,M_,N_,i64_w,i32_w];rfl
                     refine pure_ (i:=15) (N:=some 76) (v:=?_) (a':=?_) #[T,T,T,T,T,T,T,T,T,T,T,T,T,T,T,T,F,F,F,F,F,F,F,F,F,F] rfl rfl (any_of HT_.out (by kernel_rfl)) (fun _ _ _ h=>h) (Or.inl ⟨by rfl,?_⟩) ?_ ?_
                     rotate_left;·intro w';go_simp;with_reducible rfl
                     rotate_left;·simp only [Act.put,L_,M_,N_,i64_w,i32_w];rfl
                     refine pure_ (i:=16) (N:=some 77) (v:=?_) (a':=?_) #[T,T,T,T,T,T,T,T,T,T,T,T,T,T,T,T,T,F,F,F,F,F,F,F,F,F] rfl rfl (any_of HT_.out (by kernel_rfl)) (fun _ _ _ h=>h) (Or.inl ⟨by rfl,?_⟩) ?_ ?_
                     rotate_left;·intro w';go_simp;with_reducible rfl
                     rotate_left;·simp only [Act.put,L_,M_,N_,i64_w,i32_w];rfl
                     refine pure_ (i:=17) (N:=some 78) (v:=?_) (a':=?_) #[T,T,T,T,T,T,T,T,T,T,T,T,T,T,T,T,T,T,F,F,F,F,F,F,F,F] rfl rfl (any_of HT_.out (by kernel_rfl)) (fun _ _ _ h=>h) (Or.inl ⟨by rfl,?_⟩) ?_ ?_
                     rotate_left;·intro w';go_simp;with_reducible rfl
                     rotate_left;·simp only [Act.put,L_,M_,N_,i64_w,i32_w];rfl
                     refine pure_ (i:=18) (N:=some 79) (v:=?_) (a':=?_) #[T,T,T,T,T,T,T,T,T,T,T,T,T,T,T,T,T,T,T,F,F,F,F,F,F,F] rfl rfl (any_of HT_.out (by kernel_rfl)) (fun _ _ _ h=>h) (Or.inl ⟨by rfl,?_⟩) ?_ ?_
                     rotate_left;·intro w';go_simp;with_reducible rfl
                     rotate_left;·simp only [Act.put,L_,M_,N_,i64_w,i32_w];rfl
                     refine pure_ (i:=19) (N:=some 80) (v:=?_) (a':=?_) #[T,T,T,T,T,T,T,T,T,T,T,T,T,T,T,T,T,T,T,T,F,F,F,F,F,F] rfl rfl (any_of HT_.out (by kernel_rfl)) (fun _ _ _ h=>h) (Or.inl ⟨by rfl,?_⟩) ?_ ?_
                     rotate_left;·intro w';go_simp;with_reducible rfl
                     rotate_left;·simp only [Act.put,L_,M_,N_,i64_w,i32_w];rfl
                     refine pure_ (i:=20) (N:=some 81) (v:=?_) (a':=?_) #[T,T,T,T,T,T,T,T,T,T,T,T,T,T,T,T,T,T,T,T,T,F,F,F,F,F] rfl rfl (any_of HT_.out (by kernel_rfl)) (fun _ _ _ h=>h) (Or.inl ⟨by rfl,?_⟩) ?_ ?_
                     rotate_left;·intro w';go_simp;with_reducible rfl
                     rotate_left;·simp only [Act.put,L_,M_,N_,i64_w,i32_w];rfl
                     refine pure_ (i:=21) (N:=some 82) (v:=?_) (a':=?_) #[T,T,T,T,T,T,T,T,T,T,T,T,T,T,T,T,T,T,T,T,T,T,F,F,F,F] rfl rfl (any_of HT_.out (by kernel_rfl)) (fun _ _ _ h=>h) (Or.inl ⟨by rfl,?_⟩) ?_ ?_
                     rotate_left;·intro w';go_simp;with_reducible rfl
                     rotate_left;·simp only [Act.put,L_,M_,N_,i64_w,i32_w];rfl
                     refine pure_ (i:=22) (N:=some 83) (v:=?_) (a':=?_) #[T,T,T,T,T,T,T,T,T,T,T,T,T,T,T,T,T,T,T,T,T,T,T,F,F,F] rfl rfl (any_of HT_.out (by kernel_rfl)) (fun _ _ _ h=>h) (Or.inl ⟨by rfl,?_⟩) ?_ ?_
                     rotate_left;·intro w';go_simp;with_reducible rfl
                     rotate_left;·simp only [Act.put,L_,M_,N_,i64_w,i32_w];rfl
                     refine one_ (i:=23) (N:=some 84) #[T,T,T,T,T,T,T,T,T,T,T,T,T,T,T,T,T,T,T,T,T,T,T,T,F,F] rfl rfl (one_of HT_.out (by kernel_rfl)) (by decide) (fun K hK=>?_)
                     refine goes_ Tryd.func58 (by kernel_rfl) rfl #[.pointer (some ⟨g,0,none⟩),.int .i64 3] (by rfl) rfl rfl au_ ?_
                     with_reducible refine (spec_l1Cur_one.calls g s0_0 x1001_3 x1002_3 3 false t182 t183 w0 _ ?side1 ?side2 A51.out).mono ?_
                     (case side1=>repeat (first|(with_reducible first|exact HI0.out|apply IsS62.alloc|apply IsS62.drewN|apply IsS62.drew|apply IsS62.set_1|apply IsS62.set_2|refine IsS62.far ?_ (Aside0.out (by assumption)) _)|exact HI0.out))
                     (case side2=>repeat (first|(with_reducible first|exact HB.out|apply below_alloc|apply pw_below_drewN|apply below_drew1|refine below_set ?_ (IsS62.ge HI0.out)|refine below_set ?_ (Aside0.out (by assumption)))|exact HB.out))
                     rintro e w67 ⟨rfl,hi,hb,hk⟩
                     have HS0_:=keep_cell hk (hHeld.1) (by first|(rw [add_block];exact Kd.own_blk (IsS62.own_ne HI0.out HO_9.out (by decide)))|(show (Addr.add _ _).block ≠ _;rw [add_block];exact Kd.own_blk (IsS62.own_ne HI0.out HO_9.out (by decide)))|exact Kd.own_blk (IsS62.own_ne HI0.out HO_9.out (by decide)));have HS1_:=keep_cell hk (hHeld.2) (by first|(rw [add_block];exact Kd.own_blk (IsS62.own_ne HI0.out HO_8.out (by decide)))|(show (Addr.add _ _).block ≠ _;rw [add_block];exact Kd.own_blk (IsS62.own_ne HI0.out HO_8.out (by decide)))|exact Kd.own_blk (IsS62.own_ne HI0.out HO_8.out (by decide)));refine ⟨_,rfl,?_⟩
                     replace HO_8:=A_ (Kd.R_mono (Kd.R_keep (IsS62.apart (show IsS62 w0 _ g s0_0 x1001_3 x1002_3 from by repeat (first|(with_reducible first|exact HI0.out|apply IsS62.alloc|apply IsS62.drewN|apply IsS62.drew|apply IsS62.set_1|apply IsS62.set_2|refine IsS62.far ?_ (Aside0.out (by assumption)) _)|exact HI0.out)) (rl_ HO_8) (by decide)) hk (fun _ h=>h.2)) (fun _ h=>h.1));replace HO_9:=A_ (Kd.R_mono (Kd.R_keep (IsS62.apart (show IsS62 w0 _ g s0_0 x1001_3 x1002_3 from by repeat (first|(with_reducible first|exact HI0.out|apply IsS62.alloc|apply IsS62.drewN|apply IsS62.drew|apply IsS62.set_1|apply IsS62.set_2|refine IsS62.far ?_ (Aside0.out (by assumption)) _)|exact HI0.out)) (rl_ HO_9) (by decide)) hk (fun _ h=>h.2)) (fun _ h=>h.1));replace HO_153001:=A_ (Kd.R_mono (Kd.R_keep (IsS62.apart (show IsS62 w0 _ g s0_0 x1001_3 x1002_3 from by repeat (first|(with_reducible first|exact HI0.out|apply IsS62.alloc|apply IsS62.drewN|apply IsS62.drew|apply IsS62.set_1|apply IsS62.set_2|refine IsS62.far ?_ (Aside0.out (by assumption)) _)|exact HI0.out)) (rl_ HO_153001) (by decide)) hk (fun _ h=>h.2)) (fun _ h=>h.1));replace BK145:=A_ (KeepBut.blk hk (g':=gb145) (o:=.cells #[.int .i64 0,.slice none 0 0] 26 (0,0)) (bl_ BK145) NB145_0.out (by simp));replace BK152:=A_ (KeepBut.blk hk (g':=gb152) (o:=.cells #[.int .i64 t146,u153001] 26 (0,0)) (bl_ BK152) NB152_0.out (by simp));replace HK:=A_ (KeepBut.trans (by repeat (with_reducible first|exact HK.out|apply KeepBut.set_|apply keep_drewN|apply keep_drew|apply keep_alloc|refine keep_far ?_ GW145.out _|refine keep_far ?_ GW152.out _)) hk (.inl rfl));replace HB:=A_ (hb);replace HI0:=A_ (hi);(try clear hb);(try clear hb2);(try clear hk);(try clear hi);refine hK.out _ _ ⟨HS0_,HS1_⟩ (fun hHeld=>?_)
                     clear hK K;refine norm_ (a':=?_) ?_ ?_
                     rotate_left
                     ·show Act.put _ (some 84) _ = _
                      simp only [Act.put,L_,M_,N_,i64_w,i32_w]
                      rfl
                     refine pure_ (i:=24) (N:=some 85) (v:=?_) (a':=?_) #[T,T,T,T,T,T,T,T,T,T,T,T,T,T,T,T,T,T,T,T,T,T,T,T,T,F] rfl rfl (any_of HT_.out (by kernel_rfl)) (fun _ _ _ h=>h) (Or.inl ⟨by rfl,?_⟩) ?_ ?_
                     rotate_left;·intro w';go_simp;with_reducible rfl
                     rotate_left;·simp only [Act.put,L_,M_,N_,i64_w,i32_w];rfl
                     refine pure_ (i:=25) (N:=some 86) (v:=?_) (a':=?_) #[T,T,T,T,T,T,T,T,T,T,T,T,T,T,T,T,T,T,T,T,T,T,T,T,T,T] rfl rfl (any_of HT_.out (by kernel_rfl)) (fun _ _ _ h=>h) (Or.inl ⟨by rfl,?_⟩) ?_ ?_
                     rotate_left;·intro w';go_simp;with_reducible rfl
                     rotate_left;·simp only [Act.put,L_,M_,N_,i64_w,i32_w];rfl
                     refine done_ (done_of HT_.out (by kernel_rfl)) ?_
                     try go_wp2
                     go_roundg k3
                     case measure=>have:=HK1.out;have:=HK2.out;have:=HK3.out;omega
                     case rel=>exact ⟨(x8_3),(x9_3),(wrap64 (x13_3 + 1)),(t182),(t183),(x153001_3),(u153001),(by first|rfl|(simp;done)|(simp [*];done)),H',⟨by have:=HK1.out;have:=HK2.out;have:=HK3.out;omega⟩,⟨by (with_reducible repeat (first|apply Kd.R_alloc|apply Kd.R_drewN|apply Kd.R_drew));exact HO_8.out⟩,⟨by (with_reducible repeat (first|apply Kd.R_alloc|apply Kd.R_drewN|apply Kd.R_drew));exact HO_9.out⟩,⟨by (with_reducible repeat (first|apply Kd.R_alloc|apply Kd.R_drewN|apply Kd.R_drew));exact HO_153001.out⟩,⟨bl_ BK145⟩,⟨bl_ BK152⟩,⟨by repeat (first|(with_reducible first|exact HI0.out|apply IsS62.alloc|apply IsS62.drewN|apply IsS62.drew|apply IsS62.set_1|apply IsS62.set_2|refine IsS62.far ?_ (Aside0.out (by assumption)) _)|exact HI0.out)⟩,⟨by repeat (first|(with_reducible first|exact HK.out|apply KeepBut.set_|apply keep_drewN|apply keep_drew|apply keep_alloc|refine keep_far ?_ GW145.out _|refine keep_far ?_ GW152.out _)|exact HK.out)⟩,⟨by repeat (first|(with_reducible first|exact HB.out|apply below_alloc|apply pw_below_drewN|apply below_drew1|refine below_set ?_ (IsS62.ge HI0.out)|refine below_set ?_ (Aside0.out (by assumption)))|exact HB.out)⟩⟩
                   ·rw [if_neg c50] at H;have c50b0 : decide (x12_2 < x13_3) = false:=decide_eq_false c50;clear c50;have H':=A_ H;clear H;try go_wp2
                    replace HO_8:=A_ (Kd.R_drew HO_8.out);replace HO_9:=A_ (Kd.R_drew HO_9.out);replace HO_153001:=A_ (Kd.R_drew HO_153001.out);replace BK145:=A_ (blk_drew BK145.out);replace BK152:=A_ (blk_drew BK152.out);replace HI0:=A_ (IsS62.drew HI0.out);replace HK:=A_ (keep_drew HK.out);replace HB:=A_ (below_drew1 HB.out);obtain ⟨Ao69,co69,eo69⟩:=Kd.R_slice HO_9.out;(first|subst eo69|(injection eo69 with f1_ f2_ f3_;have f4_:=f1_.symm;have f5_:=f3_.symm;clear f1_ f2_ f3_;subst f4_;subst f5_))
                    have p177 : 0 ≤ (x12_2 : Int):=of_decide_eq_true (by first|(with_reducible assumption)|assumption);have q177 : x12_2 < (x9_3.length : Int):=of_decide_eq_true (by first|(with_reducible assumption)|assumption);obtain ⟨ad177,e177,hx177_0⟩:=Kd.at_int (Kd.R_reads' HO_9.out).2.2 x12_2 p177 q177;cases e177
                    replace p177:=eq_true p177;replace q177:=eq_true q177;obtain ⟨Ao70,co70,eo70⟩:=Kd.R_slice HO_8.out;(first|subst eo70|(injection eo70 with f1_ f2_ f3_;have f4_:=f1_.symm;have f5_:=f3_.symm;clear f1_ f2_ f3_;subst f4_;subst f5_))
                    have p178 : 0 ≤ (x13_3 : Int):=of_decide_eq_true (by first|(with_reducible assumption)|assumption);have q178 : x13_3 < (x8_3.length : Int):=of_decide_eq_true (by first|(with_reducible assumption)|assumption);obtain ⟨ad178,e178,hx178_0⟩:=Kd.at_int (Kd.R_reads' HO_8.out).2.2 x13_3 p178 q178;cases e178
                    replace p178:=eq_true p178;replace q178:=eq_true q178;refine start_ (n:=26) (S:=fun w'=>w'.cell? (ad177.add (x12_2).toNat) = some (.int .i64 (rd x9_3 x12_2)) ∧ w'.cell? (ad178.add (x13_3).toNat) = some (.int .i64 (rd x8_3 x13_3))) (ds:=[]) #[F,F,F,F,F,F,F,F,F,F,F,F,F,F,F,F,F,F,F,F,F,F,F,F,F,F] (by kernel_rfl) rfl rfl ⟨hx177_0,hx178_0⟩ (fun hHeld=>?_);refine with_tabW spec_l1Cur_order.tab19 spec_l1Cur_order.bits19 (fun HT_ HW_=>?_)
                    generalize wr.drew = w68 at HO_8 HO_9 HO_153001 BK145 BK152 HI0 HK HB hx177_0 hx178_0 hHeld ⊢
                    refine pure_ (i:=0) (N:=some 61) (v:=?_) (a':=?_) #[T,F,F,F,F,F,F,F,F,F,F,F,F,F,F,F,F,F,F,F,F,F,F,F,F,F] rfl rfl (any_of HT_.out (by kernel_rfl)) (fun _ _ _ h=>h) (Or.inl ⟨by rfl,?_⟩) ?_ ?_
                    rotate_left;·intro w';go_simp;with_reducible rfl
                    rotate_left;·simp only [Act.put,L_,M_,N_,i64_w,i32_w];rfl
                    refine pure_ (i:=1) (N:=some 62) (v:=?_) (a':=?_) #[T,T,F,F,F,F,F,F,F,F,F,F,F,F,F,F,F,F,F,F,F,F,F,F,F,F] rfl rfl (any_of HT_.out (by kernel_rfl)) (fun _ _ _ h=>h) (Or.inl ⟨by rfl,?_⟩) ?_ ?_
                    rotate_left;·intro w';go_simp;with_reducible rfl
                    rotate_left;·simp only [Act.put,L_,M_,N_,i64_w,i32_w];rfl
                    refine pure_ (i:=2) (N:=some 63) (v:=?_) (a':=?_) #[T,T,T,F,F,F,F,F,F,F,F,F,F,F,F,F,F,F,F,F,F,F,F,F,F,F] rfl rfl (any_of HT_.out (by kernel_rfl)) (fun _ _ _ h=>h) (Or.inl ⟨by rfl,?_⟩) ?_ ?_
                    rotate_left;·intro w';go_simp;with_reducible rfl
                    rotate_left;·simp only [Act.put,L_,M_,N_,i64_w,i32_w];rfl
                    refine pure_ (i:=3) (N:=some 64) (v:=?_) (a':=?_) #[T,T,T,T,F,F,F,F,F,F,F,F,F,F,F,F,F,F,F,F,F,F,F,F,F,F] rfl rfl (any_of HT_.out (by kernel_rfl)) (fun _ _ _ h=>h) (Or.inl ⟨by rfl,?_⟩) ?_ ?_
                    rotate_left;·intro w';go_simp;with_reducible rfl
                    rotate_left;·simp only [Act.put,L_,M_,N_,i64_w,i32_w];rfl
                    refine pure_ (i:=4) (N:=some 65) (v:=?_) (a':=?_) #[T,T,T,T,T,F,F,F,F,F,F,F,F,F,F,F,F,F,F,F,F,F,F,F,F,F] rfl rfl (any_of HT_.out (by kernel_rfl)) (fun _ _ _ h=>h) (Or.inl ⟨by rfl,?_⟩) ?_ ?_
                    rotate_left;·intro w';go_simp;with_reducible rfl
                    rotate_left;·simp only [Act.put,L_,M_,N_,i64_w,i32_w];rfl
                    refine pure_ (i:=5) (N:=some 66) (v:=?_) (a':=?_) #[T,T,T,T,T,T,F,F,F,F,F,F,F,F,F,F,F,F,F,F,F,F,F,F,F,F] rfl rfl (any_of HT_.out (by kernel_rfl)) (fun _ _ _ h=>h) (Or.inl ⟨by rfl,?_⟩) ?_ ?_
                    rotate_left;·intro w';go_simp;with_reducible rfl
                    rotate_left;·simp only [Act.put,L_,M_,N_,i64_w,i32_w];rfl
                    refine pure_ (i:=7) (N:=some 68) (v:=?_) (a':=?_) #[T,T,T,T,T,T,F,T,F,F,F,F,F,F,F,F,F,F,F,F,F,F,F,F,F,F] rfl rfl (any_of HT_.out (by kernel_rfl)) (fun _ _ _ h=>h) (Or.inl ⟨by rfl,?_⟩) ?_ ?_
                    rotate_left;·intro w';go_simp;with_reducible rfl
                    rotate_left;·simp only [Act.put,L_,M_,N_,i64_w,i32_w];rfl
                    refine pure_ (i:=8) (N:=some 69) (v:=?_) (a':=?_) #[T,T,T,T,T,T,F,T,T,F,F,F,F,F,F,F,F,F,F,F,F,F,F,F,F,F] rfl rfl (any_of HT_.out (by kernel_rfl)) (fun _ _ _ h=>h) (Or.inl ⟨by rfl,?_⟩) ?_ ?_
                    rotate_left;·intro w';go_simp;with_reducible rfl
                    rotate_left;·simp only [Act.put,L_,M_,N_,i64_w,i32_w];rfl
                    refine pure_ (i:=9) (N:=some 70) (v:=?_) (a':=?_) #[T,T,T,T,T,T,F,T,T,T,F,F,F,F,F,F,F,F,F,F,F,F,F,F,F,F] rfl rfl (any_of HT_.out (by kernel_rfl)) (fun _ _ _ h=>h) (Or.inl ⟨by rfl,?_⟩) ?_ ?_
                    rotate_left;·intro w';go_simp;with_reducible rfl
                    rotate_left;·simp only [Act.put,L_,M_,N_,i64_w,i32_w];rfl
                    refine take_ (i:=6) (N:=some 67) (v:=?_) (a':=?_) #[T,T,T,T,T,T,T,T,T,T,F,F,F,F,F,F,F,F,F,F,F,F,F,F,F,F] rfl rfl (take_ofW HT_.out HW_.out (by kernel_rfl)) (fun _ _ _ h=>h) (Or.inl ⟨by rfl,?_⟩) hHeld ?_ ?_
                    rotate_left
                    ·rintro w' ⟨s0,s1⟩
                     go_simp
                     with_reducible rfl
                    rotate_left;·simp only [Act.put,L_,M_,N_,i64_w,i32_w];rfl
                    refine take_ (i:=10) (N:=some 71) (v:=?_) (a':=?_) #[T,T,T,T,T,T,T,T,T,T,T,F,F,F,F,F,F,F,F,F,F,F,F,F,F,F] rfl rfl (take_ofW HT_.out HW_.out (by kernel_rfl)) (fun _ _ _ h=>h) (Or.inl ⟨by rfl,?_⟩) hHeld ?_ ?_
                    rotate_left
                    ·rintro w' ⟨s0,s1⟩
                     go_simp
                     with_reducible rfl
                    rotate_left;·simp only [Act.put,L_,M_,N_,i64_w,i32_w];rfl
                    refine pure_ (i:=11) (N:=some 72) (v:=?_) (a':=?_) #[T,T,T,T,T,T,T,T,T,T,T,T,F,F,F,F,F,F,F,F,F,F,F,F,F,F] rfl rfl (any_of HT_.out (by kernel_rfl)) (fun _ _ _ h=>h) (Or.inl ⟨by rfl,?_⟩) ?_ ?_
                    rotate_left;·intro w';go_simp;with_reducible rfl
                    rotate_left;·simp only [Act.put,L_,M_,N_,i64_w,i32_w];rfl
                    refine pure_ (i:=12) (N:=some 73) (v:=?_) (a':=?_) #[T,T,T,T,T,T,T,T,T,T,T,T,T,F,F,F,F,F,F,F,F,F,F,F,F,F] rfl rfl (any_of HT_.out (by kernel_rfl)) (fun _ _ _ h=>h) (Or.inl ⟨by rfl,?_⟩) ?_ ?_
                    rotate_left;·intro w';go_simp;with_reducible rfl
                    rotate_left;·simp only [Act.put,L_,M_,N_,i64_w,i32_w];rfl
                    refine pure_ (i:=13) (N:=some 74) (v:=?_) (a':=?_) #[T,T,T,T,T,T,T,T,T,T,T,T,T,T,F,F,F,F,F,F,F,F,F,F,F,F] rfl rfl (any_of HT_.out (by kernel_rfl)) (fun _ _ _ h=>h) (Or.inl ⟨by rfl,?_⟩) ?_ ?_
                    rotate_left;·intro w';go_simp;with_reducible rfl
                    rotate_left;·simp only [Act.put,L_,M_,N_,i64_w,i32_w];rfl
                    refine pure_ (i:=14) (N:=some 75) (v:=?_) (a':=?_) #[T,T,T,T,T,T,T,T,T,T,T,T,T,T,T,F,F,F,F,F,F,F,F,F,F,F] rfl rfl (any_of HT_.out (by kernel_rfl)) (fun _ _ _ h=>h) (Or.inl ⟨by rfl,?_⟩) ?_ ?_
                    rotate_left;·intro w';go_simp;with_reducible rfl
                    rotate_left;·simp only [Act.put,L_,M_,N_,i64_w,i32_w];rfl
                    refine pure_ (i:=15) (N:=some 76) (v:=?_) (a':=?_) #[T,T,T,T,T,T,T,T,T,T,T,T,T,T,T,T,F,F,F,F,F,F,F,F,F,F] rfl rfl (any_of HT_.out (by kernel_rfl)) (fun _ _ _ h=>h) (Or.inl ⟨by rfl,?_⟩) ?_ ?_
                    rotate_left;·intro w';go_simp;with_reducible rfl
                    rotate_left;·simp only [Act.put,L_,M_,N_,i64_w,i32_w];rfl
                    refine pure_ (i:=16) (N:=some 77) (v:=?_) (a':=?_) #[T,T,T,T,T,T,T,T,T,T,T,T,T,T,T,T,T,F,F,F,F,F,F,F,F,F] rfl rfl (any_of HT_.out (by kernel_rfl)) (fun _ _ _ h=>h) (Or.inl ⟨by rfl,?_⟩) ?_ ?_
                    rotate_left;·intro w';go_simp;with_reducible rfl
                    rotate_left;·simp only [Act.put,L_,M_,N_,i64_w,i32_w];rfl
                    refine pure_ (i:=17) (N:=some 78) (v:=?_) (a':=?_) #[T,T,T,T,T,T,T,T,T,T,T,T,T,T,T,T,T,T,F,F,F,F,F,F,F,F] rfl rfl (any_of HT_.out (by kernel_rfl)) (fun _ _ _ h=>h) (Or.inl ⟨by rfl,?_⟩) ?_ ?_
                    rotate_left;·intro w';go_simp;with_reducible rfl
                    rotate_left;·simp only [Act.put,L_,M_,N_,i64_w,i32_w];rfl
                    refine pure_ (i:=18) (N:=some 79) (v:=?_) (a':=?_) #[T,T,T,T,T,T,T,T,T,T,T,T,T,T,T,T,T,T,T,F,F,F,F,F,F,F] rfl rfl (any_of HT_.out (by kernel_rfl)) (fun _ _ _ h=>h) (Or.inl ⟨by rfl,?_⟩) ?_ ?_
                    rotate_left;·intro w';go_simp;with_reducible rfl
                    rotate_left;·simp only [Act.put,L_,M_,N_,i64_w,i32_w];rfl
                    refine pure_ (i:=19) (N:=some 80) (v:=?_) (a':=?_) #[T,T,T,T,T,T,T,T,T,T,T,T,T,T,T,T,T,T,T,T,F,F,F,F,F,F] rfl rfl (any_of HT_.out (by kernel_rfl)) (fun _ _ _ h=>h) (Or.inl ⟨by rfl,?_⟩) ?_ ?_
                    rotate_left;·intro w';go_simp;with_reducible rfl
                    rotate_left;·simp only [Act.put,L_,M_,N_,i64_w,i32_w];rfl
                    refine pure_ (i:=20) (N:=some 81) (v:=?_) (a':=?_) #[T,T,T,T,T,T,T,T,T,T,T,T,T,T,T,T,T,T,T,T,T,F,F,F,F,F] rfl rfl (any_of HT_.out (by kernel_rfl)) (fun _ _ _ h=>h) (Or.inl ⟨by rfl,?_⟩) ?_ ?_
                    rotate_left;·intro w';go_simp;with_reducible rfl
                    rotate_left;·simp only [Act.put,L_,M_,N_,i64_w,i32_w];rfl
                    refine pure_ (i:=21) (N:=some 82) (v:=?_) (a':=?_) #[T,T,T,T,T,T,T,T,T,T,T,T,T,T,T,T,T,T,T,T,T,T,F,F,F,F] rfl rfl (any_of HT_.out (by kernel_rfl)) (fun _ _ _ h=>h) (Or.inl ⟨by rfl,?_⟩) ?_ ?_
                    rotate_left;·intro w';go_simp;with_reducible rfl
                    rotate_left;·simp only [Act.put,L_,M_,N_,i64_w,i32_w];rfl
                    refine pure_ (i:=22) (N:=some 83) (v:=undef) (a':=?_) #[T,T,T,T,T,T,T,T,T,T,T,T,T,T,T,T,T,T,T,T,T,T,T,F,F,F] rfl rfl (any_of HT_.out (by kernel_rfl)) (fun _ _ _ h=>h) (Or.inr ⟨by rfl,rfl⟩) ?_ ?_
                    rotate_left;·simp only [Act.put,L_,M_,N_,i64_w,i32_w];rfl
                    refine pure_ (i:=23) (N:=some 84) (v:=undef) (a':=?_) #[T,T,T,T,T,T,T,T,T,T,T,T,T,T,T,T,T,T,T,T,T,T,T,T,F,F] rfl rfl (any_of HT_.out (by kernel_rfl)) (fun _ _ _ h=>h) (Or.inr ⟨by rfl,rfl⟩) ?_ ?_
                    rotate_left;·simp only [Act.put,L_,M_,N_,i64_w,i32_w];rfl
                    refine pure_ (i:=24) (N:=some 85) (v:=?_) (a':=?_) #[T,T,T,T,T,T,T,T,T,T,T,T,T,T,T,T,T,T,T,T,T,T,T,T,T,F] rfl rfl (any_of HT_.out (by kernel_rfl)) (fun _ _ _ h=>h) (Or.inl ⟨by rfl,?_⟩) ?_ ?_
                    rotate_left;·intro w';go_simp;with_reducible rfl
                    rotate_left;·simp only [Act.put,L_,M_,N_,i64_w,i32_w];rfl
                    refine pure_ (i:=25) (N:=some 86) (v:=?_) (a':=?_) #[T,T,T,T,T,T,T,T,T,T,T,T,T,T,T,T,T,T,T,T,T,T,T,T,T,T] rfl rfl (any_of HT_.out (by kernel_rfl)) (fun _ _ _ h=>h) (Or.inl ⟨by rfl,?_⟩) ?_ ?_
                    rotate_left;·intro w';go_simp;with_reducible rfl
                    rotate_left;·simp only [Act.put,L_,M_,N_,i64_w,i32_w];rfl
                    refine done_ (done_of HT_.out (by kernel_rfl)) ?_
                    try go_wp2
                    go_roundg k3
                    case measure=>have:=HK1.out;have:=HK2.out;have:=HK3.out;omega
                    case rel=>exact ⟨(x8_3),(x9_3),(wrap64 (x13_3 + 1)),(x1001_3),(x1002_3),(x153001_3),(u153001),(by first|rfl|(simp;done)|(simp [*];done)),H',⟨by have:=HK1.out;have:=HK2.out;have:=HK3.out;omega⟩,⟨by (with_reducible repeat (first|apply Kd.R_alloc|apply Kd.R_drewN|apply Kd.R_drew));exact HO_8.out⟩,⟨by (with_reducible repeat (first|apply Kd.R_alloc|apply Kd.R_drewN|apply Kd.R_drew));exact HO_9.out⟩,⟨by (with_reducible repeat (first|apply Kd.R_alloc|apply Kd.R_drewN|apply Kd.R_drew));exact HO_153001.out⟩,⟨bl_ BK145⟩,⟨bl_ BK152⟩,⟨by repeat (first|(with_reducible first|exact HI0.out|apply IsS62.alloc|apply IsS62.drewN|apply IsS62.drew|apply IsS62.set_1|apply IsS62.set_2|refine IsS62.far ?_ (Aside0.out (by assumption)) _)|exact HI0.out)⟩,⟨by repeat (first|(with_reducible first|exact HK.out|apply KeepBut.set_|apply keep_drewN|apply keep_drew|apply keep_alloc|refine keep_far ?_ GW145.out _|refine keep_far ?_ GW152.out _)|exact HK.out)⟩,⟨by repeat (first|(with_reducible first|exact HB.out|apply below_alloc|apply pw_below_drewN|apply below_drew1|refine below_set ?_ (IsS62.ge HI0.out)|refine below_set ?_ (Aside0.out (by assumption)))|exact HB.out)⟩⟩
                  ·rw [if_neg c49] at H;have c49b0 : (t153 == 0) = false:=beq_eq_false_iff_ne.mpr c49;have c49b1 : (t153 != 0) = true:=bne_iff_ne.mpr c49;have H':=A_ H;clear H;try go_wp2
                   replace HO_8:=A_ (Kd.R_drew HO_8.out);replace HO_9:=A_ (Kd.R_drew HO_9.out);replace HO_153001:=A_ (Kd.R_drew HO_153001.out);replace BK145:=A_ (blk_drew BK145.out);replace BK152:=A_ (blk_drew BK152.out);replace HI0:=A_ (IsS62.drew HI0.out);replace HK:=A_ (keep_drew HK.out);replace HB:=A_ (below_drew1 HB.out);obtain ⟨Ao72,co72,eo72⟩:=Kd.R_slice HO_9.out;(first|subst eo72|(injection eo72 with f1_ f2_ f3_;have f4_:=f1_.symm;have f5_:=f3_.symm;clear f1_ f2_ f3_;subst f4_;subst f5_))
                   have p177 : 0 ≤ (x12_2 : Int):=of_decide_eq_true (by first|(with_reducible assumption)|assumption);have q177 : x12_2 < (x9_3.length : Int):=of_decide_eq_true (by first|(with_reducible assumption)|assumption);obtain ⟨ad177,e177,hx177_0⟩:=Kd.at_int (Kd.R_reads' HO_9.out).2.2 x12_2 p177 q177;cases e177
                   replace p177:=eq_true p177;replace q177:=eq_true q177;obtain ⟨Ao73,co73,eo73⟩:=Kd.R_slice HO_8.out;(first|subst eo73|(injection eo73 with f1_ f2_ f3_;have f4_:=f1_.symm;have f5_:=f3_.symm;clear f1_ f2_ f3_;subst f4_;subst f5_))
                   have p178 : 0 ≤ (x13_3 : Int):=of_decide_eq_true (by first|(with_reducible assumption)|assumption);have q178 : x13_3 < (x8_3.length : Int):=of_decide_eq_true (by first|(with_reducible assumption)|assumption);obtain ⟨ad178,e178,hx178_0⟩:=Kd.at_int (Kd.R_reads' HO_8.out).2.2 x13_3 p178 q178;cases e178
                   replace p178:=eq_true p178;replace q178:=eq_true q178;refine start_ (n:=26) (S:=fun w'=>w'.cell? (ad177.add (x12_2).toNat) = some (.int .i64 (rd x9_3 x12_2)) ∧ w'.cell? (ad178.add (x13_3).toNat) = some (.int .i64 (rd x8_3 x13_3))) (ds:=[]) #[F,F,F,F,F,F,F,F,F,F,F,F,F,F,F,F,F,F,F,F,F,F,F,F,F,F] (by kernel_rfl) rfl rfl ⟨hx177_0,hx178_0⟩ (fun hHeld=>?_);refine with_tabW spec_l1Cur_order.tab19 spec_l1Cur_order.bits19 (fun HT_ HW_=>?_)
                   generalize wr.drew = w71 at HO_8 HO_9 HO_153001 BK145 BK152 HI0 HK HB hx177_0 hx178_0 hHeld ⊢
                   refine pure_ (i:=0) (N:=some 61) (v:=?_) (a':=?_) #[T,F,F,F,F,F,F,F,F,F,F,F,F,F,F,F,F,F,F,F,F,F,F,F,F,F] rfl rfl (any_of HT_.out (by kernel_rfl)) (fun _ _ _ h=>h) (Or.inl ⟨by rfl,?_⟩) ?_ ?_
                   rotate_left;·intro w';go_simp;with_reducible rfl
                   rotate_left;·simp only [Act.put,L_,M_,N_,i64_w,i32_w];rfl
                   refine pure_ (i:=1) (N:=some 62) (v:=?_) (a':=?_) #[T,T,F,F,F,F,F,F,F,F,F,F,F,F,F,F,F,F,F,F,F,F,F,F,F,F] rfl rfl (any_of HT_.out (by kernel_rfl)) (fun _ _ _ h=>h) (Or.inl ⟨by rfl,?_⟩) ?_ ?_
                   rotate_left;·intro w';go_simp;with_reducible rfl
                   rotate_left;·simp only [Act.put,L_,M_,N_,i64_w,i32_w];rfl
                   refine pure_ (i:=2) (N:=some 63) (v:=?_) (a':=?_) #[T,T,T,F,F,F,F,F,F,F,F,F,F,F,F,F,F,F,F,F,F,F,F,F,F,F] rfl rfl (any_of HT_.out (by kernel_rfl)) (fun _ _ _ h=>h) (Or.inl ⟨by rfl,?_⟩) ?_ ?_
                   rotate_left;·intro w';go_simp;with_reducible rfl
                   rotate_left;·simp only [Act.put,L_,M_,N_,i64_w,i32_w];rfl
                   refine pure_ (i:=3) (N:=some 64) (v:=?_) (a':=?_) #[T,T,T,T,F,F,F,F,F,F,F,F,F,F,F,F,F,F,F,F,F,F,F,F,F,F] rfl rfl (any_of HT_.out (by kernel_rfl)) (fun _ _ _ h=>h) (Or.inl ⟨by rfl,?_⟩) ?_ ?_
                   rotate_left;·intro w';go_simp;with_reducible rfl
                   rotate_left;·simp only [Act.put,L_,M_,N_,i64_w,i32_w];rfl
                   refine pure_ (i:=4) (N:=some 65) (v:=?_) (a':=?_) #[T,T,T,T,T,F,F,F,F,F,F,F,F,F,F,F,F,F,F,F,F,F,F,F,F,F] rfl rfl (any_of HT_.out (by kernel_rfl)) (fun _ _ _ h=>h) (Or.inl ⟨by rfl,?_⟩) ?_ ?_
                   rotate_left;·intro w';go_simp;with_reducible rfl
                   rotate_left;·simp only [Act.put,L_,M_,N_,i64_w,i32_w];rfl
                   refine pure_ (i:=5) (N:=some 66) (v:=?_) (a':=?_) #[T,T,T,T,T,T,F,F,F,F,F,F,F,F,F,F,F,F,F,F,F,F,F,F,F,F] rfl rfl (any_of HT_.out (by kernel_rfl)) (fun _ _ _ h=>h) (Or.inl ⟨by rfl,?_⟩) ?_ ?_
                   rotate_left;·intro w';go_simp;with_reducible rfl
                   rotate_left;·simp only [Act.put,L_,M_,N_,i64_w,i32_w];rfl
                   refine pure_ (i:=7) (N:=some 68) (v:=?_) (a':=?_) #[T,T,T,T,T,T,F,T,F,F,F,F,F,F,F,F,F,F,F,F,F,F,F,F,F,F] rfl rfl (any_of HT_.out (by kernel_rfl)) (fun _ _ _ h=>h) (Or.inl ⟨by rfl,?_⟩) ?_ ?_
                   rotate_left;·intro w';go_simp;with_reducible rfl
                   rotate_left;·simp only [Act.put,L_,M_,N_,i64_w,i32_w];rfl
                   refine pure_ (i:=8) (N:=some 69) (v:=?_) (a':=?_) #[T,T,T,T,T,T,F,T,T,F,F,F,F,F,F,F,F,F,F,F,F,F,F,F,F,F] rfl rfl (any_of HT_.out (by kernel_rfl)) (fun _ _ _ h=>h) (Or.inl ⟨by rfl,?_⟩) ?_ ?_
                   rotate_left;·intro w';go_simp;with_reducible rfl
                   rotate_left;·simp only [Act.put,L_,M_,N_,i64_w,i32_w];rfl
                   refine pure_ (i:=9) (N:=some 70) (v:=?_) (a':=?_) #[T,T,T,T,T,T,F,T,T,T,F,F,F,F,F,F,F,F,F,F,F,F,F,F,F,F] rfl rfl (any_of HT_.out (by kernel_rfl)) (fun _ _ _ h=>h) (Or.inl ⟨by rfl,?_⟩) ?_ ?_
                   rotate_left;·intro w';go_simp;with_reducible rfl
                   rotate_left;·simp only [Act.put,L_,M_,N_,i64_w,i32_w];rfl
                   refine take_ (i:=6) (N:=some 67) (v:=?_) (a':=?_) #[T,T,T,T,T,T,T,T,T,T,F,F,F,F,F,F,F,F,F,F,F,F,F,F,F,F] rfl rfl (take_ofW HT_.out HW_.out (by kernel_rfl)) (fun _ _ _ h=>h) (Or.inl ⟨by rfl,?_⟩) hHeld ?_ ?_
                   rotate_left
                   ·rintro w' ⟨s0,s1⟩
                    go_simp
                    with_reducible rfl
                   rotate_left;·simp only [Act.put,L_,M_,N_,i64_w,i32_w];rfl
                   refine take_ (i:=10) (N:=some 71) (v:=?_) (a':=?_) #[T,T,T,T,T,T,T,T,T,T,T,F,F,F,F,F,F,F,F,F,F,F,F,F,F,F] rfl rfl (take_ofW HT_.out HW_.out (by kernel_rfl)) (fun _ _ _ h=>h) (Or.inl ⟨by rfl,?_⟩) hHeld ?_ ?_
                   rotate_left
                   ·rintro w' ⟨s0,s1⟩
                    go_simp
                    with_reducible rfl
                   rotate_left;·simp only [Act.put,L_,M_,N_,i64_w,i32_w];rfl
                   refine pure_ (i:=11) (N:=some 72) (v:=?_) (a':=?_) #[T,T,T,T,T,T,T,T,T,T,T,T,F,F,F,F,F,F,F,F,F,F,F,F,F,F] rfl rfl (any_of HT_.out (by kernel_rfl)) (fun _ _ _ h=>h) (Or.inl ⟨by rfl,?_⟩) ?_ ?_
                   rotate_left;·intro w';go_simp;with_reducible rfl
                   rotate_left;·simp only [Act.put,L_,M_,N_,i64_w,i32_w];rfl
                   refine pure_ (i:=12) (N:=some 73) (v:=?_) (a':=?_) #[T,T,T,T,T,T,T,T,T,T,T,T,T,F,F,F,F,F,F,F,F,F,F,F,F,F] rfl rfl (any_of HT_.out (by kernel_rfl)) (fun _ _ _ h=>h) (Or.inl ⟨by rfl,?_⟩) ?_ ?_
                   rotate_left;·intro w';go_simp;with_reducible rfl
                   rotate_left;·simp only [Act.put,L_,M_,N_,i64_w,i32_w];rfl
                   refine pure_ (i:=13) (N:=some 74) (v:=?_) (a':=?_) #[T,T,T,T,T,T,T,T,T,T,T,T,T,T,F,F,F,F,F,F,F,F,F,F,F,F] rfl rfl (any_of HT_.out (by kernel_rfl)) (fun _ _ _ h=>h) (Or.inl ⟨by rfl,?_⟩) ?_ ?_
                   rotate_left;·intro w';go_simp;with_reducible rfl
                   rotate_left;·simp only [Act.put,L_,M_,N_,i64_w,i32_w];rfl
                   refine pure_ (i:=14) (N:=some 75) (v:=?_) (a':=?_) #[T,T,T,T,T,T,T,T,T,T,T,T,T,T,T,F,F,F,F,F,F,F,F,F,F,F] rfl rfl (any_of HT_.out (by kernel_rfl)) (fun _ _ _ h=>h) (Or.inl ⟨by rfl,?_⟩) ?_ ?_
                   rotate_left;·intro w';go_simp;with_reducible rfl
                   rotate_left;·simp only [Act.put,L_,M_,N_,i64_w,i32_w];rfl
                   refine pure_ (i:=15) (N:=some 76) (v:=?_) (a':=?_) #[T,T,T,T,T,T,T,T,T,T,T,T,T,T,T,T,F,F,F,F,F,F,F,F,F,F] rfl rfl (any_of HT_.out (by kernel_rfl)) (fun _ _ _ h=>h) (Or.inl ⟨by rfl,?_⟩) ?_ ?_
                   rotate_left;·intro w';go_simp;with_reducible rfl
                   rotate_left;·simp only [Act.put,L_,M_,N_,i64_w,i32_w];rfl
                   refine pure_ (i:=16) (N:=some 77) (v:=?_) (a':=?_) #[T,T,T,T,T,T,T,T,T,T,T,T,T,T,T,T,T,F,F,F,F,F,F,F,F,F] rfl rfl (any_of HT_.out (by kernel_rfl)) (fun _ _ _ h=>h) (Or.inl ⟨by rfl,?_⟩) ?_ ?_
                   rotate_left;·intro w';go_simp;with_reducible rfl
                   rotate_left;·simp only [Act.put,L_,M_,N_,i64_w,i32_w];rfl
                   refine pure_ (i:=17) (N:=some 78) (v:=undef) (a':=?_) #[T,T,T,T,T,T,T,T,T,T,T,T,T,T,T,T,T,T,F,F,F,F,F,F,F,F] rfl rfl (any_of HT_.out (by kernel_rfl)) (fun _ _ _ h=>h) (Or.inr ⟨by rfl,rfl⟩) ?_ ?_
                   rotate_left;·simp only [Act.put,L_,M_,N_,i64_w,i32_w];rfl
                   refine pure_ (i:=18) (N:=some 79) (v:=undef) (a':=?_) #[T,T,T,T,T,T,T,T,T,T,T,T,T,T,T,T,T,T,T,F,F,F,F,F,F,F] rfl rfl (any_of HT_.out (by kernel_rfl)) (fun _ _ _ h=>h) (Or.inr ⟨by rfl,rfl⟩) ?_ ?_
                   rotate_left;·simp only [Act.put,L_,M_,N_,i64_w,i32_w];rfl
                   refine pure_ (i:=19) (N:=some 80) (v:=undef) (a':=?_) #[T,T,T,T,T,T,T,T,T,T,T,T,T,T,T,T,T,T,T,T,F,F,F,F,F,F] rfl rfl (any_of HT_.out (by kernel_rfl)) (fun _ _ _ h=>h) (Or.inr ⟨by rfl,rfl⟩) ?_ ?_
                   rotate_left;·simp only [Act.put,L_,M_,N_,i64_w,i32_w];rfl
                   refine pure_ (i:=20) (N:=some 81) (v:=?_) (a':=?_) #[T,T,T,T,T,T,T,T,T,T,T,T,T,T,T,T,T,T,T,T,T,F,F,F,F,F] rfl rfl (any_of HT_.out (by kernel_rfl)) (fun _ _ _ h=>h) (Or.inl ⟨by rfl,?_⟩) ?_ ?_
                   rotate_left;·intro w';go_simp;with_reducible rfl
                   rotate_left;·simp only [Act.put,L_,M_,N_,i64_w,i32_w];rfl
                   refine pure_ (i:=21) (N:=some 82) (v:=?_) (a':=?_) #[T,T,T,T,T,T,T,T,T,T,T,T,T,T,T,T,T,T,T,T,T,T,F,F,F,F] rfl rfl (any_of HT_.out (by kernel_rfl)) (fun _ _ _ h=>h) (Or.inl ⟨by rfl,?_⟩) ?_ ?_
                   rotate_left;·intro w';go_simp;with_reducible rfl
                   rotate_left;·simp only [Act.put,L_,M_,N_,i64_w,i32_w];rfl
                   refine pure_ (i:=22) (N:=some 83) (v:=undef) (a':=?_) #[T,T,T,T,T,T,T,T,T,T,T,T,T,T,T,T,T,T,T,T,T,T,T,F,F,F] rfl rfl (any_of HT_.out (by kernel_rfl)) (fun _ _ _ h=>h) (Or.inr ⟨by rfl,rfl⟩) ?_ ?_
                   rotate_left;·simp only [Act.put,L_,M_,N_,i64_w,i32_w];rfl
                   refine pure_ (i:=23) (N:=some 84) (v:=undef) (a':=?_) #[T,T,T,T,T,T,T,T,T,T,T,T,T,T,T,T,T,T,T,T,T,T,T,T,F,F] rfl rfl (any_of HT_.out (by kernel_rfl)) (fun _ _ _ h=>h) (Or.inr ⟨by rfl,rfl⟩) ?_ ?_
                   rotate_left;·simp only [Act.put,L_,M_,N_,i64_w,i32_w];rfl
                   refine pure_ (i:=24) (N:=some 85) (v:=?_) (a':=?_) #[T,T,T,T,T,T,T,T,T,T,T,T,T,T,T,T,T,T,T,T,T,T,T,T,T,F] rfl rfl (any_of HT_.out (by kernel_rfl)) (fun _ _ _ h=>h) (Or.inl ⟨by rfl,?_⟩) ?_ ?_
                   rotate_left;·intro w';go_simp;with_reducible rfl
                   rotate_left;·simp only [Act.put,L_,M_,N_,i64_w,i32_w];rfl
                   refine pure_ (i:=25) (N:=some 86) (v:=?_) (a':=?_) #[T,T,T,T,T,T,T,T,T,T,T,T,T,T,T,T,T,T,T,T,T,T,T,T,T,T] rfl rfl (any_of HT_.out (by kernel_rfl)) (fun _ _ _ h=>h) (Or.inl ⟨by rfl,?_⟩) ?_ ?_
                   rotate_left;·intro w';go_simp;with_reducible rfl
                   rotate_left;·simp only [Act.put,L_,M_,N_,i64_w,i32_w];rfl
                   refine done_ (done_of HT_.out (by kernel_rfl)) ?_
                   try go_wp2
                   go_roundg k3
                   case measure=>have:=HK1.out;have:=HK2.out;have:=HK3.out;omega
                   case rel=>exact ⟨(x8_3),(x9_3),(wrap64 (x13_3 + 1)),(x1001_3),(x1002_3),(x153001_3),(u153001),(by first|rfl|(simp;done)|(simp [*];done)),H',⟨by have:=HK1.out;have:=HK2.out;have:=HK3.out;omega⟩,⟨by (with_reducible repeat (first|apply Kd.R_alloc|apply Kd.R_drewN|apply Kd.R_drew));exact HO_8.out⟩,⟨by (with_reducible repeat (first|apply Kd.R_alloc|apply Kd.R_drewN|apply Kd.R_drew));exact HO_9.out⟩,⟨by (with_reducible repeat (first|apply Kd.R_alloc|apply Kd.R_drewN|apply Kd.R_drew));exact HO_153001.out⟩,⟨bl_ BK145⟩,⟨bl_ BK152⟩,⟨by repeat (first|(with_reducible first|exact HI0.out|apply IsS62.alloc|apply IsS62.drewN|apply IsS62.drew|apply IsS62.set_1|apply IsS62.set_2|refine IsS62.far ?_ (Aside0.out (by assumption)) _)|exact HI0.out)⟩,⟨by repeat (first|(with_reducible first|exact HK.out|apply KeepBut.set_|apply keep_drewN|apply keep_drew|apply keep_alloc|refine keep_far ?_ GW145.out _|refine keep_far ?_ GW152.out _)|exact HK.out)⟩,⟨by repeat (first|(with_reducible first|exact HB.out|apply below_alloc|apply pw_below_drewN|apply below_drew1|refine below_set ?_ (IsS62.ge HI0.out)|refine below_set ?_ (Aside0.out (by assumption)))|exact HB.out)⟩⟩
                ·rw [if_neg c37] at H;exact absurd H (by simp)
               ·rw [if_neg c36] at H;exact absurd H (by simp)
              ·rw [if_neg c35] at H;exact absurd H (by simp)
             ·rw [if_neg c34] at H;exact absurd H (by simp)
            ·rw [if_neg c33] at H;have c33b0 : decide (0 < t153) = false:=decide_eq_false c33;clear c33;by_cases c74 : t153 = 0
             ·rw [if_pos c74] at H;have c74b0 : (t153 == 0) = true:=beq_iff_eq.mpr c74;have c74b1 : (t153 != 0) = false:=bne_eq_false_iff_eq.mpr c74;clear c74;by_cases c75 : x12_2 < x13_3
              ·rw [if_pos c75] at H;have c75b0 : decide (x12_2 < x13_3) = true:=decide_eq_true c75;clear c75;replace H:=Option.bind_eq_some_iff.mp H;obtain ⟨⟨t186,t187,t188⟩,A760,H⟩:=H;replace H : (if t186 = true then (if 0 ≤ x12_2 then (if x12_2 < (x153001_3.length : Int) then (if 0 ≤ x13_3 then (spec_l1Cur_order.l2 k3 t146 t153 x8_3 x9_3 x12_2 (wrap64 (x13_3 + 1)) s0_0 t187 t188 t146 (x153001_3.set (x12_2 : Int).toNat (Go.bits .or .i64 (rd x153001_3 x12_2) (shl .i64 1 x13_3)))) else (none)) else (none)) else (none)) else (spec_l1Cur_order.l2 k3 t146 t153 x8_3 x9_3 x12_2 (wrap64 (x13_3 + 1)) s0_0 t187 t188 t146 x153001_3)) = some (r1,r2,r3,r4):=H;have A76:=A_ A760;clear A760;by_cases c77 : t186 = true
               ·subst c77;have H1 : (if 0 ≤ x12_2 then (if x12_2 < (x153001_3.length : Int) then (if 0 ≤ x13_3 then (spec_l1Cur_order.l2 k3 t146 t153 x8_3 x9_3 x12_2 (wrap64 (x13_3 + 1)) s0_0 t187 t188 t146 (x153001_3.set (x12_2 : Int).toNat (Go.bits .or .i64 (rd x153001_3 x12_2) (shl .i64 1 x13_3)))) else (none)) else (none)) else (none)) = some (r1,r2,r3,r4):=by rw [if_pos rfl] at H;exact H
                clear H;have H:=H1;clear H1;by_cases c78 : 0 ≤ x12_2
                ·rw [if_pos c78] at H;have c78b0 : decide (0 ≤ x12_2) = true:=decide_eq_true c78;clear c78;by_cases c79 : x12_2 < (x153001_3.length : Int)
                 ·rw [if_pos c79] at H;have c79b0 : decide (x12_2 < (x153001_3.length : Int)) = true:=decide_eq_true c79;clear c79;by_cases c80 : 0 ≤ x13_3
                  ·rw [if_pos c80] at H;have c80b0:=eq_true c80;have c80b1 : decide (0 ≤ x13_3) = true:=decide_eq_true c80;clear c80;obtain ⟨ji81,hji81⟩ : ∃ j_ : Int,(shl .i64 1 x13_3) = j_:=⟨_,rfl⟩;replace H : (spec_l1Cur_order.l2 k3 t146 t153 x8_3 x9_3 x12_2 (wrap64 (x13_3 + 1)) s0_0 t187 t188 t146 (x153001_3.set (x12_2 : Int).toNat (Go.bits .or .i64 (rd x153001_3 x12_2) (ji81)))) = some (r1,r2,r3,r4):=by first|(rw [hji81] at H;exact H)|(simp only [hji81] at H ⊢;exact H)
                   (try rw [hji81] at A76);have hji81_ : (IntKind.i64.wrap (1 * 2 ^ min x13_3.toNat 64)) = ji81:=hji81;have hji81z : x13_3 ≤ 64 → (IntKind.i64.wrap (1 * 2 ^ x13_3.toNat)) = ji81:=shl_small hji81;have hji81u : (IntKind.i64.wrap (2 ^ min x13_3.toNat 64)) = ji81:=by have h_:=hji81_;rw [Int.one_mul] at h_;exact h_
                   have hji81v : x13_3 ≤ 64 → (IntKind.i64.wrap (2 ^ x13_3.toNat)) = ji81:=fun hle_=>by have h_:=hji81z hle_;rw [Int.one_mul] at h_;exact h_
                   have hji81y : (wrap64 (1 * 2 ^ min x13_3.toNat 64)) = ji81:=(i64_w _).symm.trans hji81_;have hji81x : x13_3 ≤ 64 → (wrap64 (1 * 2 ^ x13_3.toNat)) = ji81:=fun h_=>(i64_w _).symm.trans (hji81z h_)
                   obtain ⟨y190,hy190⟩ : ∃ y_ : List Int,y_ = (x153001_3.set (x12_2 : Int).toNat (Go.bits .or .i64 (rd x153001_3 x12_2) (ji81))):=⟨_,rfl⟩;replace H : (spec_l1Cur_order.l2 k3 t146 t153 x8_3 x9_3 x12_2 (wrap64 (x13_3 + 1)) s0_0 t187 t188 t146 y190) = some (r1,r2,r3,r4):=by first|(rw [hy190];with_reducible exact H)|(have H2_:=(Option.bind_some _ _).symm.trans H;rw [hy190];with_reducible exact H2_)|(have H2_:=(Option.bind_some _ _).symm.trans H;with_reducible exact H2_)|with_reducible exact H|(rw [hy190];exact H)|exact H
                   have Ny190:=A_ hy190;clear hy190;have H':=A_ H;clear H;try go_wp2
                   replace HO_8:=A_ (Kd.R_drew HO_8.out);replace HO_9:=A_ (Kd.R_drew HO_9.out);replace HO_153001:=A_ (Kd.R_drew HO_153001.out);replace BK145:=A_ (blk_drew BK145.out);replace BK152:=A_ (blk_drew BK152.out);replace HI0:=A_ (IsS62.drew HI0.out);replace HK:=A_ (keep_drew HK.out);replace HB:=A_ (below_drew1 HB.out);refine start_ (n:=26) (S:=fun w'=>True) (ds:=[]) #[F,F,F,F,F,F,F,F,F,F,F,F,F,F,F,F,F,F,F,F,F,F,F,F,F,F] (by kernel_rfl) rfl rfl trivial (fun hHeld=>?_);refine with_tabW spec_l1Cur_order.tab19 spec_l1Cur_order.bits19 (fun HT_ HW_=>?_)
                   generalize wr.drew = w83 at HO_8 HO_9 HO_153001 BK145 BK152 HI0 HK HB hHeld ⊢
                   refine pure_ (i:=0) (N:=some 61) (v:=?_) (a':=?_) #[T,F,F,F,F,F,F,F,F,F,F,F,F,F,F,F,F,F,F,F,F,F,F,F,F,F] rfl rfl (any_of HT_.out (by kernel_rfl)) (fun _ _ _ h=>h) (Or.inl ⟨by rfl,?_⟩) ?_ ?_
                   rotate_left;·intro w';go_simp;with_reducible rfl
                   rotate_left;·simp only [Act.put,L_,M_,N_,i64_w,i32_w];rfl
                   refine pure_ (i:=1) (N:=some 62) (v:=?_) (a':=?_) #[T,T,F,F,F,F,F,F,F,F,F,F,F,F,F,F,F,F,F,F,F,F,F,F,F,F] rfl rfl (any_of HT_.out (by kernel_rfl)) (fun _ _ _ h=>h) (Or.inl ⟨by rfl,?_⟩) ?_ ?_
                   rotate_left;·intro w';go_simp;with_reducible rfl
                   rotate_left;·simp only [Act.put,L_,M_,N_,i64_w,i32_w];rfl
                   refine pure_ (i:=2) (N:=some 63) (v:=?_) (a':=?_) #[T,T,T,F,F,F,F,F,F,F,F,F,F,F,F,F,F,F,F,F,F,F,F,F,F,F] rfl rfl (any_of HT_.out (by kernel_rfl)) (fun _ _ _ h=>h) (Or.inl ⟨by rfl,?_⟩) ?_ ?_
                   rotate_left;·intro w';go_simp;with_reducible rfl
                   rotate_left;·simp only [Act.put,L_,M_,N_,i64_w,i32_w];rfl
                   refine pure_ (i:=3) (N:=some 64) (v:=undef) (a':=?_) #[T,T,T,T,F,F,F,F,F,F,F,F,F,F,F,F,F,F,F,F,F,F,F,F,F,F] rfl rfl (any_of HT_.out (by kernel_rfl)) (fun _ _ _ h=>h) (Or.inr ⟨by rfl,rfl⟩) ?_ ?_
                   rotate_left;·simp only [Act.put,L_,M_,N_,i64_w,i32_w];rfl
                   refine pure_ (i:=4) (N:=some 65) (v:=undef) (a':=?_) #[T,T,T,T,T,F,F,F,F,F,F,F,F,F,F,F,F,F,F,F,F,F,F,F,F,F] rfl rfl (any_of HT_.out (by kernel_rfl)) (fun _ _ _ h=>h) (Or.inr ⟨by rfl,rfl⟩) ?_ ?_
                   rotate_left;·simp only [Act.put,L_,M_,N_,i64_w,i32_w];rfl
                   refine pure_ (i:=5) (N:=some 66) (v:=undef) (a':=?_) #[T,T,T,T,T,T,F,F,F,F,F,F,F,F,F,F,F,F,F,F,F,F,F,F,F,F] rfl rfl (any_of HT_.out (by kernel_rfl)) (fun _ _ _ h=>h) (Or.inr ⟨by rfl,rfl⟩) ?_ ?_
                   rotate_left;·simp only [Act.put,L_,M_,N_,i64_w,i32_w];rfl
                   refine pure_ (i:=6) (N:=some 67) (v:=undef) (a':=?_) #[T,T,T,T,T,T,T,F,F,F,F,F,F,F,F,F,F,F,F,F,F,F,F,F,F,F] rfl rfl (any_of HT_.out (by kernel_rfl)) (fun _ _ _ h=>h) (Or.inr ⟨by rfl,rfl⟩) ?_ ?_
                   rotate_left;·simp only [Act.put,L_,M_,N_,i64_w,i32_w];rfl
                   refine pure_ (i:=7) (N:=some 68) (v:=undef) (a':=?_) #[T,T,T,T,T,T,T,T,F,F,F,F,F,F,F,F,F,F,F,F,F,F,F,F,F,F] rfl rfl (any_of HT_.out (by kernel_rfl)) (fun _ _ _ h=>h) (Or.inr ⟨by rfl,rfl⟩) ?_ ?_
                   rotate_left;·simp only [Act.put,L_,M_,N_,i64_w,i32_w];rfl
                   refine pure_ (i:=8) (N:=some 69) (v:=undef) (a':=?_) #[T,T,T,T,T,T,T,T,T,F,F,F,F,F,F,F,F,F,F,F,F,F,F,F,F,F] rfl rfl (any_of HT_.out (by kernel_rfl)) (fun _ _ _ h=>h) (Or.inr ⟨by rfl,rfl⟩) ?_ ?_
                   rotate_left;·simp only [Act.put,L_,M_,N_,i64_w,i32_w];rfl
                   refine pure_ (i:=9) (N:=some 70) (v:=undef) (a':=?_) #[T,T,T,T,T,T,T,T,T,T,F,F,F,F,F,F,F,F,F,F,F,F,F,F,F,F] rfl rfl (any_of HT_.out (by kernel_rfl)) (fun _ _ _ h=>h) (Or.inr ⟨by rfl,rfl⟩) ?_ ?_
                   rotate_left;·simp only [Act.put,L_,M_,N_,i64_w,i32_w];rfl
                   refine pure_ (i:=10) (N:=some 71) (v:=undef) (a':=?_) #[T,T,T,T,T,T,T,T,T,T,T,F,F,F,F,F,F,F,F,F,F,F,F,F,F,F] rfl rfl (any_of HT_.out (by kernel_rfl)) (fun _ _ _ h=>h) (Or.inr ⟨by rfl,rfl⟩) ?_ ?_
                   rotate_left;·simp only [Act.put,L_,M_,N_,i64_w,i32_w];rfl
                   refine pure_ (i:=11) (N:=some 72) (v:=undef) (a':=?_) #[T,T,T,T,T,T,T,T,T,T,T,T,F,F,F,F,F,F,F,F,F,F,F,F,F,F] rfl rfl (any_of HT_.out (by kernel_rfl)) (fun _ _ _ h=>h) (Or.inr ⟨by rfl,rfl⟩) ?_ ?_
                   rotate_left;·simp only [Act.put,L_,M_,N_,i64_w,i32_w];rfl
                   refine pure_ (i:=12) (N:=some 73) (v:=?_) (a':=?_) #[T,T,T,T,T,T,T,T,T,T,T,T,T,F,F,F,F,F,F,F,F,F,F,F,F,F] rfl rfl (any_of HT_.out (by kernel_rfl)) (fun _ _ _ h=>h) (Or.inl ⟨by rfl,?_⟩) ?_ ?_
                   rotate_left;·intro w';go_simp;with_reducible rfl
                   rotate_left;·simp only [Act.put,L_,M_,N_,i64_w,i32_w];rfl
                   refine pure_ (i:=13) (N:=some 74) (v:=?_) (a':=?_) #[T,T,T,T,T,T,T,T,T,T,T,T,T,T,F,F,F,F,F,F,F,F,F,F,F,F] rfl rfl (any_of HT_.out (by kernel_rfl)) (fun _ _ _ h=>h) (Or.inl ⟨by rfl,?_⟩) ?_ ?_
                   rotate_left;·intro w';go_simp;with_reducible rfl
                   rotate_left;·simp only [Act.put,L_,M_,N_,i64_w,i32_w];rfl
                   refine pure_ (i:=14) (N:=some 75) (v:=?_) (a':=?_) #[T,T,T,T,T,T,T,T,T,T,T,T,T,T,T,F,F,F,F,F,F,F,F,F,F,F] rfl rfl (any_of HT_.out (by kernel_rfl)) (fun _ _ _ h=>h) (Or.inl ⟨by rfl,?_⟩) ?_ ?_
                   rotate_left;·intro w';go_simp;with_reducible rfl
                   rotate_left;·simp only [Act.put,L_,M_,N_,i64_w,i32_w];rfl
                   refine pure_ (i:=15) (N:=some 76) (v:=?_) (a':=?_) #[T,T,T,T,T,T,T,T,T,T,T,T,T,T,T,T,F,F,F,F,F,F,F,F,F,F] rfl rfl (any_of HT_.out (by kernel_rfl)) (fun _ _ _ h=>h) (Or.inl ⟨by rfl,?_⟩) ?_ ?_
                   rotate_left;·intro w';go_simp;with_reducible rfl
                   rotate_left;·simp only [Act.put,L_,M_,N_,i64_w,i32_w];rfl
                   refine pure_ (i:=16) (N:=some 77) (v:=?_) (a':=?_) #[T,T,T,T,T,T,T,T,T,T,T,T,T,T,T,T,T,F,F,F,F,F,F,F,F,F] rfl rfl (any_of HT_.out (by kernel_rfl)) (fun _ _ _ h=>h) (Or.inl ⟨by rfl,?_⟩) ?_ ?_
                   rotate_left;·intro w';go_simp;with_reducible rfl
                   rotate_left;·simp only [Act.put,L_,M_,N_,i64_w,i32_w];rfl
                   refine pure_ (i:=17) (N:=some 78) (v:=?_) (a':=?_) #[T,T,T,T,T,T,T,T,T,T,T,T,T,T,T,T,T,T,F,F,F,F,F,F,F,F] rfl rfl (any_of HT_.out (by kernel_rfl)) (fun _ _ _ h=>h) (Or.inl ⟨by rfl,?_⟩) ?_ ?_
                   rotate_left;·intro w';go_simp;with_reducible rfl
                   rotate_left;·simp only [Act.put,L_,M_,N_,i64_w,i32_w];rfl
                   refine pure_ (i:=18) (N:=some 79) (v:=?_) (a':=?_) #[T,T,T,T,T,T,T,T,T,T,T,T,T,T,T,T,T,T,T,F,F,F,F,F,F,F] rfl rfl (any_of HT_.out (by kernel_rfl)) (fun _ _ _ h=>h) (Or.inl ⟨by rfl,?_⟩) ?_ ?_
                   rotate_left;·intro w';go_simp;with_reducible rfl
                   rotate_left;·simp only [Act.put,L_,M_,N_,i64_w,i32_w];rfl
                   refine pure_ (i:=19) (N:=some 80) (v:=?_) (a':=?_) #[T,T,T,T,T,T,T,T,T,T,T,T,T,T,T,T,T,T,T,T,F,F,F,F,F,F] rfl rfl (any_of HT_.out (by kernel_rfl)) (fun _ _ _ h=>h) (Or.inl ⟨by rfl,?_⟩) ?_ ?_
                   rotate_left;·intro w';go_simp;with_reducible rfl
                   rotate_left;·simp only [Act.put,L_,M_,N_,i64_w,i32_w];rfl
                   refine pure_ (i:=20) (N:=some 81) (v:=?_) (a':=?_) #[T,T,T,T,T,T,T,T,T,T,T,T,T,T,T,T,T,T,T,T,T,F,F,F,F,F] rfl rfl (any_of HT_.out (by kernel_rfl)) (fun _ _ _ h=>h) (Or.inl ⟨by rfl,?_⟩) ?_ ?_
                   rotate_left;·intro w';go_simp;with_reducible rfl
                   rotate_left;·simp only [Act.put,L_,M_,N_,i64_w,i32_w];rfl
                   refine pure_ (i:=21) (N:=some 82) (v:=?_) (a':=?_) #[T,T,T,T,T,T,T,T,T,T,T,T,T,T,T,T,T,T,T,T,T,T,F,F,F,F] rfl rfl (any_of HT_.out (by kernel_rfl)) (fun _ _ _ h=>h) (Or.inl ⟨by rfl,?_⟩) ?_ ?_
                   rotate_left;·intro w';go_simp;with_reducible rfl
                   rotate_left;·simp only [Act.put,L_,M_,N_,i64_w,i32_w];rfl
                   refine pure_ (i:=22) (N:=some 83) (v:=?_) (a':=?_) #[T,T,T,T,T,T,T,T,T,T,T,T,T,T,T,T,T,T,T,T,T,T,T,F,F,F] rfl rfl (any_of HT_.out (by kernel_rfl)) (fun _ _ _ h=>h) (Or.inl ⟨by rfl,?_⟩) ?_ ?_
                   rotate_left;·intro w';go_simp;with_reducible rfl
                   rotate_left;·simp only [Act.put,L_,M_,N_,i64_w,i32_w];rfl
                   refine one_ (i:=23) (N:=some 84) #[T,T,T,T,T,T,T,T,T,T,T,T,T,T,T,T,T,T,T,T,T,T,T,T,F,F] rfl rfl (one_of HT_.out (by kernel_rfl)) (by decide) (fun K hK=>?_)
                   refine goes_ Tryd.func58 (by kernel_rfl) rfl #[.pointer (some ⟨g,0,none⟩),.int .i64 3] (by rfl) rfl rfl au_ ?_
                   with_reducible refine (spec_l1Cur_one.calls g s0_0 x1001_3 x1002_3 3 true t187 t188 w0 _ ?side1 ?side2 A76.out).mono ?_
                   (case side1=>repeat (first|(with_reducible first|exact HI0.out|apply IsS62.alloc|apply IsS62.drewN|apply IsS62.drew|apply IsS62.set_1|apply IsS62.set_2|refine IsS62.far ?_ (Aside0.out (by assumption)) _)|exact HI0.out))
                   (case side2=>repeat (first|(with_reducible first|exact HB.out|apply below_alloc|apply pw_below_drewN|apply below_drew1|refine below_set ?_ (IsS62.ge HI0.out)|refine below_set ?_ (Aside0.out (by assumption)))|exact HB.out))
                   rintro e w84 ⟨rfl,hi,hb,hk⟩
                   refine ⟨_,rfl,?_⟩
                   replace HO_8:=A_ (Kd.R_mono (Kd.R_keep (IsS62.apart (show IsS62 w0 _ g s0_0 x1001_3 x1002_3 from by repeat (first|(with_reducible first|exact HI0.out|apply IsS62.alloc|apply IsS62.drewN|apply IsS62.drew|apply IsS62.set_1|apply IsS62.set_2|refine IsS62.far ?_ (Aside0.out (by assumption)) _)|exact HI0.out)) (rl_ HO_8) (by decide)) hk (fun _ h=>h.2)) (fun _ h=>h.1));replace HO_9:=A_ (Kd.R_mono (Kd.R_keep (IsS62.apart (show IsS62 w0 _ g s0_0 x1001_3 x1002_3 from by repeat (first|(with_reducible first|exact HI0.out|apply IsS62.alloc|apply IsS62.drewN|apply IsS62.drew|apply IsS62.set_1|apply IsS62.set_2|refine IsS62.far ?_ (Aside0.out (by assumption)) _)|exact HI0.out)) (rl_ HO_9) (by decide)) hk (fun _ h=>h.2)) (fun _ h=>h.1));replace HO_153001:=A_ (Kd.R_mono (Kd.R_keep (IsS62.apart (show IsS62 w0 _ g s0_0 x1001_3 x1002_3 from by repeat (first|(with_reducible first|exact HI0.out|apply IsS62.alloc|apply IsS62.drewN|apply IsS62.drew|apply IsS62.set_1|apply IsS62.set_2|refine IsS62.far ?_ (Aside0.out (by assumption)) _)|exact HI0.out)) (rl_ HO_153001) (by decide)) hk (fun _ h=>h.2)) (fun _ h=>h.1));replace BK145:=A_ (KeepBut.blk hk (g':=gb145) (o:=.cells #[.int .i64 0,.slice none 0 0] 26 (0,0)) (bl_ BK145) NB145_0.out (by simp));replace BK152:=A_ (KeepBut.blk hk (g':=gb152) (o:=.cells #[.int .i64 t146,u153001] 26 (0,0)) (bl_ BK152) NB152_0.out (by simp));replace HK:=A_ (KeepBut.trans (by repeat (with_reducible first|exact HK.out|apply KeepBut.set_|apply keep_drewN|apply keep_drew|apply keep_alloc|refine keep_far ?_ GW145.out _|refine keep_far ?_ GW152.out _)) hk (.inl rfl));replace HB:=A_ (hb);replace HI0:=A_ (hi);(try clear hb);(try clear hb2);(try clear hk);(try clear hi);refine hK.out _ _ trivial (fun hHeld=>?_)
                   clear hK K;refine norm_ (a':=?_) ?_ ?_
                   rotate_left
                   ·show Act.put _ (some 84) _ = _
                    simp only [Act.put,L_,M_,N_,i64_w,i32_w]
                    rfl
                   refine pure_ (i:=24) (N:=some 85) (v:=?_) (a':=?_) #[T,T,T,T,T,T,T,T,T,T,T,T,T,T,T,T,T,T,T,T,T,T,T,T,T,F] rfl rfl (any_of HT_.out (by kernel_rfl)) (fun _ _ _ h=>h) (Or.inl ⟨by rfl,?_⟩) ?_ ?_
                   rotate_left;·intro w';go_simp;with_reducible rfl
                   rotate_left;·simp only [Act.put,L_,M_,N_,i64_w,i32_w];rfl
                   refine pure_ (i:=25) (N:=some 86) (v:=?_) (a':=?_) #[T,T,T,T,T,T,T,T,T,T,T,T,T,T,T,T,T,T,T,T,T,T,T,T,T,T] rfl rfl (any_of HT_.out (by kernel_rfl)) (fun _ _ _ h=>h) (Or.inl ⟨by rfl,?_⟩) ?_ ?_
                   rotate_left;·intro w';go_simp;with_reducible rfl
                   rotate_left;·simp only [Act.put,L_,M_,N_,i64_w,i32_w];rfl
                   refine done_ (done_of HT_.out (by kernel_rfl)) ?_
                   try go_wp2
                   replace HO_8:=A_ (Kd.R_drew HO_8.out);replace HO_9:=A_ (Kd.R_drew HO_9.out);replace HO_153001:=A_ (Kd.R_drew HO_153001.out);replace BK145:=A_ (blk_drew BK145.out);replace BK152:=A_ (blk_drew BK152.out);replace HI0:=A_ (IsS62.drew HI0.out);replace HK:=A_ (keep_drew HK.out);replace HB:=A_ (below_drew1 HB.out);obtain ⟨Ao86,co86,eo86⟩:=Kd.R_slice HO_153001.out;(first|subst eo86|(injection eo86 with f1_ f2_ f3_;have f4_:=f1_.symm;have f5_:=f3_.symm;clear f1_ f2_ f3_;subst f4_;subst f5_))
                   have p189 : 0 ≤ (x12_2 : Int):=of_decide_eq_true (by first|(with_reducible assumption)|assumption);have q189 : x12_2 < (x153001_3.length : Int):=of_decide_eq_true (by first|(with_reducible assumption)|assumption);obtain ⟨ad189,e189,hx189_0⟩:=Kd.at_int (Kd.R_reads' HO_153001.out).2.2 x12_2 p189 q189;cases e189
                   replace p189:=eq_true p189;replace q189:=eq_true q189;have p82 : 0 ≤ (x12_2 : Int):=of_decide_eq_true (by first|(with_reducible assumption)|assumption);have q82 : (x12_2 : Int) < ((x153001_3.length : Int) : Int):=of_decide_eq_true (by first|(with_reducible assumption)|assumption);obtain ⟨go82,co82,eo82,gb82,gl82,cl82,HG82⟩:=Kd.R_form HO_153001.out (by omega);(first|cases eo82|(injection eo82 with ea_ en_ ec_;(first|subst ea_|(injection ea_ with ea_;subst ea_));subst ec_;clear en_))
                   have GB82:=A_ gb82;have GG82:=A_ HG82;clear gb82 gl82 HG82;(first|simp only [add_plain] at hx189_0|skip)
                   obtain ⟨hx82_0,hf82_0⟩:=Kd.R_celln 0 HO_153001.out (x12_2 : Int) p82 q82;replace p82:=eq_true p82;replace q82:=eq_true q82;have HN0_go82:=A_ (show g ≠ go82 from by have h_:=IsS62.own_ne HI0.out HO_153001.out (by decide);intro e_;exact h_ (by rw [e_];rfl));have HP87:=Kd.R_putn HO_153001.out (x12_2 : Int) (Go.bits .or .i64 (rd x153001_3 x12_2) (ji81));rw [← Ny190.out] at HP87;have HQ87:=A_ HP87;clear HP87;refine start_ (n:=10) (S:=fun w'=>w'.cell? ⟨gb152,0,none⟩ = some (.int .i64 t146) ∧ w'.cell? ⟨gb152,1,none⟩ = some (.slice (some ⟨go82,0,none⟩) x153001_3.length co86) ∧ w'.cell? ⟨go82,(x12_2).toNat,none⟩ = some (.int .i64 (rd x153001_3 x12_2))) (ds:=[9]) #[F,F,F,F,F,F,F,F,F,F] (by kernel_rfl) rfl rfl ⟨blk_cell BK152.out 0,blk_cell BK152.out 1,hx189_0⟩ (fun hHeld=>?_);refine with_tabW spec_l1Cur_order.tab20 spec_l1Cur_order.bits20 (fun HT_ HW_=>?_)
                   generalize w84.drew = w85 at HO_8 HO_9 HO_153001 BK145 BK152 HI0 HK HB GG82 HQ87 hf82_0 hx189_0 hx82_0 hHeld ⊢
                   refine pure_ (i:=0) (N:=some 87) (v:=?_) (a':=?_) #[T,F,F,F,F,F,F,F,F,F] rfl rfl (any_of HT_.out (by kernel_rfl)) (fun _ _ _ h=>h) (Or.inl ⟨by rfl,?_⟩) ?_ ?_
                   rotate_left;·intro w';go_simp;with_reducible rfl
                   rotate_left;·simp only [Act.put,L_,M_,N_,i64_w,i32_w];rfl
                   refine pure_ (i:=2) (N:=some 89) (v:=?_) (a':=?_) #[T,F,T,F,F,F,F,F,F,F] rfl rfl (any_of HT_.out (by kernel_rfl)) (fun _ _ _ h=>h) (Or.inl ⟨by rfl,?_⟩) ?_ ?_
                   rotate_left;·intro w';go_simp;with_reducible rfl
                   rotate_left;·simp only [Act.put,L_,M_,N_,i64_w,i32_w];rfl
                   refine pure_ (i:=5) (N:=some 92) (v:=?_) (a':=?_) #[T,F,T,F,F,T,F,F,F,F] rfl rfl (any_of HT_.out (by kernel_rfl)) (fun _ _ _ h=>h) (Or.inl ⟨by rfl,?_⟩) ?_ ?_
                   rotate_left;·intro w';go_simp;with_reducible rfl
                   rotate_left;·simp only [Act.put,L_,M_,N_,i64_w,i32_w];rfl
                   refine pure_ (i:=6) (N:=some 93) (v:=?_) (a':=?_) #[T,F,T,F,F,T,T,F,F,F] rfl rfl (any_of HT_.out (by kernel_rfl)) (fun _ _ _ h=>h) (Or.inl ⟨by rfl,?_⟩) ?_ ?_
                   rotate_left;·intro w';go_simp;with_reducible rfl
                   rotate_left;·simp only [Act.put,L_,M_,N_,i64_w,i32_w];rfl
                   refine take_ (i:=1) (N:=some 88) (v:=?_) (a':=?_) #[T,T,T,F,F,T,T,F,F,F] rfl rfl (take_ofW HT_.out HW_.out (by kernel_rfl)) (fun _ _ _ h=>h) (Or.inl ⟨by rfl,?_⟩) hHeld ?_ ?_
                   rotate_left
                   ·rintro w' ⟨s0,s1,s2⟩
                    go_simp
                    with_reducible rfl
                   rotate_left;·simp only [Act.put,L_,M_,N_,i64_w,i32_w];rfl
                   refine pure_ (i:=3) (N:=some 90) (v:=?_) (a':=?_) #[T,T,T,T,F,T,T,F,F,F] rfl rfl (any_of HT_.out (by kernel_rfl)) (fun _ _ _ h=>h) (Or.inl ⟨by rfl,?_⟩) ?_ ?_
                   rotate_left;·intro w';go_simp;with_reducible rfl
                   rotate_left;·simp only [Act.put,L_,M_,N_,i64_w,i32_w];rfl
                   refine take_ (i:=4) (N:=some 91) (v:=?_) (a':=?_) #[T,T,T,T,T,T,T,F,F,F] rfl rfl (take_ofW HT_.out HW_.out (by kernel_rfl)) (fun _ _ _ h=>h) (Or.inl ⟨by rfl,?_⟩) hHeld ?_ ?_
                   rotate_left
                   ·rintro w' ⟨s0,s1,s2⟩
                    go_simp
                    with_reducible rfl
                   rotate_left;·simp only [Act.put,L_,M_,N_,i64_w,i32_w];rfl
                   refine pure_ (i:=7) (N:=some 94) (v:=?_) (a':=?_) #[T,T,T,T,T,T,T,T,F,F] rfl rfl (any_of HT_.out (by kernel_rfl)) (fun _ _ _ h=>h) (Or.inl ⟨by rfl,?_⟩) ?_ ?_
                   rotate_left;·intro w';go_simp;with_reducible rfl
                   rotate_left;·simp only [Act.put,L_,M_,N_,i64_w,i32_w];rfl
                   refine pure_ (i:=8) (N:=some 95) (v:=?_) (a':=?_) #[T,T,T,T,T,T,T,T,T,F] rfl rfl (any_of HT_.out (by kernel_rfl)) (fun _ _ _ h=>h) (Or.inl ⟨by rfl,?_⟩) ?_ ?_
                   rotate_left;·intro w';go_simp;with_reducible rfl
                   rotate_left;·simp only [Act.put,L_,M_,N_,i64_w,i32_w];rfl
                   refine last_ (i:=9) (N:=none) #[T,T,T,T,T,T,T,T,T,T] rfl rfl (one_of HT_.out (by kernel_rfl)) (by decide) (fun K hK=>?_)
                   refine skip_ (w1:=?_) (by rfl) rfl ?_ ?_
                   rotate_left
                   ·go_simp
                    rfl
                   refine hK.out _ _ ?_
                   clear hK K;refine done_ (done_of HT_.out (by kernel_rfl)) ?_
                   try go_wp2
                   go_roundg k3
                   case measure=>have:=HK1.out;have:=HK2.out;have:=HK3.out;omega
                   case rel=>exact ⟨(x8_3),(x9_3),(wrap64 (x13_3 + 1)),(t187),(t188),(y190),(.slice (some ⟨go82,0,none⟩) x153001_3.length co86),(by first|rfl|(simp;done)|(simp [*];done)),H',⟨by have:=HK1.out;have:=HK2.out;have:=HK3.out;omega⟩,⟨by (with_reducible repeat (first|apply Kd.R_alloc|apply Kd.R_drewN|apply Kd.R_drew));exact Kd.R_mono (Kd.R_far (p:=⟨go82,(x12_2 : Int).toNat,none⟩) (Kd.R_mono HO_8.out (fun k_ hk=>(⟨hk,fun e_=>hk.2 (by rw [e_];rfl)⟩ : _ ∧ k_ ≠ go82))) (fun _ hk=>hk.2) (.int .i64 (Go.bits .or .i64 (rd x153001_3 x12_2) (ji81)))) (fun _ hk=>⟨hk.1.1,hk.1.2⟩)⟩,⟨by (with_reducible repeat (first|apply Kd.R_alloc|apply Kd.R_drewN|apply Kd.R_drew));exact Kd.R_mono (Kd.R_far (p:=⟨go82,(x12_2 : Int).toNat,none⟩) (Kd.R_mono HO_9.out (fun k_ hk=>(⟨hk,fun e_=>hk.2 (by rw [e_];rfl)⟩ : _ ∧ k_ ≠ go82))) (fun _ hk=>hk.2) (.int .i64 (Go.bits .or .i64 (rd x153001_3 x12_2) (ji81)))) (fun _ hk=>⟨hk.1.1,hk.1.2⟩)⟩,⟨by (with_reducible repeat (first|apply Kd.R_alloc|apply Kd.R_drewN|apply Kd.R_drew));exact HQ87.out⟩,⟨by (with_reducible repeat (first|refine blk_drewN ?_ _|refine blk_drew ?_|refine blk_alloc ?_ _));refine blk_far ?_ (by have h_:=Kd.R_ne HO_153001.out BK145.out (by decide);intro e_;exact h_ (by rw [e_];rfl)) _;(with_reducible repeat (first|refine blk_drewN ?_ _|refine blk_drew ?_|refine blk_alloc ?_ _));exact BK145.out⟩,⟨by (with_reducible repeat (first|refine blk_drewN ?_ _|refine blk_drew ?_|refine blk_alloc ?_ _));refine blk_far ?_ (by have h_:=Kd.R_ne HO_153001.out BK152.out (by decide);intro e_;exact h_ (by rw [e_];rfl)) _;(with_reducible repeat (first|refine blk_drewN ?_ _|refine blk_drew ?_|refine blk_alloc ?_ _));exact BK152.out⟩,⟨by repeat (first|(with_reducible first|exact HI0.out|apply IsS62.alloc|apply IsS62.drewN|apply IsS62.drew|apply IsS62.set_1|apply IsS62.set_2|refine IsS62.far ?_ HN0_go82.out _|refine IsS62.far ?_ (Aside0.out (by assumption)) _)|exact HI0.out)⟩,⟨by repeat (first|(with_reducible first|exact HK.out|apply KeepBut.set_|apply keep_drewN|apply keep_drew|apply keep_alloc|refine keep_far ?_ GB82.out _|refine keep_far ?_ GW145.out _|refine keep_far ?_ GW152.out _)|exact HK.out)⟩,⟨by repeat (first|(with_reducible first|exact HB.out|apply below_alloc|apply pw_below_drewN|apply below_drew1|refine below_set ?_ (Nat.le_trans HL.out GB82.out)|refine below_set ?_ (IsS62.ge HI0.out)|refine below_set ?_ (Aside0.out (by assumption)))|exact HB.out)⟩⟩
                  ·rw [if_neg c80] at H;exact absurd H (by simp)
                 ·rw [if_neg c79] at H;exact absurd H (by simp)
                ·rw [if_neg c78] at H;exact absurd H (by simp)
               ·replace c77:=Bool.eq_false_iff.mpr c77;subst c77;have H1 : (spec_l1Cur_order.l2 k3 t146 t153 x8_3 x9_3 x12_2 (wrap64 (x13_3 + 1)) s0_0 t187 t188 t146 x153001_3) = some (r1,r2,r3,r4):=by rw [if_neg (show ¬ (false = true) by decide)] at H;exact H
                clear H;have H:=H1;clear H1;have H':=A_ H;clear H;try go_wp2
                replace HO_8:=A_ (Kd.R_drew HO_8.out);replace HO_9:=A_ (Kd.R_drew HO_9.out);replace HO_153001:=A_ (Kd.R_drew HO_153001.out);replace BK145:=A_ (blk_drew BK145.out);replace BK152:=A_ (blk_drew BK152.out);replace HI0:=A_ (IsS62.drew HI0.out);replace HK:=A_ (keep_drew HK.out);replace HB:=A_ (below_drew1 HB.out);refine start_ (n:=26) (S:=fun w'=>True) (ds:=[]) #[F,F,F,F,F,F,F,F,F,F,F,F,F,F,F,F,F,F,F,F,F,F,F,F,F,F] (by kernel_rfl) rfl rfl trivial (fun hHeld=>?_);refine with_tabW spec_l1Cur_order.tab19 spec_l1Cur_order.bits19 (fun HT_ HW_=>?_)
                generalize wr.drew = w88 at HO_8 HO_9 HO_153001 BK145 BK152 HI0 HK HB hHeld ⊢
                refine pure_ (i:=0) (N:=some 61) (v:=?_) (a':=?_) #[T,F,F,F,F,F,F,F,F,F,F,F,F,F,F,F,F,F,F,F,F,F,F,F,F,F] rfl rfl (any_of HT_.out (by kernel_rfl)) (fun _ _ _ h=>h) (Or.inl ⟨by rfl,?_⟩) ?_ ?_
                rotate_left;·intro w';go_simp;with_reducible rfl
                rotate_left;·simp only [Act.put,L_,M_,N_,i64_w,i32_w];rfl
                refine pure_ (i:=1) (N:=some 62) (v:=?_) (a':=?_) #[T,T,F,F,F,F,F,F,F,F,F,F,F,F,F,F,F,F,F,F,F,F,F,F,F,F] rfl rfl (any_of HT_.out (by kernel_rfl)) (fun _ _ _ h=>h) (Or.inl ⟨by rfl,?_⟩) ?_ ?_
                rotate_left;·intro w';go_simp;with_reducible rfl
                rotate_left;·simp only [Act.put,L_,M_,N_,i64_w,i32_w];rfl
                refine pure_ (i:=2) (N:=some 63) (v:=?_) (a':=?_) #[T,T,T,F,F,F,F,F,F,F,F,F,F,F,F,F,F,F,F,F,F,F,F,F,F,F] rfl rfl (any_of HT_.out (by kernel_rfl)) (fun _ _ _ h=>h) (Or.inl ⟨by rfl,?_⟩) ?_ ?_
                rotate_left;·intro w';go_simp;with_reducible rfl
                rotate_left;·simp only [Act.put,L_,M_,N_,i64_w,i32_w];rfl
                refine pure_ (i:=3) (N:=some 64) (v:=undef) (a':=?_) #[T,T,T,T,F,F,F,F,F,F,F,F,F,F,F,F,F,F,F,F,F,F,F,F,F,F] rfl rfl (any_of HT_.out (by kernel_rfl)) (fun _ _ _ h=>h) (Or.inr ⟨by rfl,rfl⟩) ?_ ?_
                rotate_left;·simp only [Act.put,L_,M_,N_,i64_w,i32_w];rfl
                refine pure_ (i:=4) (N:=some 65) (v:=undef) (a':=?_) #[T,T,T,T,T,F,F,F,F,F,F,F,F,F,F,F,F,F,F,F,F,F,F,F,F,F] rfl rfl (any_of HT_.out (by kernel_rfl)) (fun _ _ _ h=>h) (Or.inr ⟨by rfl,rfl⟩) ?_ ?_
                rotate_left;·simp only [Act.put,L_,M_,N_,i64_w,i32_w];rfl
                refine pure_ (i:=5) (N:=some 66) (v:=undef) (a':=?_) #[T,T,T,T,T,T,F,F,F,F,F,F,F,F,F,F,F,F,F,F,F,F,F,F,F,F] rfl rfl (any_of HT_.out (by kernel_rfl)) (fun _ _ _ h=>h) (Or.inr ⟨by rfl,rfl⟩) ?_ ?_
                rotate_left;·simp only [Act.put,L_,M_,N_,i64_w,i32_w];rfl
                refine pure_ (i:=6) (N:=some 67) (v:=undef) (a':=?_) #[T,T,T,T,T,T,T,F,F,F,F,F,F,F,F,F,F,F,F,F,F,F,F,F,F,F] rfl rfl (any_of HT_.out (by kernel_rfl)) (fun _ _ _ h=>h) (Or.inr ⟨by rfl,rfl⟩) ?_ ?_
                rotate_left;·simp only [Act.put,L_,M_,N_,i64_w,i32_w];rfl
                refine pure_ (i:=7) (N:=some 68) (v:=undef) (a':=?_) #[T,T,T,T,T,T,T,T,F,F,F,F,F,F,F,F,F,F,F,F,F,F,F,F,F,F] rfl rfl (any_of HT_.out (by kernel_rfl)) (fun _ _ _ h=>h) (Or.inr ⟨by rfl,rfl⟩) ?_ ?_
                rotate_left;·simp only [Act.put,L_,M_,N_,i64_w,i32_w];rfl
                refine pure_ (i:=8) (N:=some 69) (v:=undef) (a':=?_) #[T,T,T,T,T,T,T,T,T,F,F,F,F,F,F,F,F,F,F,F,F,F,F,F,F,F] rfl rfl (any_of HT_.out (by kernel_rfl)) (fun _ _ _ h=>h) (Or.inr ⟨by rfl,rfl⟩) ?_ ?_
                rotate_left;·simp only [Act.put,L_,M_,N_,i64_w,i32_w];rfl
                refine pure_ (i:=9) (N:=some 70) (v:=undef) (a':=?_) #[T,T,T,T,T,T,T,T,T,T,F,F,F,F,F,F,F,F,F,F,F,F,F,F,F,F] rfl rfl (any_of HT_.out (by kernel_rfl)) (fun _ _ _ h=>h) (Or.inr ⟨by rfl,rfl⟩) ?_ ?_
                rotate_left;·simp only [Act.put,L_,M_,N_,i64_w,i32_w];rfl
                refine pure_ (i:=10) (N:=some 71) (v:=undef) (a':=?_) #[T,T,T,T,T,T,T,T,T,T,T,F,F,F,F,F,F,F,F,F,F,F,F,F,F,F] rfl rfl (any_of HT_.out (by kernel_rfl)) (fun _ _ _ h=>h) (Or.inr ⟨by rfl,rfl⟩) ?_ ?_
                rotate_left;·simp only [Act.put,L_,M_,N_,i64_w,i32_w];rfl
                refine pure_ (i:=11) (N:=some 72) (v:=undef) (a':=?_) #[T,T,T,T,T,T,T,T,T,T,T,T,F,F,F,F,F,F,F,F,F,F,F,F,F,F] rfl rfl (any_of HT_.out (by kernel_rfl)) (fun _ _ _ h=>h) (Or.inr ⟨by rfl,rfl⟩) ?_ ?_
                rotate_left;·simp only [Act.put,L_,M_,N_,i64_w,i32_w];rfl
                refine pure_ (i:=12) (N:=some 73) (v:=?_) (a':=?_) #[T,T,T,T,T,T,T,T,T,T,T,T,T,F,F,F,F,F,F,F,F,F,F,F,F,F] rfl rfl (any_of HT_.out (by kernel_rfl)) (fun _ _ _ h=>h) (Or.inl ⟨by rfl,?_⟩) ?_ ?_
                rotate_left;·intro w';go_simp;with_reducible rfl
                rotate_left;·simp only [Act.put,L_,M_,N_,i64_w,i32_w];rfl
                refine pure_ (i:=13) (N:=some 74) (v:=?_) (a':=?_) #[T,T,T,T,T,T,T,T,T,T,T,T,T,T,F,F,F,F,F,F,F,F,F,F,F,F] rfl rfl (any_of HT_.out (by kernel_rfl)) (fun _ _ _ h=>h) (Or.inl ⟨by rfl,?_⟩) ?_ ?_
                rotate_left;·intro w';go_simp;with_reducible rfl
                rotate_left;·simp only [Act.put,L_,M_,N_,i64_w,i32_w];rfl
                refine pure_ (i:=14) (N:=some 75) (v:=?_) (a':=?_) #[T,T,T,T,T,T,T,T,T,T,T,T,T,T,T,F,F,F,F,F,F,F,F,F,F,F] rfl rfl (any_of HT_.out (by kernel_rfl)) (fun _ _ _ h=>h) (Or.inl ⟨by rfl,?_⟩) ?_ ?_
                rotate_left;·intro w';go_simp;with_reducible rfl
                rotate_left;·simp only [Act.put,L_,M_,N_,i64_w,i32_w];rfl
                refine pure_ (i:=15) (N:=some 76) (v:=?_) (a':=?_) #[T,T,T,T,T,T,T,T,T,T,T,T,T,T,T,T,F,F,F,F,F,F,F,F,F,F] rfl rfl (any_of HT_.out (by kernel_rfl)) (fun _ _ _ h=>h) (Or.inl ⟨by rfl,?_⟩) ?_ ?_
                rotate_left;·intro w';go_simp;with_reducible rfl
                rotate_left;·simp only [Act.put,L_,M_,N_,i64_w,i32_w];rfl
                refine pure_ (i:=16) (N:=some 77) (v:=?_) (a':=?_) #[T,T,T,T,T,T,T,T,T,T,T,T,T,T,T,T,T,F,F,F,F,F,F,F,F,F] rfl rfl (any_of HT_.out (by kernel_rfl)) (fun _ _ _ h=>h) (Or.inl ⟨by rfl,?_⟩) ?_ ?_
                rotate_left;·intro w';go_simp;with_reducible rfl
                rotate_left;·simp only [Act.put,L_,M_,N_,i64_w,i32_w];rfl
                refine pure_ (i:=17) (N:=some 78) (v:=?_) (a':=?_) #[T,T,T,T,T,T,T,T,T,T,T,T,T,T,T,T,T,T,F,F,F,F,F,F,F,F] rfl rfl (any_of HT_.out (by kernel_rfl)) (fun _ _ _ h=>h) (Or.inl ⟨by rfl,?_⟩) ?_ ?_
                rotate_left;·intro w';go_simp;with_reducible rfl
                rotate_left;·simp only [Act.put,L_,M_,N_,i64_w,i32_w];rfl
                refine pure_ (i:=18) (N:=some 79) (v:=?_) (a':=?_) #[T,T,T,T,T,T,T,T,T,T,T,T,T,T,T,T,T,T,T,F,F,F,F,F,F,F] rfl rfl (any_of HT_.out (by kernel_rfl)) (fun _ _ _ h=>h) (Or.inl ⟨by rfl,?_⟩) ?_ ?_
                rotate_left;·intro w';go_simp;with_reducible rfl
                rotate_left;·simp only [Act.put,L_,M_,N_,i64_w,i32_w];rfl
                refine pure_ (i:=19) (N:=some 80) (v:=?_) (a':=?_) #[T,T,T,T,T,T,T,T,T,T,T,T,T,T,T,T,T,T,T,T,F,F,F,F,F,F] rfl rfl (any_of HT_.out (by kernel_rfl)) (fun _ _ _ h=>h) (Or.inl ⟨by rfl,?_⟩) ?_ ?_
                rotate_left;·intro w';go_simp;with_reducible rfl
                rotate_left;·simp only [Act.put,L_,M_,N_,i64_w,i32_w];rfl
                refine pure_ (i:=20) (N:=some 81) (v:=?_) (a':=?_) #[T,T,T,T,T,T,T,T,T,T,T,T,T,T,T,T,T,T,T,T,T,F,F,F,F,F] rfl rfl (any_of HT_.out (by kernel_rfl)) (fun _ _ _ h=>h) (Or.inl ⟨by rfl,?_⟩) ?_ ?_
                rotate_left;·intro w';go_simp;with_reducible rfl
                rotate_left;·simp only [Act.put,L_,M_,N_,i64_w,i32_w];rfl
                refine pure_ (i:=21) (N:=some 82) (v:=?_) (a':=?_) #[T,T,T,T,T,T,T,T,T,T,T,T,T,T,T,T,T,T,T,T,T,T,F,F,F,F] rfl rfl (any_of HT_.out (by kernel_rfl)) (fun _ _ _ h=>h) (Or.inl ⟨by rfl,?_⟩) ?_ ?_
                rotate_left;·intro w';go_simp;with_reducible rfl
                rotate_left;·simp only [Act.put,L_,M_,N_,i64_w,i32_w];rfl
                refine pure_ (i:=22) (N:=some 83) (v:=?_) (a':=?_) #[T,T,T,T,T,T,T,T,T,T,T,T,T,T,T,T,T,T,T,T,T,T,T,F,F,F] rfl rfl (any_of HT_.out (by kernel_rfl)) (fun _ _ _ h=>h) (Or.inl ⟨by rfl,?_⟩) ?_ ?_
                rotate_left;·intro w';go_simp;with_reducible rfl
                rotate_left;·simp only [Act.put,L_,M_,N_,i64_w,i32_w];rfl
                refine one_ (i:=23) (N:=some 84) #[T,T,T,T,T,T,T,T,T,T,T,T,T,T,T,T,T,T,T,T,T,T,T,T,F,F] rfl rfl (one_of HT_.out (by kernel_rfl)) (by decide) (fun K hK=>?_)
                refine goes_ Tryd.func58 (by kernel_rfl) rfl #[.pointer (some ⟨g,0,none⟩),.int .i64 3] (by rfl) rfl rfl au_ ?_
                with_reducible refine (spec_l1Cur_one.calls g s0_0 x1001_3 x1002_3 3 false t187 t188 w0 _ ?side1 ?side2 A76.out).mono ?_
                (case side1=>repeat (first|(with_reducible first|exact HI0.out|apply IsS62.alloc|apply IsS62.drewN|apply IsS62.drew|apply IsS62.set_1|apply IsS62.set_2|refine IsS62.far ?_ (Aside0.out (by assumption)) _)|exact HI0.out))
                (case side2=>repeat (first|(with_reducible first|exact HB.out|apply below_alloc|apply pw_below_drewN|apply below_drew1|refine below_set ?_ (IsS62.ge HI0.out)|refine below_set ?_ (Aside0.out (by assumption)))|exact HB.out))
                rintro e w89 ⟨rfl,hi,hb,hk⟩
                refine ⟨_,rfl,?_⟩
                replace HO_8:=A_ (Kd.R_mono (Kd.R_keep (IsS62.apart (show IsS62 w0 _ g s0_0 x1001_3 x1002_3 from by repeat (first|(with_reducible first|exact HI0.out|apply IsS62.alloc|apply IsS62.drewN|apply IsS62.drew|apply IsS62.set_1|apply IsS62.set_2|refine IsS62.far ?_ (Aside0.out (by assumption)) _)|exact HI0.out)) (rl_ HO_8) (by decide)) hk (fun _ h=>h.2)) (fun _ h=>h.1));replace HO_9:=A_ (Kd.R_mono (Kd.R_keep (IsS62.apart (show IsS62 w0 _ g s0_0 x1001_3 x1002_3 from by repeat (first|(with_reducible first|exact HI0.out|apply IsS62.alloc|apply IsS62.drewN|apply IsS62.drew|apply IsS62.set_1|apply IsS62.set_2|refine IsS62.far ?_ (Aside0.out (by assumption)) _)|exact HI0.out)) (rl_ HO_9) (by decide)) hk (fun _ h=>h.2)) (fun _ h=>h.1));replace HO_153001:=A_ (Kd.R_mono (Kd.R_keep (IsS62.apart (show IsS62 w0 _ g s0_0 x1001_3 x1002_3 from by repeat (first|(with_reducible first|exact HI0.out|apply IsS62.alloc|apply IsS62.drewN|apply IsS62.drew|apply IsS62.set_1|apply IsS62.set_2|refine IsS62.far ?_ (Aside0.out (by assumption)) _)|exact HI0.out)) (rl_ HO_153001) (by decide)) hk (fun _ h=>h.2)) (fun _ h=>h.1));replace BK145:=A_ (KeepBut.blk hk (g':=gb145) (o:=.cells #[.int .i64 0,.slice none 0 0] 26 (0,0)) (bl_ BK145) NB145_0.out (by simp));replace BK152:=A_ (KeepBut.blk hk (g':=gb152) (o:=.cells #[.int .i64 t146,u153001] 26 (0,0)) (bl_ BK152) NB152_0.out (by simp));replace HK:=A_ (KeepBut.trans (by repeat (with_reducible first|exact HK.out|apply KeepBut.set_|apply keep_drewN|apply keep_drew|apply keep_alloc|refine keep_far ?_ GW145.out _|refine keep_far ?_ GW152.out _)) hk (.inl rfl));replace HB:=A_ (hb);replace HI0:=A_ (hi);(try clear hb);(try clear hb2);(try clear hk);(try clear hi);refine hK.out _ _ trivial (fun hHeld=>?_)
                clear hK K;refine norm_ (a':=?_) ?_ ?_
                rotate_left
                ·show Act.put _ (some 84) _ = _
                 simp only [Act.put,L_,M_,N_,i64_w,i32_w]
                 rfl
                refine pure_ (i:=24) (N:=some 85) (v:=?_) (a':=?_) #[T,T,T,T,T,T,T,T,T,T,T,T,T,T,T,T,T,T,T,T,T,T,T,T,T,F] rfl rfl (any_of HT_.out (by kernel_rfl)) (fun _ _ _ h=>h) (Or.inl ⟨by rfl,?_⟩) ?_ ?_
                rotate_left;·intro w';go_simp;with_reducible rfl
                rotate_left;·simp only [Act.put,L_,M_,N_,i64_w,i32_w];rfl
                refine pure_ (i:=25) (N:=some 86) (v:=?_) (a':=?_) #[T,T,T,T,T,T,T,T,T,T,T,T,T,T,T,T,T,T,T,T,T,T,T,T,T,T] rfl rfl (any_of HT_.out (by kernel_rfl)) (fun _ _ _ h=>h) (Or.inl ⟨by rfl,?_⟩) ?_ ?_
                rotate_left;·intro w';go_simp;with_reducible rfl
                rotate_left;·simp only [Act.put,L_,M_,N_,i64_w,i32_w];rfl
                refine done_ (done_of HT_.out (by kernel_rfl)) ?_
                try go_wp2
                go_roundg k3
                case measure=>have:=HK1.out;have:=HK2.out;have:=HK3.out;omega
                case rel=>exact ⟨(x8_3),(x9_3),(wrap64 (x13_3 + 1)),(t187),(t188),(x153001_3),(u153001),(by first|rfl|(simp;done)|(simp [*];done)),H',⟨by have:=HK1.out;have:=HK2.out;have:=HK3.out;omega⟩,⟨by (with_reducible repeat (first|apply Kd.R_alloc|apply Kd.R_drewN|apply Kd.R_drew));exact HO_8.out⟩,⟨by (with_reducible repeat (first|apply Kd.R_alloc|apply Kd.R_drewN|apply Kd.R_drew));exact HO_9.out⟩,⟨by (with_reducible repeat (first|apply Kd.R_alloc|apply Kd.R_drewN|apply Kd.R_drew));exact HO_153001.out⟩,⟨bl_ BK145⟩,⟨bl_ BK152⟩,⟨by repeat (first|(with_reducible first|exact HI0.out|apply IsS62.alloc|apply IsS62.drewN|apply IsS62.drew|apply IsS62.set_1|apply IsS62.set_2|refine IsS62.far ?_ (Aside0.out (by assumption)) _)|exact HI0.out)⟩,⟨by repeat (first|(with_reducible first|exact HK.out|apply KeepBut.set_|apply keep_drewN|apply keep_drew|apply keep_alloc|refine keep_far ?_ GW145.out _|refine keep_far ?_ GW152.out _)|exact HK.out)⟩,⟨by repeat (first|(with_reducible first|exact HB.out|apply below_alloc|apply pw_below_drewN|apply below_drew1|refine below_set ?_ (IsS62.ge HI0.out)|refine below_set ?_ (Aside0.out (by assumption)))|exact HB.out)⟩⟩
              ·rw [if_neg c75] at H;have c75b0 : decide (x12_2 < x13_3) = false:=decide_eq_false c75;clear c75;have H':=A_ H;clear H;try go_wp2
               replace HO_8:=A_ (Kd.R_drew HO_8.out);replace HO_9:=A_ (Kd.R_drew HO_9.out);replace HO_153001:=A_ (Kd.R_drew HO_153001.out);replace BK145:=A_ (blk_drew BK145.out);replace BK152:=A_ (blk_drew BK152.out);replace HI0:=A_ (IsS62.drew HI0.out);replace HK:=A_ (keep_drew HK.out);replace HB:=A_ (below_drew1 HB.out);refine start_ (n:=26) (S:=fun w'=>True) (ds:=[]) #[F,F,F,F,F,F,F,F,F,F,F,F,F,F,F,F,F,F,F,F,F,F,F,F,F,F] (by kernel_rfl) rfl rfl trivial (fun hHeld=>?_);refine with_tabW spec_l1Cur_order.tab19 spec_l1Cur_order.bits19 (fun HT_ HW_=>?_)
               generalize wr.drew = w90 at HO_8 HO_9 HO_153001 BK145 BK152 HI0 HK HB hHeld ⊢
               refine pure_ (i:=0) (N:=some 61) (v:=?_) (a':=?_) #[T,F,F,F,F,F,F,F,F,F,F,F,F,F,F,F,F,F,F,F,F,F,F,F,F,F] rfl rfl (any_of HT_.out (by kernel_rfl)) (fun _ _ _ h=>h) (Or.inl ⟨by rfl,?_⟩) ?_ ?_
               rotate_left;·intro w';go_simp;with_reducible rfl
               rotate_left;·simp only [Act.put,L_,M_,N_,i64_w,i32_w];rfl
               refine pure_ (i:=1) (N:=some 62) (v:=?_) (a':=?_) #[T,T,F,F,F,F,F,F,F,F,F,F,F,F,F,F,F,F,F,F,F,F,F,F,F,F] rfl rfl (any_of HT_.out (by kernel_rfl)) (fun _ _ _ h=>h) (Or.inl ⟨by rfl,?_⟩) ?_ ?_
               rotate_left;·intro w';go_simp;with_reducible rfl
               rotate_left;·simp only [Act.put,L_,M_,N_,i64_w,i32_w];rfl
               refine pure_ (i:=2) (N:=some 63) (v:=?_) (a':=?_) #[T,T,T,F,F,F,F,F,F,F,F,F,F,F,F,F,F,F,F,F,F,F,F,F,F,F] rfl rfl (any_of HT_.out (by kernel_rfl)) (fun _ _ _ h=>h) (Or.inl ⟨by rfl,?_⟩) ?_ ?_
               rotate_left;·intro w';go_simp;with_reducible rfl
               rotate_left;·simp only [Act.put,L_,M_,N_,i64_w,i32_w];rfl
               refine pure_ (i:=3) (N:=some 64) (v:=undef) (a':=?_) #[T,T,T,T,F,F,F,F,F,F,F,F,F,F,F,F,F,F,F,F,F,F,F,F,F,F] rfl rfl (any_of HT_.out (by kernel_rfl)) (fun _ _ _ h=>h) (Or.inr ⟨by rfl,rfl⟩) ?_ ?_
               rotate_left;·simp only [Act.put,L_,M_,N_,i64_w,i32_w];rfl
               refine pure_ (i:=4) (N:=some 65) (v:=undef) (a':=?_) #[T,T,T,T,T,F,F,F,F,F,F,F,F,F,F,F,F,F,F,F,F,F,F,F,F,F] rfl rfl (any_of HT_.out (by kernel_rfl)) (fun _ _ _ h=>h) (Or.inr ⟨by rfl,rfl⟩) ?_ ?_
               rotate_left;·simp only [Act.put,L_,M_,N_,i64_w,i32_w];rfl
               refine pure_ (i:=5) (N:=some 66) (v:=undef) (a':=?_) #[T,T,T,T,T,T,F,F,F,F,F,F,F,F,F,F,F,F,F,F,F,F,F,F,F,F] rfl rfl (any_of HT_.out (by kernel_rfl)) (fun _ _ _ h=>h) (Or.inr ⟨by rfl,rfl⟩) ?_ ?_
               rotate_left;·simp only [Act.put,L_,M_,N_,i64_w,i32_w];rfl
               refine pure_ (i:=6) (N:=some 67) (v:=undef) (a':=?_) #[T,T,T,T,T,T,T,F,F,F,F,F,F,F,F,F,F,F,F,F,F,F,F,F,F,F] rfl rfl (any_of HT_.out (by kernel_rfl)) (fun _ _ _ h=>h) (Or.inr ⟨by rfl,rfl⟩) ?_ ?_
               rotate_left;·simp only [Act.put,L_,M_,N_,i64_w,i32_w];rfl
               refine pure_ (i:=7) (N:=some 68) (v:=undef) (a':=?_) #[T,T,T,T,T,T,T,T,F,F,F,F,F,F,F,F,F,F,F,F,F,F,F,F,F,F] rfl rfl (any_of HT_.out (by kernel_rfl)) (fun _ _ _ h=>h) (Or.inr ⟨by rfl,rfl⟩) ?_ ?_
               rotate_left;·simp only [Act.put,L_,M_,N_,i64_w,i32_w];rfl
               refine pure_ (i:=8) (N:=some 69) (v:=undef) (a':=?_) #[T,T,T,T,T,T,T,T,T,F,F,F,F,F,F,F,F,F,F,F,F,F,F,F,F,F] rfl rfl (any_of HT_.out (by kernel_rfl)) (fun _ _ _ h=>h) (Or.inr ⟨by rfl,rfl⟩) ?_ ?_
               rotate_left;·simp only [Act.put,L_,M_,N_,i64_w,i32_w];rfl
               refine pure_ (i:=9) (N:=some 70) (v:=undef) (a':=?_) #[T,T,T,T,T,T,T,T,T,T,F,F,F,F,F,F,F,F,F,F,F,F,F,F,F,F] rfl rfl (any_of HT_.out (by kernel_rfl)) (fun _ _ _ h=>h) (Or.inr ⟨by rfl,rfl⟩) ?_ ?_
               rotate_left;·simp only [Act.put,L_,M_,N_,i64_w,i32_w];rfl
               refine pure_ (i:=10) (N:=some 71) (v:=undef) (a':=?_) #[T,T,T,T,T,T,T,T,T,T,T,F,F,F,F,F,F,F,F,F,F,F,F,F,F,F] rfl rfl (any_of HT_.out (by kernel_rfl)) (fun _ _ _ h=>h) (Or.inr ⟨by rfl,rfl⟩) ?_ ?_
               rotate_left;·simp only [Act.put,L_,M_,N_,i64_w,i32_w];rfl
               refine pure_ (i:=11) (N:=some 72) (v:=undef) (a':=?_) #[T,T,T,T,T,T,T,T,T,T,T,T,F,F,F,F,F,F,F,F,F,F,F,F,F,F] rfl rfl (any_of HT_.out (by kernel_rfl)) (fun _ _ _ h=>h) (Or.inr ⟨by rfl,rfl⟩) ?_ ?_
               rotate_left;·simp only [Act.put,L_,M_,N_,i64_w,i32_w];rfl
               refine pure_ (i:=12) (N:=some 73) (v:=?_) (a':=?_) #[T,T,T,T,T,T,T,T,T,T,T,T,T,F,F,F,F,F,F,F,F,F,F,F,F,F] rfl rfl (any_of HT_.out (by kernel_rfl)) (fun _ _ _ h=>h) (Or.inl ⟨by rfl,?_⟩) ?_ ?_
               rotate_left;·intro w';go_simp;with_reducible rfl
               rotate_left;·simp only [Act.put,L_,M_,N_,i64_w,i32_w];rfl
               refine pure_ (i:=13) (N:=some 74) (v:=?_) (a':=?_) #[T,T,T,T,T,T,T,T,T,T,T,T,T,T,F,F,F,F,F,F,F,F,F,F,F,F] rfl rfl (any_of HT_.out (by kernel_rfl)) (fun _ _ _ h=>h) (Or.inl ⟨by rfl,?_⟩) ?_ ?_
               rotate_left;·intro w';go_simp;with_reducible rfl
               rotate_left;·simp only [Act.put,L_,M_,N_,i64_w,i32_w];rfl
               refine pure_ (i:=14) (N:=some 75) (v:=?_) (a':=?_) #[T,T,T,T,T,T,T,T,T,T,T,T,T,T,T,F,F,F,F,F,F,F,F,F,F,F] rfl rfl (any_of HT_.out (by kernel_rfl)) (fun _ _ _ h=>h) (Or.inl ⟨by rfl,?_⟩) ?_ ?_
               rotate_left;·intro w';go_simp;with_reducible rfl
               rotate_left;·simp only [Act.put,L_,M_,N_,i64_w,i32_w];rfl
               refine pure_ (i:=15) (N:=some 76) (v:=?_) (a':=?_) #[T,T,T,T,T,T,T,T,T,T,T,T,T,T,T,T,F,F,F,F,F,F,F,F,F,F] rfl rfl (any_of HT_.out (by kernel_rfl)) (fun _ _ _ h=>h) (Or.inl ⟨by rfl,?_⟩) ?_ ?_
               rotate_left;·intro w';go_simp;with_reducible rfl
               rotate_left;·simp only [Act.put,L_,M_,N_,i64_w,i32_w];rfl
               refine pure_ (i:=16) (N:=some 77) (v:=?_) (a':=?_) #[T,T,T,T,T,T,T,T,T,T,T,T,T,T,T,T,T,F,F,F,F,F,F,F,F,F] rfl rfl (any_of HT_.out (by kernel_rfl)) (fun _ _ _ h=>h) (Or.inl ⟨by rfl,?_⟩) ?_ ?_
               rotate_left;·intro w';go_simp;with_reducible rfl
               rotate_left;·simp only [Act.put,L_,M_,N_,i64_w,i32_w];rfl
               refine pure_ (i:=17) (N:=some 78) (v:=?_) (a':=?_) #[T,T,T,T,T,T,T,T,T,T,T,T,T,T,T,T,T,T,F,F,F,F,F,F,F,F] rfl rfl (any_of HT_.out (by kernel_rfl)) (fun _ _ _ h=>h) (Or.inl ⟨by rfl,?_⟩) ?_ ?_
               rotate_left;·intro w';go_simp;with_reducible rfl
               rotate_left;·simp only [Act.put,L_,M_,N_,i64_w,i32_w];rfl
               refine pure_ (i:=18) (N:=some 79) (v:=?_) (a':=?_) #[T,T,T,T,T,T,T,T,T,T,T,T,T,T,T,T,T,T,T,F,F,F,F,F,F,F] rfl rfl (any_of HT_.out (by kernel_rfl)) (fun _ _ _ h=>h) (Or.inl ⟨by rfl,?_⟩) ?_ ?_
               rotate_left;·intro w';go_simp;with_reducible rfl
               rotate_left;·simp only [Act.put,L_,M_,N_,i64_w,i32_w];rfl
               refine pure_ (i:=19) (N:=some 80) (v:=?_) (a':=?_) #[T,T,T,T,T,T,T,T,T,T,T,T,T,T,T,T,T,T,T,T,F,F,F,F,F,F] rfl rfl (any_of HT_.out (by kernel_rfl)) (fun _ _ _ h=>h) (Or.inl ⟨by rfl,?_⟩) ?_ ?_
               rotate_left;·intro w';go_simp;with_reducible rfl
               rotate_left;·simp only [Act.put,L_,M_,N_,i64_w,i32_w];rfl
               refine pure_ (i:=20) (N:=some 81) (v:=?_) (a':=?_) #[T,T,T,T,T,T,T,T,T,T,T,T,T,T,T,T,T,T,T,T,T,F,F,F,F,F] rfl rfl (any_of HT_.out (by kernel_rfl)) (fun _ _ _ h=>h) (Or.inl ⟨by rfl,?_⟩) ?_ ?_
               rotate_left;·intro w';go_simp;with_reducible rfl
               rotate_left;·simp only [Act.put,L_,M_,N_,i64_w,i32_w];rfl
               refine pure_ (i:=21) (N:=some 82) (v:=?_) (a':=?_) #[T,T,T,T,T,T,T,T,T,T,T,T,T,T,T,T,T,T,T,T,T,T,F,F,F,F] rfl rfl (any_of HT_.out (by kernel_rfl)) (fun _ _ _ h=>h) (Or.inl ⟨by rfl,?_⟩) ?_ ?_
               rotate_left;·intro w';go_simp;with_reducible rfl
               rotate_left;·simp only [Act.put,L_,M_,N_,i64_w,i32_w];rfl
               refine pure_ (i:=22) (N:=some 83) (v:=undef) (a':=?_) #[T,T,T,T,T,T,T,T,T,T,T,T,T,T,T,T,T,T,T,T,T,T,T,F,F,F] rfl rfl (any_of HT_.out (by kernel_rfl)) (fun _ _ _ h=>h) (Or.inr ⟨by rfl,rfl⟩) ?_ ?_
               rotate_left;·simp only [Act.put,L_,M_,N_,i64_w,i32_w];rfl
               refine pure_ (i:=23) (N:=some 84) (v:=undef) (a':=?_) #[T,T,T,T,T,T,T,T,T,T,T,T,T,T,T,T,T,T,T,T,T,T,T,T,F,F] rfl rfl (any_of HT_.out (by kernel_rfl)) (fun _ _ _ h=>h) (Or.inr ⟨by rfl,rfl⟩) ?_ ?_
               rotate_left;·simp only [Act.put,L_,M_,N_,i64_w,i32_w];rfl
               refine pure_ (i:=24) (N:=some 85) (v:=?_) (a':=?_) #[T,T,T,T,T,T,T,T,T,T,T,T,T,T,T,T,T,T,T,T,T,T,T,T,T,F] rfl rfl (any_of HT_.out (by kernel_rfl)) (fun _ _ _ h=>h) (Or.inl ⟨by rfl,?_⟩) ?_ ?_
               rotate_left;·intro w';go_simp;with_reducible rfl
               rotate_left;·simp only [Act.put,L_,M_,N_,i64_w,i32_w];rfl
               refine pure_ (i:=25) (N:=some 86) (v:=?_) (a':=?_) #[T,T,T,T,T,T,T,T,T,T,T,T,T,T,T,T,T,T,T,T,T,T,T,T,T,T] rfl rfl (any_of HT_.out (by kernel_rfl)) (fun _ _ _ h=>h) (Or.inl ⟨by rfl,?_⟩) ?_ ?_
               rotate_left;·intro w';go_simp;with_reducible rfl
               rotate_left;·simp only [Act.put,L_,M_,N_,i64_w,i32_w];rfl
               refine done_ (done_of HT_.out (by kernel_rfl)) ?_
               try go_wp2
               go_roundg k3
               case measure=>have:=HK1.out;have:=HK2.out;have:=HK3.out;omega
               case rel=>exact ⟨(x8_3),(x9_3),(wrap64 (x13_3 + 1)),(x1001_3),(x1002_3),(x153001_3),(u153001),(by first|rfl|(simp;done)|(simp [*];done)),H',⟨by have:=HK1.out;have:=HK2.out;have:=HK3.out;omega⟩,⟨by (with_reducible repeat (first|apply Kd.R_alloc|apply Kd.R_drewN|apply Kd.R_drew));exact HO_8.out⟩,⟨by (with_reducible repeat (first|apply Kd.R_alloc|apply Kd.R_drewN|apply Kd.R_drew));exact HO_9.out⟩,⟨by (with_reducible repeat (first|apply Kd.R_alloc|apply Kd.R_drewN|apply Kd.R_drew));exact HO_153001.out⟩,⟨bl_ BK145⟩,⟨bl_ BK152⟩,⟨by repeat (first|(with_reducible first|exact HI0.out|apply IsS62.alloc|apply IsS62.drewN|apply IsS62.drew|apply IsS62.set_1|apply IsS62.set_2|refine IsS62.far ?_ (Aside0.out (by assumption)) _)|exact HI0.out)⟩,⟨by repeat (first|(with_reducible first|exact HK.out|apply KeepBut.set_|apply keep_drewN|apply keep_drew|apply keep_alloc|refine keep_far ?_ GW145.out _|refine keep_far ?_ GW152.out _)|exact HK.out)⟩,⟨by repeat (first|(with_reducible first|exact HB.out|apply below_alloc|apply pw_below_drewN|apply below_drew1|refine below_set ?_ (IsS62.ge HI0.out)|refine below_set ?_ (Aside0.out (by assumption)))|exact HB.out)⟩⟩
             ·rw [if_neg c74] at H;have c74b0 : (t153 == 0) = false:=beq_eq_false_iff_ne.mpr c74;have c74b1 : (t153 != 0) = true:=bne_iff_ne.mpr c74;have H':=A_ H;clear H;try go_wp2
              replace HO_8:=A_ (Kd.R_drew HO_8.out);replace HO_9:=A_ (Kd.R_drew HO_9.out);replace HO_153001:=A_ (Kd.R_drew HO_153001.out);replace BK145:=A_ (blk_drew BK145.out);replace BK152:=A_ (blk_drew BK152.out);replace HI0:=A_ (IsS62.drew HI0.out);replace HK:=A_ (keep_drew HK.out);replace HB:=A_ (below_drew1 HB.out);refine start_ (n:=26) (S:=fun w'=>True) (ds:=[]) #[F,F,F,F,F,F,F,F,F,F,F,F,F,F,F,F,F,F,F,F,F,F,F,F,F,F] (by kernel_rfl) rfl rfl trivial (fun hHeld=>?_);refine with_tabW spec_l1Cur_order.tab19 spec_l1Cur_order.bits19 (fun HT_ HW_=>?_)
              generalize wr.drew = w91 at HO_8 HO_9 HO_153001 BK145 BK152 HI0 HK HB hHeld ⊢
              refine pure_ (i:=0) (N:=some 61) (v:=?_) (a':=?_) #[T,F,F,F,F,F,F,F,F,F,F,F,F,F,F,F,F,F,F,F,F,F,F,F,F,F] rfl rfl (any_of HT_.out (by kernel_rfl)) (fun _ _ _ h=>h) (Or.inl ⟨by rfl,?_⟩) ?_ ?_
              rotate_left;·intro w';go_simp;with_reducible rfl
              rotate_left;·simp only [Act.put,L_,M_,N_,i64_w,i32_w];rfl
              refine pure_ (i:=1) (N:=some 62) (v:=?_) (a':=?_) #[T,T,F,F,F,F,F,F,F,F,F,F,F,F,F,F,F,F,F,F,F,F,F,F,F,F] rfl rfl (any_of HT_.out (by kernel_rfl)) (fun _ _ _ h=>h) (Or.inl ⟨by rfl,?_⟩) ?_ ?_
              rotate_left;·intro w';go_simp;with_reducible rfl
              rotate_left;·simp only [Act.put,L_,M_,N_,i64_w,i32_w];rfl
              refine pure_ (i:=2) (N:=some 63) (v:=?_) (a':=?_) #[T,T,T,F,F,F,F,F,F,F,F,F,F,F,F,F,F,F,F,F,F,F,F,F,F,F] rfl rfl (any_of HT_.out (by kernel_rfl)) (fun _ _ _ h=>h) (Or.inl ⟨by rfl,?_⟩) ?_ ?_
              rotate_left;·intro w';go_simp;with_reducible rfl
              rotate_left;·simp only [Act.put,L_,M_,N_,i64_w,i32_w];rfl
              refine pure_ (i:=3) (N:=some 64) (v:=undef) (a':=?_) #[T,T,T,T,F,F,F,F,F,F,F,F,F,F,F,F,F,F,F,F,F,F,F,F,F,F] rfl rfl (any_of HT_.out (by kernel_rfl)) (fun _ _ _ h=>h) (Or.inr ⟨by rfl,rfl⟩) ?_ ?_
              rotate_left;·simp only [Act.put,L_,M_,N_,i64_w,i32_w];rfl
              refine pure_ (i:=4) (N:=some 65) (v:=undef) (a':=?_) #[T,T,T,T,T,F,F,F,F,F,F,F,F,F,F,F,F,F,F,F,F,F,F,F,F,F] rfl rfl (any_of HT_.out (by kernel_rfl)) (fun _ _ _ h=>h) (Or.inr ⟨by rfl,rfl⟩) ?_ ?_
              rotate_left;·simp only [Act.put,L_,M_,N_,i64_w,i32_w];rfl
              refine pure_ (i:=5) (N:=some 66) (v:=undef) (a':=?_) #[T,T,T,T,T,T,F,F,F,F,F,F,F,F,F,F,F,F,F,F,F,F,F,F,F,F] rfl rfl (any_of HT_.out (by kernel_rfl)) (fun _ _ _ h=>h) (Or.inr ⟨by rfl,rfl⟩) ?_ ?_
              rotate_left;·simp only [Act.put,L_,M_,N_,i64_w,i32_w];rfl
              refine pure_ (i:=6) (N:=some 67) (v:=undef) (a':=?_) #[T,T,T,T,T,T,T,F,F,F,F,F,F,F,F,F,F,F,F,F,F,F,F,F,F,F] rfl rfl (any_of HT_.out (by kernel_rfl)) (fun _ _ _ h=>h) (Or.inr ⟨by rfl,rfl⟩) ?_ ?_
              rotate_left;·simp only [Act.put,L_,M_,N_,i64_w,i32_w];rfl
              refine pure_ (i:=7) (N:=some 68) (v:=undef) (a':=?_) #[T,T,T,T,T,T,T,T,F,F,F,F,F,F,F,F,F,F,F,F,F,F,F,F,F,F] rfl rfl (any_of HT_.out (by kernel_rfl)) (fun _ _ _ h=>h) (Or.inr ⟨by rfl,rfl⟩) ?_ ?_
              rotate_left;·simp only [Act.put,L_,M_,N_,i64_w,i32_w];rfl
              refine pure_ (i:=8) (N:=some 69) (v:=undef) (a':=?_) #[T,T,T,T,T,T,T,T,T,F,F,F,F,F,F,F,F,F,F,F,F,F,F,F,F,F] rfl rfl (any_of HT_.out (by kernel_rfl)) (fun _ _ _ h=>h) (Or.inr ⟨by rfl,rfl⟩) ?_ ?_
              rotate_left;·simp only [Act.put,L_,M_,N_,i64_w,i32_w];rfl
              refine pure_ (i:=9) (N:=some 70) (v:=undef) (a':=?_) #[T,T,T,T,T,T,T,T,T,T,F,F,F,F,F,F,F,F,F,F,F,F,F,F,F,F] rfl rfl (any_of HT_.out (by kernel_rfl)) (fun _ _ _ h=>h) (Or.inr ⟨by rfl,rfl⟩) ?_ ?_
              rotate_left;·simp only [Act.put,L_,M_,N_,i64_w,i32_w];rfl
              refine pure_ (i:=10) (N:=some 71) (v:=undef) (a':=?_) #[T,T,T,T,T,T,T,T,T,T,T,F,F,F,F,F,F,F,F,F,F,F,F,F,F,F] rfl rfl (any_of HT_.out (by kernel_rfl)) (fun _ _ _ h=>h) (Or.inr ⟨by rfl,rfl⟩) ?_ ?_
              rotate_left;·simp only [Act.put,L_,M_,N_,i64_w,i32_w];rfl
              refine pure_ (i:=11) (N:=some 72) (v:=undef) (a':=?_) #[T,T,T,T,T,T,T,T,T,T,T,T,F,F,F,F,F,F,F,F,F,F,F,F,F,F] rfl rfl (any_of HT_.out (by kernel_rfl)) (fun _ _ _ h=>h) (Or.inr ⟨by rfl,rfl⟩) ?_ ?_
              rotate_left;·simp only [Act.put,L_,M_,N_,i64_w,i32_w];rfl
              refine pure_ (i:=12) (N:=some 73) (v:=?_) (a':=?_) #[T,T,T,T,T,T,T,T,T,T,T,T,T,F,F,F,F,F,F,F,F,F,F,F,F,F] rfl rfl (any_of HT_.out (by kernel_rfl)) (fun _ _ _ h=>h) (Or.inl ⟨by rfl,?_⟩) ?_ ?_
              rotate_left;·intro w';go_simp;with_reducible rfl
              rotate_left;·simp only [Act.put,L_,M_,N_,i64_w,i32_w];rfl
              refine pure_ (i:=13) (N:=some 74) (v:=?_) (a':=?_) #[T,T,T,T,T,T,T,T,T,T,T,T,T,T,F,F,F,F,F,F,F,F,F,F,F,F] rfl rfl (any_of HT_.out (by kernel_rfl)) (fun _ _ _ h=>h) (Or.inl ⟨by rfl,?_⟩) ?_ ?_
              rotate_left;·intro w';go_simp;with_reducible rfl
              rotate_left;·simp only [Act.put,L_,M_,N_,i64_w,i32_w];rfl
              refine pure_ (i:=14) (N:=some 75) (v:=?_) (a':=?_) #[T,T,T,T,T,T,T,T,T,T,T,T,T,T,T,F,F,F,F,F,F,F,F,F,F,F] rfl rfl (any_of HT_.out (by kernel_rfl)) (fun _ _ _ h=>h) (Or.inl ⟨by rfl,?_⟩) ?_ ?_
              rotate_left;·intro w';go_simp;with_reducible rfl
              rotate_left;·simp only [Act.put,L_,M_,N_,i64_w,i32_w];rfl
              refine pure_ (i:=15) (N:=some 76) (v:=?_) (a':=?_) #[T,T,T,T,T,T,T,T,T,T,T,T,T,T,T,T,F,F,F,F,F,F,F,F,F,F] rfl rfl (any_of HT_.out (by kernel_rfl)) (fun _ _ _ h=>h) (Or.inl ⟨by rfl,?_⟩) ?_ ?_
              rotate_left;·intro w';go_simp;with_reducible rfl
              rotate_left;·simp only [Act.put,L_,M_,N_,i64_w,i32_w];rfl
              refine pure_ (i:=16) (N:=some 77) (v:=?_) (a':=?_) #[T,T,T,T,T,T,T,T,T,T,T,T,T,T,T,T,T,F,F,F,F,F,F,F,F,F] rfl rfl (any_of HT_.out (by kernel_rfl)) (fun _ _ _ h=>h) (Or.inl ⟨by rfl,?_⟩) ?_ ?_
              rotate_left;·intro w';go_simp;with_reducible rfl
              rotate_left;·simp only [Act.put,L_,M_,N_,i64_w,i32_w];rfl
              refine pure_ (i:=17) (N:=some 78) (v:=undef) (a':=?_) #[T,T,T,T,T,T,T,T,T,T,T,T,T,T,T,T,T,T,F,F,F,F,F,F,F,F] rfl rfl (any_of HT_.out (by kernel_rfl)) (fun _ _ _ h=>h) (Or.inr ⟨by rfl,rfl⟩) ?_ ?_
              rotate_left;·simp only [Act.put,L_,M_,N_,i64_w,i32_w];rfl
              refine pure_ (i:=18) (N:=some 79) (v:=undef) (a':=?_) #[T,T,T,T,T,T,T,T,T,T,T,T,T,T,T,T,T,T,T,F,F,F,F,F,F,F] rfl rfl (any_of HT_.out (by kernel_rfl)) (fun _ _ _ h=>h) (Or.inr ⟨by rfl,rfl⟩) ?_ ?_
              rotate_left;·simp only [Act.put,L_,M_,N_,i64_w,i32_w];rfl
              refine pure_ (i:=19) (N:=some 80) (v:=undef) (a':=?_) #[T,T,T,T,T,T,T,T,T,T,T,T,T,T,T,T,T,T,T,T,F,F,F,F,F,F] rfl rfl (any_of HT_.out (by kernel_rfl)) (fun _ _ _ h=>h) (Or.inr ⟨by rfl,rfl⟩) ?_ ?_
              rotate_left;·simp only [Act.put,L_,M_,N_,i64_w,i32_w];rfl
              refine pure_ (i:=20) (N:=some 81) (v:=?_) (a':=?_) #[T,T,T,T,T,T,T,T,T,T,T,T,T,T,T,T,T,T,T,T,T,F,F,F,F,F] rfl rfl (any_of HT_.out (by kernel_rfl)) (fun _ _ _ h=>h) (Or.inl ⟨by rfl,?_⟩) ?_ ?_
              rotate_left;·intro w';go_simp;with_reducible rfl
              rotate_left;·simp only [Act.put,L_,M_,N_,i64_w,i32_w];rfl
              refine pure_ (i:=21) (N:=some 82) (v:=?_) (a':=?_) #[T,T,T,T,T,T,T,T,T,T,T,T,T,T,T,T,T,T,T,T,T,T,F,F,F,F] rfl rfl (any_of HT_.out (by kernel_rfl)) (fun _ _ _ h=>h) (Or.inl ⟨by rfl,?_⟩) ?_ ?_
              rotate_left;·intro w';go_simp;with_reducible rfl
              rotate_left;·simp only [Act.put,L_,M_,N_,i64_w,i32_w];rfl
              refine pure_ (i:=22) (N:=some 83) (v:=undef) (a':=?_) #[T,T,T,T,T,T,T,T,T,T,T,T,T,T,T,T,T,T,T,T,T,T,T,F,F,F] rfl rfl (any_of HT_.out (by kernel_rfl)) (fun _ _ _ h=>h) (Or.inr ⟨by rfl,rfl⟩) ?_ ?_
              rotate_left;·simp only [Act.put,L_,M_,N_,i64_w,i32_w];rfl
              refine pure_ (i:=23) (N:=some 84) (v:=undef) (a':=?_) #[T,T,T,T,T,T,T,T,T,T,T,T,T,T,T,T,T,T,T,T,T,T,T,T,F,F] rfl rfl (any_of HT_.out (by kernel_rfl)) (fun _ _ _ h=>h) (Or.inr ⟨by rfl,rfl⟩) ?_ ?_
              rotate_left;·simp only [Act.put,L_,M_,N_,i64_w,i32_w];rfl
              refine pure_ (i:=24) (N:=some 85) (v:=?_) (a':=?_) #[T,T,T,T,T,T,T,T,T,T,T,T,T,T,T,T,T,T,T,T,T,T,T,T,T,F] rfl rfl (any_of HT_.out (by kernel_rfl)) (fun _ _ _ h=>h) (Or.inl ⟨by rfl,?_⟩) ?_ ?_
              rotate_left;·intro w';go_simp;with_reducible rfl
              rotate_left;·simp only [Act.put,L_,M_,N_,i64_w,i32_w];rfl
              refine pure_ (i:=25) (N:=some 86) (v:=?_) (a':=?_) #[T,T,T,T,T,T,T,T,T,T,T,T,T,T,T,T,T,T,T,T,T,T,T,T,T,T] rfl rfl (any_of HT_.out (by kernel_rfl)) (fun _ _ _ h=>h) (Or.inl ⟨by rfl,?_⟩) ?_ ?_
              rotate_left;·intro w';go_simp;with_reducible rfl
              rotate_left;·simp only [Act.put,L_,M_,N_,i64_w,i32_w];rfl
              refine done_ (done_of HT_.out (by kernel_rfl)) ?_
              try go_wp2
              go_roundg k3
              case measure=>have:=HK1.out;have:=HK2.out;have:=HK3.out;omega
              case rel=>exact ⟨(x8_3),(x9_3),(wrap64 (x13_3 + 1)),(x1001_3),(x1002_3),(x153001_3),(u153001),(by first|rfl|(simp;done)|(simp [*];done)),H',⟨by have:=HK1.out;have:=HK2.out;have:=HK3.out;omega⟩,⟨by (with_reducible repeat (first|apply Kd.R_alloc|apply Kd.R_drewN|apply Kd.R_drew));exact HO_8.out⟩,⟨by (with_reducible repeat (first|apply Kd.R_alloc|apply Kd.R_drewN|apply Kd.R_drew));exact HO_9.out⟩,⟨by (with_reducible repeat (first|apply Kd.R_alloc|apply Kd.R_drewN|apply Kd.R_drew));exact HO_153001.out⟩,⟨bl_ BK145⟩,⟨bl_ BK152⟩,⟨by repeat (first|(with_reducible first|exact HI0.out|apply IsS62.alloc|apply IsS62.drewN|apply IsS62.drew|apply IsS62.set_1|apply IsS62.set_2|refine IsS62.far ?_ (Aside0.out (by assumption)) _)|exact HI0.out)⟩,⟨by repeat (first|(with_reducible first|exact HK.out|apply KeepBut.set_|apply keep_drewN|apply keep_drew|apply keep_alloc|refine keep_far ?_ GW145.out _|refine keep_far ?_ GW152.out _)|exact HK.out)⟩,⟨by repeat (first|(with_reducible first|exact HB.out|apply below_alloc|apply pw_below_drewN|apply below_drew1|refine below_set ?_ (IsS62.ge HI0.out)|refine below_set ?_ (Aside0.out (by assumption)))|exact HB.out)⟩⟩
           ·rw [if_neg c32] at H;have c32b0 : decide (x13_3 < t146) = false:=decide_eq_false c32;clear c32;have H':=A_ H;clear H;go_wp2
            go_roundg k3
            case measure=>have:=HK1.out;have:=HK2.out;have:=HK3.out;omega
            case rel=>exact ⟨(x8_3),(x9_3),(wrap64 (x12_2 + 1)),(x1001_3),(x1002_3),(x153001_3),(u153001),(by first|rfl|(simp;done)|(simp [*];done)),H',⟨by have:=HK1.out;have:=HK2.out;have:=HK3.out;omega⟩,⟨by (with_reducible repeat (first|apply Kd.R_alloc|apply Kd.R_drewN|apply Kd.R_drew));exact HO_8.out⟩,⟨by (with_reducible repeat (first|apply Kd.R_alloc|apply Kd.R_drewN|apply Kd.R_drew));exact HO_9.out⟩,⟨by (with_reducible repeat (first|apply Kd.R_alloc|apply Kd.R_drewN|apply Kd.R_drew));exact HO_153001.out⟩,⟨bl_ BK145⟩,⟨bl_ BK152⟩,⟨by repeat (first|(with_reducible first|exact HI0.out|apply IsS62.alloc|apply IsS62.drewN|apply IsS62.drew|apply IsS62.set_1|apply IsS62.set_2|refine IsS62.far ?_ (Aside0.out (by assumption)) _)|exact HI0.out)⟩,⟨by repeat (first|(with_reducible first|exact HK.out|apply KeepBut.set_|apply keep_drewN|apply keep_drew|apply keep_alloc|refine keep_far ?_ GW145.out _|refine keep_far ?_ GW152.out _)|exact HK.out)⟩,⟨by repeat (first|(with_reducible first|exact HB.out|apply below_alloc|apply pw_below_drewN|apply below_drew1|refine below_set ?_ (IsS62.ge HI0.out)|refine below_set ?_ (Aside0.out (by assumption)))|exact HB.out)⟩⟩
        ·rw [if_neg c31] at H;have c31b0 : decide (x12_2 < t146) = false:=decide_eq_false c31;clear c31;by_cases c92 : t153 > 0
         ·rw [if_pos c92] at H;have c92b0 : decide (0 < t153) = true:=decide_eq_true c92;clear c92;simp only [Option.some.injEq,Prod.mk.injEq] at H
          obtain ⟨rfl,rfl,rfl,rfl⟩:=H;have hnb93:=NB152_145.out;have hnc93:=NB145_152.out;have hnb94:=NB152_0.out;have hnc94:=NB0_152.out;have hcz95_0 : wr.cell? ⟨gb152,0,none⟩ = some (.int .i64 t146):=blk_cell BK152.out 0;have hcz95_1 : wr.cell? ⟨gb152,1,none⟩ = some (u153001):=blk_cell BK152.out 1;have hfz95_0:=blk_frozen BK152.out 0;have hfz95_1:=blk_frozen BK152.out 1;have hnb96:=NB145_0.out;have hnc96:=NB0_145.out;have hcz97_0 : wr.cell? ⟨gb145,0,none⟩ = some (.int .i64 0):=blk_cell BK145.out 0;have hcz97_1 : wr.cell? ⟨gb145,1,none⟩ = some (.slice none 0 0):=blk_cell BK145.out 1;have hfz97_0:=blk_frozen BK145.out 0;have hfz97_1:=blk_frozen BK145.out 1;obtain ⟨Ao98,co98,eo98⟩:=Kd.R_slice HO_153001.out;subst eo98;go_wp2
          refine bodyPost_ret (results_cell_row rfl _ _ gb145 26 #[.int .i64 t146,.slice Ao98 x153001_2.length co98] (0,0) _ rfl (by (with_reducible repeat (first|refine blk_drewN ?_ _|refine blk_drew ?_|refine blk_alloc ?_ _));refine blk_put (cs:=#[.int .i64 t146,.slice none 0 0]) ?_ 1 _ rfl;(with_reducible repeat (first|refine blk_drewN ?_ _|refine blk_drew ?_|refine blk_alloc ?_ _));refine blk_put (cs:=#[.int .i64 0,.slice none 0 0]) ?_ 0 _ rfl;(with_reducible repeat (first|refine blk_drewN ?_ _|refine blk_drew ?_|refine blk_alloc ?_ _));exact BK145.out) Tryd.underlying26 rfl (by kernel_rfl)) rfl ?_
          exact ⟨_,by first|rfl|(simp [errW_none,errW_some] <;> rfl)|(simp [*,errW_none,errW_some] <;> rfl),by (with_reducible repeat (first|apply Kd.R_alloc|apply Kd.R_drewN|apply Kd.R_drew));exact Kd.R_mono (Kd.R_far (p:=⟨gb145,1,none⟩) (Kd.R_far (p:=⟨gb145,0,none⟩) (Kd.R_types HO_153001.out BK145.out (by decide)) (fun _ hk=>hk.2) (.int .i64 t146)) (fun _ hk=>hk.2) (.slice Ao98 x153001_2.length co98)) (fun _ hk=>trivial),by repeat (first|(with_reducible first|exact HI0.out|apply IsS62.alloc|apply IsS62.drewN|apply IsS62.drew|apply IsS62.set_1|apply IsS62.set_2|refine IsS62.far ?_ (Aside0.out (by assumption)) _)|exact HI0.out),by repeat (first|(with_reducible first|exact HB.out|apply below_alloc|apply pw_below_drewN|apply below_drew1|refine below_set ?_ (IsS62.ge HI0.out)|refine below_set ?_ (Aside0.out (by assumption)))|exact HB.out),by repeat (first|(with_reducible first|exact HK.out|apply KeepBut.set_|apply keep_drewN|apply keep_drew|apply keep_alloc|refine keep_far ?_ GW145.out _|refine keep_far ?_ GW152.out _)|exact HK.out)⟩
         ·rw [if_neg c92] at H;have c92b0 : decide (0 < t153) = false:=decide_eq_false c92;clear c92;replace H:=Option.bind_eq_some_iff.mp H;obtain ⟨⟨t171,t172,t175⟩,A990,H⟩:=H;replace H : (some (t171,t172,x1001_2,x1002_2)) = some (r1,r2,r3,r4):=H;have A99:=A_ A990;clear A990;simp only [Option.some.injEq,Prod.mk.injEq] at H
          obtain ⟨rfl,rfl,rfl,rfl⟩:=H;have hnb100:=NB152_145.out;have hnc100:=NB145_152.out;have hnb101:=NB152_0.out;have hnc101:=NB0_152.out;have hcz102_0 : wr.cell? ⟨gb152,0,none⟩ = some (.int .i64 t146):=blk_cell BK152.out 0;have hcz102_1 : wr.cell? ⟨gb152,1,none⟩ = some (u153001):=blk_cell BK152.out 1;have hfz102_0:=blk_frozen BK152.out 0;have hfz102_1:=blk_frozen BK152.out 1;obtain ⟨Ao103,co103,eo103⟩:=Kd.R_slice HO_153001.out;subst eo103;go_wp2_with (first|((with_reducible refine gate_callee (f:=12) rfl ?_);refine goesL_ (some 101) rfl rfl Tryd.func12 (by kernel_rfl) rfl #[.agg #[.int .i64 t146,.slice Ao103 x153001_2.length co103]] rfl au_ ?_;(with_reducible refine (spec_CloseRelation.calls k2 t146 _ _ x153001_2 t171 t172 t175 _ ?side1 ?side2 A99.out).mono ?_);(case side1=>exact cl_ (Kd.R_reads' HO_153001.out).2.2);(case side2=>exact (Kd.R_reads' HO_153001.out).2.1);rintro e w104 ⟨v173,rfl,ho0,hb⟩;refine ⟨_,rfl,?_⟩;have HO174:=A_ (Kd.R_lower (Kd.R_new' (Kd.R_new' (Kd.R_new' ho0 (Kd.R_lt (rl_ HO_8))) (Kd.R_lt (rl_ HO_9))) (Kd.R_lt (rl_ HO_153001))) (keep_size (w:=w) (g:=g) (row:=none) (by repeat (with_reducible first|exact HK.out|apply KeepBut.set_|apply keep_drewN|apply keep_drew|apply keep_alloc|refine keep_far ?_ GW145.out _|refine keep_far ?_ GW152.out _))));replace HO_8:=A_ (Kd.R_elder' (rl_ HO_8) (Kd.R_base ho0) hb);replace HO_9:=A_ (Kd.R_elder' (rl_ HO_9) (Kd.R_base ho0) hb);replace HO_153001:=A_ (Kd.R_elder' (rl_ HO_153001) (Kd.R_base ho0) hb);replace BK145:=bz BK145 hb;replace BK152:=bz BK152 hb;replace HK:=A_ (KeepBut.trans (by repeat (with_reducible first|exact HK.out|apply KeepBut.set_|apply keep_drewN|apply keep_drew|apply keep_alloc|refine keep_far ?_ GW145.out _|refine keep_far ?_ GW152.out _)) (KeepBut.of_below hb g none) (.inl rfl));replace HB:=A_ (below_step (by repeat (with_reducible first|exact HB.out|apply below_alloc|apply pw_below_drewN|apply below_drew1|refine below_set ?_ (IsS62.ge HI0.out)|refine below_set ?_ (Aside0.out (by assumption)))) hb);replace HI0:=A_ (IsS62.below (by repeat (first|(with_reducible first|exact HI0.out|apply IsS62.alloc|apply IsS62.drewN|apply IsS62.drew|apply IsS62.set_1|apply IsS62.set_2|refine IsS62.far ?_ (Aside0.out (by assumption)) _)|exact HI0.out)) hb);(try clear hb);(try clear hb2);(try clear hk);(try clear hi);(try clear ho0))|((with_reducible refine gate_dst (N:=14) rfl ?_);refine box_event ?hg (N:=14) ?hd (cs:=#[.int .i64 0,.slice none 0 0]) (t:=26) ?hr ?_;(case hd=>rfl);(case hg=>rfl);(case hr=>first|(go_simp;done)|(go_simp;rfl));intro gb176 hg w105 hbox hb;replace HO_8:=rb_ HO_8 hb;replace HO_9:=rb_ HO_9 hb;replace HO_153001:=rb_ HO_153001 hb;replace HO174:=rb_ HO174 hb;replace HB:=A_ (below_step (by repeat (with_reducible first|exact HB.out|apply below_alloc|apply pw_below_drewN|apply below_drew1|refine below_set ?_ (IsS62.ge HI0.out)|refine below_set ?_ (Aside0.out (by assumption)))) hb);have BK176:=A_ (hbox);have GW176:=A_ ((by rw [hg];exact (keep_size (w:=w) (g:=g) (row:=none) (by repeat (with_reducible first|exact HK.out|apply KeepBut.set_|apply keep_drewN|apply keep_drew|apply keep_alloc|refine keep_far ?_ GW145.out _|refine keep_far ?_ GW152.out _))) : w.heap.size ≤ gb176));have GE176:=A_ ((Nat.le_trans HW0.out (by rw [hg];exact (keep_size (w:=w) (g:=g) (row:=none) (by repeat (with_reducible first|exact HK.out|apply KeepBut.set_|apply keep_drewN|apply keep_drew|apply keep_alloc|refine keep_far ?_ GW145.out _|refine keep_far ?_ GW152.out _))) : w.heap.size ≤ gb176) : w0.heap.size ≤ gb176));replace HK:=A_ (KeepBut.trans (by repeat (with_reducible first|exact HK.out|apply KeepBut.set_|apply keep_drewN|apply keep_drew|apply keep_alloc|refine keep_far ?_ GW145.out _|refine keep_far ?_ GW152.out _)) (KeepBut.of_below hb g none) (.inl rfl));have NB145_176:=A_ ((by rw [hg];exact Nat.ne_of_lt (blk_lt (bl_ BK145)) : gb145 ≠ gb176));have NB176_145:=A_ ((by rw [hg];exact Nat.ne_of_gt (blk_lt (bl_ BK145)) : gb176 ≠ gb145));replace BK145:=bz BK145 hb;have NB152_176:=A_ ((by rw [hg];exact Nat.ne_of_lt (blk_lt (bl_ BK152)) : gb152 ≠ gb176));have NB176_152:=A_ ((by rw [hg];exact Nat.ne_of_gt (blk_lt (bl_ BK152)) : gb176 ≠ gb152));replace BK152:=bz BK152 hb;have NB0_176:=A_ ((by rw [hg];exact Nat.ne_of_lt (IsS62.lt (show IsS62 w0 _ g s0_0 x1001_2 x1002_2 from by repeat (first|(with_reducible first|exact HI0.out|apply IsS62.alloc|apply IsS62.drewN|apply IsS62.drew|apply IsS62.set_1|apply IsS62.set_2|refine IsS62.far ?_ (Aside0.out (by assumption)) _)|exact HI0.out))) : g ≠ gb176));have NB176_0:=A_ ((by rw [hg];exact Nat.ne_of_gt (IsS62.lt (show IsS62 w0 _ g s0_0 x1001_2 x1002_2 from by repeat (first|(with_reducible first|exact HI0.out|apply IsS62.alloc|apply IsS62.drewN|apply IsS62.drew|apply IsS62.set_1|apply IsS62.set_2|refine IsS62.far ?_ (Aside0.out (by assumption)) _)|exact HI0.out))) : gb176 ≠ g));replace HI0:=A_ (IsS62.below (by repeat (first|(with_reducible first|exact HI0.out|apply IsS62.alloc|apply IsS62.drewN|apply IsS62.drew|apply IsS62.set_1|apply IsS62.set_2|refine IsS62.far ?_ (Aside0.out (by assumption)) _)|exact HI0.out)) hb);clear hb hbox hg;have hnb106:=NB176_145.out;have hnc106:=NB145_176.out;have hnb107:=NB176_152.out;have hnc107:=NB152_176.out;have hnb108:=NB176_0.out;have hnc108:=NB0_176.out;have hcz109_0 : w105.cell? ⟨gb176,0,none⟩ = some (.int .i64 0):=blk_cell BK176.out 0;have hcz109_1 : w105.cell? ⟨gb176,1,none⟩ = some (.slice none 0 0):=blk_cell BK176.out 1;have hfz109_0:=blk_frozen BK176.out 0;have hfz109_1:=blk_frozen BK176.out 1;obtain ⟨Ao110,co110,eo110⟩:=Kd.R_slice HO174.out;subst eo110;have hnb111:=NB145_0.out;have hnc111:=NB0_145.out;have hcz112_0 : w105.cell? ⟨gb145,0,none⟩ = some (.int .i64 0):=blk_cell BK145.out 0;have hcz112_1 : w105.cell? ⟨gb145,1,none⟩ = some (.slice none 0 0):=blk_cell BK145.out 1;have hfz112_0:=blk_frozen BK145.out 0;have hfz112_1:=blk_frozen BK145.out 1))
          refine bodyPost_ret (results_cell_row rfl _ _ gb145 26 #[.int .i64 t171,.slice Ao110 t172.length co110] (0,0) _ rfl (by (with_reducible repeat (first|refine blk_drewN ?_ _|refine blk_drew ?_|refine blk_alloc ?_ _));refine blk_put (cs:=#[.int .i64 t171,.slice none 0 0]) ?_ 1 _ rfl;(with_reducible repeat (first|refine blk_drewN ?_ _|refine blk_drew ?_|refine blk_alloc ?_ _));refine blk_put (cs:=#[.int .i64 0,.slice none 0 0]) ?_ 0 _ rfl;(with_reducible repeat (first|refine blk_drewN ?_ _|refine blk_drew ?_|refine blk_alloc ?_ _));refine blk_far ?_ NB145_176.out _;(with_reducible repeat (first|refine blk_drewN ?_ _|refine blk_drew ?_|refine blk_alloc ?_ _));refine blk_far ?_ NB145_176.out _;(with_reducible repeat (first|refine blk_drewN ?_ _|refine blk_drew ?_|refine blk_alloc ?_ _));exact BK145.out) Tryd.underlying26 rfl (by kernel_rfl)) rfl ?_
          exact ⟨_,by first|rfl|(simp [errW_none,errW_some] <;> rfl)|(simp [*,errW_none,errW_some] <;> rfl),by (with_reducible repeat (first|apply Kd.R_alloc|apply Kd.R_drewN|apply Kd.R_drew));exact Kd.R_mono (Kd.R_far (p:=⟨gb145,1,none⟩) (Kd.R_far (p:=⟨gb145,0,none⟩) (Kd.R_far (p:=⟨gb176,1,none⟩) (Kd.R_far (p:=⟨gb176,0,none⟩) (Kd.R_types (Kd.R_types HO174.out BK176.out (by decide)) BK145.out (by decide)) (fun _ hk=>hk.1.2) (.int .i64 t171)) (fun _ hk=>hk.1.2) (.slice Ao110 t172.length co110)) (fun _ hk=>hk.2) (.int .i64 t171)) (fun _ hk=>hk.2) (.slice Ao110 t172.length co110)) (fun _ hk=>trivial),by repeat (first|(with_reducible first|exact HI0.out|apply IsS62.alloc|apply IsS62.drewN|apply IsS62.drew|apply IsS62.set_1|apply IsS62.set_2|refine IsS62.far ?_ (Aside0.out (by assumption)) _)|exact HI0.out),by repeat (first|(with_reducible first|exact HB.out|apply below_alloc|apply pw_below_drewN|apply below_drew1|refine below_set ?_ (IsS62.ge HI0.out)|refine below_set ?_ (Aside0.out (by assumption)))|exact HB.out),by repeat (first|(with_reducible first|exact HK.out|apply KeepBut.set_|apply keep_drewN|apply keep_drew|apply keep_alloc|refine keep_far ?_ GW145.out _|refine keep_far ?_ GW152.out _|refine keep_far ?_ GW176.out _)|exact HK.out)⟩
  ·rw [if_neg c5] at H;exact absurd H (by simp)
 ·rw [if_neg c4] at H;exact absurd H (by simp)
end Go.Proofs.YtfjpilcmjabikaaDoor.P

