/- A part of the proof that the law FnThresholds holds at every input. Written by wip/pack.py: the kit's printed words that are used, the functions' walks as wip/gen.py prints them, and hand proofs. -/
import Derived.Test.YtfjpilcmjabikaaDoorKFnThresholds0
namespace Go.Proofs.YtfjpilcmjabikaaDoor.P
open Go.RowKit Go.Proofs.YtfjpilcmjabikaaDoorW.PrintWords Go.Proofs.YtfjpilcmjabikaaDoorW.PrintLast Go.Proofs.YtfjpilcmjabikaaDoorW.PrintMore
open Bool renaming true → T, false → F
open List renaming setIfInBounds_toArray → L_, set_cons_zero → M_, set_cons_succ → N_, map_toArray → P_, map_cons → Q_, map_nil → R_, length_drop → S_, length_take → U_
open Aside0 renaming mk → A_
attribute [local go_sem] max2_int min2_int max_two min_two max_three min_three max_four min_four
set_option linter.unusedVariables false
set_option linter.unusedSimpArgs false
attribute [local go_sem] fldOrder_0 fldOrder_1
mutual
def Aag.l0 : Nat → Int → Int → Int → List Int → Option (Int × List Int × Bool)
 | 0,_,_,_,_=>none
 | k + 1,x19,x20,x140000,x140001=>if x20 < x19 then (Aag.l1 k x20 x19 x20 (x140001.length : Int) 0 x140000 x140001) else (some (x140000,x140001,true))
def Aag.l1 : Nat → Int → Int → Int → Int → Int → Int → List Int → Option (Int × List Int × Bool)
 | 0,_,_,_,_,_,_,_=>none
 | k + 1,x5,x19,x20,x25,x26,x140000,x140001=>if x26 < x25 then (if 0 ≤ x26 then (if x26 < (x140001.length : Int) then ((Aa8.f (rd x140001 x26) x5).bind fun t141=>(if t141 = true then (if 0 ≤ x5 then (if x5 < (x140001.length : Int) then (Aag.l1 k x5 x19 x20 x25 (wrap64 (x26 + 1)) x140000 (x140001.set (x26 : Int).toNat (Go.bits .or .i64 (rd x140001 x26) (rd x140001 x5)))) else (none)) else (none)) else (Aag.l1 k x5 x19 x20 x25 (wrap64 (x26 + 1)) x140000 x140001))) else (none)) else (none)) else (Aag.l0 k x19 (wrap64 (x20 + 1)) x140000 x140001)
end
def Aag.f (k : Nat) (a0_0 : Int) (l0_1 : List Int) : Option (Int × List Int × Bool) := (Abj.f k a0_0 l0_1).bind fun t135 => (if t135 = true then ((Abz.f l0_1).bind fun t136 => (Aag.l0 k (t136.length : Int) 0 a0_0 t136)) else (some (0, ([] : List Int), false)))
def Aag.T3 : Bool × List (List Nat × List Nat) := (true, [([], []), ([0], [0]), ([], []), ([2], [2]), ([3], [3]), ([1, 4], [1, 4]), ([], []), ([6, 5, 4, 0, 1, 2, 3, 4, 5, 6], [5, 6])])
def Aag.B3 : List Nat := [0, 1, 0, 4, 12, 31, 0, 127]
theorem Aag.tab3 : rtab .any (opsOf Tryd.f12 3) = Aag.T3:=by kernel_rfl
theorem Aag.bits3 : waitsOk Aag.T3.2 Aag.B3 = true:=by kernel_rfl
def Aag.T11 : Bool × List (List Nat × List Nat) := (true, [([], []), ([0], [0]), ([], []), ([1, 2], [1, 2]), ([3], [3]), ([], []), ([5], [5]), ([], []), ([6, 7], [6, 7]), ([8], [8]), ([4, 9], [4, 9]), ([1, 2, 0, 1, 2, 3, 4, 5, 6, 7, 8, 9, 10], [1, 2]), ([11, 10, 0, 1, 2, 3, 4, 5, 6, 7, 8, 9, 10], [10, 11])])
def Aag.B11 : List Nat := [0, 1, 0, 7, 15, 0, 32, 0, 224, 480, 1023, 2047, 4095]
theorem Aag.tab11 : rtab .any (opsOf Tryd.f12 11) = Aag.T11:=by kernel_rfl
theorem Aag.bits11 : waitsOk Aag.T11.2 Aag.B11 = true:=by kernel_rfl
set_option maxHeartbeats 8000000 in
set_option maxRecDepth 100000 in
theorem Aag.calls (k : Nat) (a0_0 : Int) (A0_1 : Option Addr) (c0_1 : Nat) (l0_1 : List Int) (r1 : Int) (r2 : List Int) (r3 : Bool) (w : World) (hr0_1 : Kd.C (Kd.int .i64) w A0_1 l0_1.length l0_1) (hc0_1 : l0_1.length ≤ c0_1) (h : Aag.f k a0_0 l0_1 = some (r1,r2,r3)) :
 Calls Tryd.prog 12 #[.agg #[.int .i64 a0_0,.slice A0_1 l0_1.length c0_1]] w fun e w'=>∃ v1_ : Value,e = .returned (.tuple #[.agg #[.int .i64 r1,v1_],.bool r3]) ∧ Kd.R (Kd.int .i64) 3 w' w.heap.size (fun _=>True) v1_ r2 ∧ Below w.heap.size w w':=by
 have hu26:=Tryd.underlying26;have HR0_1:=A_ hr0_1;have HC0_1:=A_ hc0_1;clear hr0_1 hc0_1;have HB:=A_ (Below.refl w.heap.size w);have H : ((Abj.f k a0_0 l0_1).bind fun Bb=>(if Bb = true then ((Abz.f l0_1).bind fun Aj=>(Aag.l0 k (Aj.length : Int) 0 a0_0 Aj)) else (some (0,([] : List Int),false)))) = some (r1,r2,r3):=h;clear h;replace H:=Option.bind_eq_some_iff.mp H;obtain ⟨Bb,A20,H⟩:=H;replace H : (if Bb = true then ((Abz.f l0_1).bind fun Aj=>(Aag.l0 k (Aj.length : Int) 0 a0_0 Aj)) else (some (0,([] : List Int),false))) = some (r1,r2,r3):=H;have A2:=A_ A20;clear A20;by_cases c3 : Bb = true
 ·subst c3;have H1 : ((Abz.f l0_1).bind fun Aj=>(Aag.l0 k (Aj.length : Int) 0 a0_0 Aj)) = some (r1,r2,r3):=by rw [if_pos rfl] at H;exact H
  clear H;have H:=H1;clear H1;replace H:=Option.bind_eq_some_iff.mp H;obtain ⟨Aj,A40,H⟩:=H;replace H : (Aag.l0 k (Aj.length : Int) 0 a0_0 Aj) = some (r1,r2,r3):=H;have A4:=A_ A40;clear A40;have H':=A_ H;clear H;go_enter Tryd.func12,Tryd.ntmps12
  try go_wp2_with (first|((with_reducible refine gate_dst (N:=1) rfl ?_);refine box_event ?hg (N:=1) ?hd (cs:=#[.int .i64 a0_0,.slice A0_1 l0_1.length c0_1]) (t:=26) ?hr ?_;(case hd=>rfl);(case hg=>rfl);(case hr=>go_simp;try rfl);intro Am hg w5 hbox hb;have Ab:=A_ (hbox);have Bl:=A_ (gw_ (w:=w) hg bb_);have Bm:=A_ (gw_ (w:=w) hg bb_);replace HB:=A_ (below_step bb_ hb);clear hb hbox hg)|((with_reducible refine gate_dst (N:=2) rfl ?_);refine box_event ?hg (N:=2) ?hd (cs:=#[.int .i64 0,.slice none 0 0]) (t:=26) ?hr ?_;(case hd=>rfl);(case hg=>rfl);(case hr=>go_simp;try rfl);intro An hg w6 hbox hb;have Ac:=A_ (hbox);have Bn:=A_ (gw_ (w:=w) hg bb_);have Bo:=A_ (gw_ (w:=w) hg bb_);replace HB:=A_ (below_step bb_ hb);have Aq:=A_ (nl_ hg Ab);have Ar:=A_ (ng_ hg Ab);replace Ab:=bz Ab hb;clear hb hbox hg;have Z:=Aq.1;have Z:=Ar.1;obtain ⟨Z,Z,Z,Z⟩:=o2_ Ab.1)|((with_reducible refine gate_callee (f:=63) rfl ?_);refine goesL_ (some 8) rfl rfl Tryd.func63 (by kernel_rfl) rfl #[.agg #[.int .i64 a0_0,.slice A0_1 l0_1.length c0_1]] rfl au_ ?_;(with_reducible refine (Abj.calls k a0_0 _ _ l0_1 true _ ?side1 ?side2 A2.1).mono ?_);(case side1=>exact cl_ (Kd.C_below HR0_1.1 HB.1));(case side2=>exact HC0_1.1);rintro e w9 ⟨rfl,hb⟩;refine ⟨_,rfl,?_⟩;replace Ab:=bz Ab hb;replace Ac:=bz Ac hb;replace HB:=A_ (below_step bb_ hb);(try clear hb);(try clear hb2);(try clear hk);(try clear hi)))
  replace Ab:=A_ (blk_drew Ab.1);replace Ac:=A_ (blk_drew Ac.1);replace HB:=A_ (below_drew1 HB.1);refine start_ (n:=8) (S:=fun w'=>w'.cell? ⟨Am,0,none⟩ = some (.int .i64 a0_0) ∧ w'.cell? ⟨Am,1,none⟩ = some (.slice A0_1 l0_1.length c0_1)) (ds:=[]) #[F,F,F,F,F,F,F,F] (by kernel_rfl) rfl rfl ⟨blk_cell Ab.1 0,blk_cell Ab.1 1⟩ (fun hHeld=>?_);refine with_tabW Aag.tab3 Aag.bits3 (fun HT_ HW_=>?_)
  generalize w9.drew = w10 at Ab Ac HB hHeld ⊢
  refine pu_ (i:=0) (N:=11) #[T,F,F,F,F,F,F,F] HT_.1 rfl rfl (fun _ _ _ h=>h) rfl (h:=?_)
  refine pu_ (i:=2) (N:=13) #[T,F,T,F,F,F,F,F] HT_.1 rfl rfl (fun _ _ _ h=>h) rfl (h:=?_)
  refine take_ (i:=1) (N:=some 12) (v:=?_) (a':=?_) #[T,T,T,F,F,F,F,F] rfl rfl (take_ofW HT_.1 HW_.1 (by kernel_rfl)) (fun _ _ _ h=>h) (Or.inl ⟨by rfl,?_⟩) hHeld ?_ ?_
  rotate_left
  ·rintro w' ⟨s0,s1⟩
   go_simp
   with_reducible rfl
  rotate_left;·simp only [Act.put,L_,M_,N_,i64_w,i32_w];rfl
  refine take_ (i:=3) (N:=some 14) (v:=?_) (a':=?_) #[T,T,T,T,F,F,F,F] rfl rfl (take_ofW HT_.1 HW_.1 (by kernel_rfl)) (fun _ _ _ h=>h) (Or.inl ⟨by rfl,?_⟩) hHeld ?_ ?_
  rotate_left
  ·rintro w' ⟨s0,s1⟩
   go_simp
   with_reducible rfl
  rotate_left;·simp only [Act.put,L_,M_,N_,i64_w,i32_w];rfl
  refine join_ (σ:=Value × Nat) 1 #[T,T,T,T,T,T,T,F] (fun s_=>[(15,s_.1),(4,.pointer (some ⟨s_.2,0,none⟩)),(16,.agg #[.int .i64 a0_0,s_.1])]) (fun s_ w'=>(w'.cell? ⟨Am,0,none⟩ = some (.int .i64 a0_0) ∧ w'.cell? ⟨Am,1,none⟩ = some (.slice A0_1 l0_1.length c0_1)) ∧ (Kd.R (Kd.int .i64) 3 w' w.heap.size (fun _=>True) s_.1 Aj) ∧ (w'.heap[Am]? = some (.cells #[.int .i64 a0_0,.slice A0_1 l0_1.length c0_1] 26 (0,0))) ∧ (w'.heap[An]? = some (.cells #[.int .i64 0,.slice none 0 0] 26 (0,0))) ∧ (w'.heap[s_.2]? = some (.cells #[.int .i64 0,.slice none 0 0] 26 (0,0))) ∧ (w.heap.size ≤ s_.2) ∧ (w.heap.size ≤ s_.2) ∧ (Am ≠ s_.2) ∧ (s_.2 ≠ Am) ∧ (An ≠ s_.2) ∧ (s_.2 ≠ An) ∧ (Below w.heap.size w w')) ?_ ?_
  rotate_left
  ·intro hCont
   refine two_ (i:=4) (j:=6) (Ni:=some 15) (Nj:=some 4) #[T,T,T,T,T,F,F,F] #[T,T,T,T,F,F,T,F] rfl rfl rfl rfl (two_of HT_.1 (by kernel_rfl)) (by decide) (by decide) (fun K hK=>?_) (fun K hK=>?_)
   ·skip
    refine goes_ Tryd.func64 (by kernel_rfl) rfl #[.slice A0_1 l0_1.length c0_1] (by rfl) rfl rfl au_ ?_
    with_reducible refine (Abz.calls _ _ l0_1 Aj _ ?side1 ?side2 A4.1).mono ?_
    (case side1=>exact cl_ (Kd.C_below HR0_1.1 HB.1))
    (case side2=>exact HC0_1.1)
    rintro e w11 ⟨Bc,rfl,ho0,hb⟩
    refine ⟨_,rfl,?_⟩
    have Ap:=A_ (Kd.R_lower ho0 (below_size bb_));replace Ab:=bz Ab hb;replace Ac:=bz Ac hb;replace HB:=A_ (below_step bb_ hb);(try clear hb);(try clear hb2);(try clear hk);(try clear hi);(try clear ho0);obtain ⟨Ao12,co12,eo12⟩:=Kd.R_slice Ap.1;(first|subst eo12|(injection eo12 with f1_ f2_ f3_;have f4_:=f1_.symm;have f5_:=f3_.symm;clear f1_ f2_ f3_;subst f4_;subst f5_))
    refine hK.out _ _ ⟨blk_cell Ab.1 0,blk_cell Ab.1 1⟩ (fun hHeld=>?_)
    clear hK K;refine norm_ (a':=?_) ?_ ?_
    rotate_left
    ·show Act.put _ (some 15) _ = _
     simp only [Act.put,L_,M_,N_,i64_w,i32_w]
     rfl
    refine pu_ (i:=5) (N:=16) #[T,T,T,T,T,T,F,F] HT_.1 rfl rfl (fun _ _ _ h=>h) rfl (h:=?_)
    refine one_ (i:=6) (N:=some 4) #[T,T,T,T,T,T,T,F] rfl rfl (one_of HT_.1 (by kernel_rfl)) (by decide) (fun K hK=>?_)
    refine box_step ?hg (N:=4) ?hd (cs:=#[.int .i64 0,.slice none 0 0]) (t:=26) ?hr ?_;(case hd=>rfl);(case hg=>rfl);(case hr=>go_simp;try rfl)
    intro Ah hg w13 hbox hb
    replace Ap:=rb_ Ap hb;have Ae:=A_ (hbox);have Az:=A_ (gw_ (w:=w) hg bb_);have Ba:=A_ (gw_ (w:=w) hg bb_);replace HB:=A_ (below_step bb_ hb);have Af:=A_ (nl_ hg Ab);have Ak:=A_ (ng_ hg Ab);replace Ab:=bz Ab hb;have Ai:=A_ (nl_ hg Ac);have Al:=A_ (ng_ hg Ac);replace Ac:=bz Ac hb;clear hb hbox hg;refine hK.out _ _ ⟨blk_cell Ab.1 0,blk_cell Ab.1 1⟩ (fun hHeld=>?_)
    clear hK K;refine norm_ (a':=?_) ?_ ?_
    rotate_left
    ·show Act.put _ (some 4) _ = _
     simp only [Act.put,L_,M_,N_,i64_w,i32_w]
     rfl
    exact norm_ (by simp only [putAll,Act.put,L_,M_,N_]) (hCont (.slice Ao12 Aj.length co12,Ah) _ ⟨hHeld,(rl_ Ap),(bl_ Ab),(bl_ Ac),(bl_ Ae),Az.1,Ba.1,Af.1,Ak.1,Ai.1,Al.1,bb_⟩)
   ·skip
    refine box_step ?hg (N:=4) ?hd (cs:=#[.int .i64 0,.slice none 0 0]) (t:=26) ?hr ?_;(case hd=>rfl);(case hg=>rfl);(case hr=>go_simp;try rfl)
    intro Ah hg w11 hbox hb
    have Ae:=A_ (hbox);have Az:=A_ (gw_ (w:=w) hg bb_);have Ba:=A_ (gw_ (w:=w) hg bb_);replace HB:=A_ (below_step bb_ hb);have Af:=A_ (nl_ hg Ab);have Ak:=A_ (ng_ hg Ab);replace Ab:=bz Ab hb;have Ai:=A_ (nl_ hg Ac);have Al:=A_ (ng_ hg Ac);replace Ac:=bz Ac hb;clear hb hbox hg;refine hK.out _ _ ⟨blk_cell Ab.1 0,blk_cell Ab.1 1⟩ (fun hHeld=>?_)
    clear hK K;refine norm_ (a':=?_) ?_ ?_
    rotate_left
    ·show Act.put _ (some 4) _ = _
     simp only [Act.put,L_,M_,N_,i64_w,i32_w]
     rfl
    refine one_ (i:=4) (N:=some 15) #[T,T,T,T,T,F,T,F] rfl rfl (one_of HT_.1 (by kernel_rfl)) (by decide) (fun K hK=>?_)
    refine goes_ Tryd.func64 (by kernel_rfl) rfl #[.slice A0_1 l0_1.length c0_1] (by rfl) rfl rfl au_ ?_
    with_reducible refine (Abz.calls _ _ l0_1 Aj _ ?side1 ?side2 A4.1).mono ?_
    (case side1=>exact cl_ (Kd.C_below HR0_1.1 HB.1))
    (case side2=>exact HC0_1.1)
    rintro e w12 ⟨Bc,rfl,ho0,hb⟩
    refine ⟨_,rfl,?_⟩
    have Ap:=A_ (Kd.R_lower ho0 (below_size bb_));replace Ab:=bz Ab hb;replace Ac:=bz Ac hb;replace Ae:=bz Ae hb;replace HB:=A_ (below_step bb_ hb);(try clear hb);(try clear hb2);(try clear hk);(try clear hi);(try clear ho0);obtain ⟨Ao13,co13,eo13⟩:=Kd.R_slice Ap.1;(first|subst eo13|(injection eo13 with f1_ f2_ f3_;have f4_:=f1_.symm;have f5_:=f3_.symm;clear f1_ f2_ f3_;subst f4_;subst f5_))
    refine hK.out _ _ ⟨blk_cell Ab.1 0,blk_cell Ab.1 1⟩ (fun hHeld=>?_)
    clear hK K;refine norm_ (a':=?_) ?_ ?_
    rotate_left
    ·show Act.put _ (some 15) _ = _
     simp only [Act.put,L_,M_,N_,i64_w,i32_w]
     rfl
    refine pu_ (i:=5) (N:=16) #[T,T,T,T,T,T,T,F] HT_.1 rfl rfl (fun _ _ _ h=>h) rfl (h:=?_)
    exact norm_ (by simp only [putAll,Act.put,L_,M_,N_]) (hCont (.slice Ao13 Aj.length co13,Ah) _ ⟨hHeld,(rl_ Ap),(bl_ Ab),(bl_ Ac),(bl_ Ae),Az.1,Ba.1,Af.1,Ak.1,Ai.1,Al.1,bb_⟩)
  rintro ⟨Bc,Ah⟩ w14 ⟨hS_,h0_,h1_,h2_,h3_,h4_,h5_,h6_,h7_,h8_,h9_,h10_⟩
  have n0_ : Aside0 (Kd.R (Kd.int .i64) 3 w14 w.heap.size (fun _=>True) Bc Aj):=⟨h0_⟩;have n1_ : Aside0 (w14.heap[Am]? = some (.cells #[.int .i64 a0_0,.slice A0_1 l0_1.length c0_1] 26 (0,0))):=⟨h1_⟩;have n2_ : Aside0 (w14.heap[An]? = some (.cells #[.int .i64 0,.slice none 0 0] 26 (0,0))):=⟨h2_⟩;have n3_ : Aside0 (w14.heap[Ah]? = some (.cells #[.int .i64 0,.slice none 0 0] 26 (0,0))):=⟨h3_⟩;have n4_ : Aside0 (w.heap.size ≤ Ah):=⟨h4_⟩;have n5_ : Aside0 (w.heap.size ≤ Ah):=⟨h5_⟩;have n6_ : Aside0 (Am ≠ Ah):=⟨h6_⟩;have n7_ : Aside0 (Ah ≠ Am):=⟨h7_⟩;have n8_ : Aside0 (An ≠ Ah):=⟨h8_⟩;have n9_ : Aside0 (Ah ≠ An):=⟨h9_⟩;have n10_ : Aside0 (Below w.heap.size w w14):=⟨h10_⟩;clear Ab;clear Ac;clear HB;clear h0_ h1_ h2_ h3_ h4_ h5_ h6_ h7_ h8_ h9_ h10_;have Ap:=n0_;have Ab:=n1_;have Ac:=n2_;have Ae:=n3_;have Az:=n4_;have Ba:=n5_;have Af:=n6_;have Ak:=n7_;have Ai:=n8_;have Al:=n9_;have HB:=n10_;clear n0_ n1_ n2_ n3_ n4_ n5_ n6_ n7_ n8_ n9_ n10_;have hHeld : w14.cell? ⟨Am,0,none⟩ = some (.int .i64 a0_0) ∧ w14.cell? ⟨Am,1,none⟩ = some (.slice A0_1 l0_1.length c0_1):=hS_;obtain ⟨Ao15,co15,eo15⟩:=Kd.R_slice Ap.1;(first|subst eo15|(injection eo15 with f1_ f2_ f3_;have f4_:=f1_.symm;have f5_:=f3_.symm;clear f1_ f2_ f3_;subst f4_;subst f5_))
  refine norm_ (a':=?_) ?_ ?_
  rotate_left;·simp only [putAll,Act.put,L_,M_,N_];rfl
  refine one_ (i:=7) (N:=none) #[T,T,T,T,T,T,T,T] rfl rfl (one_of HT_.1 (by kernel_rfl)) (by decide) (fun K hK=>?_)
  have Z : w14.cell? ⟨Ah,0,none⟩ = some (.int .i64 0):=blk_cell Ae.1 0;have Z:=blk_frozen Ae.1 0;have Z:=Af.1;have Z:=Ai.1;have Z:=Ak.1;have Z:=Al.1;have Z : w14.cell? ⟨Ah,1,none⟩ = some (.slice none 0 0):=blk_cell Ae.1 1;have Z:=blk_frozen Ae.1 1;have Z:=Af.1;have Z:=Ai.1;have Z:=Ak.1;have Z:=Al.1;refine skip_ (w1:=?_) (by rfl) rfl ?_ ?_
  rotate_left
  ·go_simp
   rfl
  refine hK.out _ _ ⟨((cell_far (p:=⟨Ah,_,none⟩) Af.1 _).trans (((cell_far (p:=⟨Ah,_,none⟩) Af.1 _).trans (hHeld.1)))),((cell_far (p:=⟨Ah,_,none⟩) Af.1 _).trans (((cell_far (p:=⟨Ah,_,none⟩) Af.1 _).trans (hHeld.2))))⟩ (fun hHeld=>?_)
  clear hK K;refine done_ (done_of HT_.1 (by kernel_rfl)) ?_
  have Z:=Ak.1;have Z:=Af.1;have Z:=Al.1;have Z:=Ai.1;obtain ⟨Z,Z,Z,Z⟩:=o2_ Ae.1;try go_wp2
  go_loopg [20] k (fun kq v20 w'=>∃ (x20_1 : Int) (Ag : List Int) (Ao : Value),v20 = .int .i64 x20_1 ∧ Aside0 (Aag.l0 kq (Aj.length : Int) x20_1 a0_0 Ag = some (r1,r2,r3)) ∧ Aside0 (kq ≤ k) ∧ Aside0 (Kd.R (Kd.int .i64) 3 w' w.heap.size (fun _=>True) Ao Ag) ∧ Aside0 (w'.heap[Am]? = some (.cells #[.int .i64 a0_0,(.slice A0_1 l0_1.length c0_1)] 26 (0,0))) ∧ Aside0 (w'.heap[An]? = some (.cells #[.int .i64 0,(.slice none 0 0)] 26 (0,0))) ∧ Aside0 (w'.heap[Ah]? = some (.cells #[.int .i64 a0_0,Ao] 26 (0,0))) ∧ Aside0 (Below w.heap.size w w'))
  case atStart=>exact ⟨(0),(Aj),(.slice Ao15 Aj.length co15),(by first|rfl|(simp;done)|(simp [*];done)),H',⟨Nat.le_refl _⟩,⟨rq_ (Kd.R_mono (Kd.R_far (p:=⟨Ah,1,none⟩) (Kd.R_far (p:=⟨Ah,0,none⟩) (Kd.R_types Ap.1 Ae.1 (by decide)) (fun _ hk=>hk.2) (.int .i64 a0_0)) (fun _ hk=>hk.2) (.slice Ao15 Aj.length co15)) (fun _ hk=>trivial))⟩,⟨by (with_reducible repeat (first|refine blk_drewN ?_ _|refine blk_drew ?_|refine blk_alloc ?_ _));refine blk_far ?_ Af.1 _;(with_reducible repeat (first|refine blk_drewN ?_ _|refine blk_drew ?_|refine blk_alloc ?_ _));refine blk_far ?_ Af.1 _;(with_reducible repeat (first|refine blk_drewN ?_ _|refine blk_drew ?_|refine blk_alloc ?_ _));exact Ab.1⟩,⟨by (with_reducible repeat (first|refine blk_drewN ?_ _|refine blk_drew ?_|refine blk_alloc ?_ _));refine blk_far ?_ Ai.1 _;(with_reducible repeat (first|refine blk_drewN ?_ _|refine blk_drew ?_|refine blk_alloc ?_ _));refine blk_far ?_ Ai.1 _;(with_reducible repeat (first|refine blk_drewN ?_ _|refine blk_drew ?_|refine blk_alloc ?_ _));exact Ac.1⟩,⟨by (with_reducible repeat (first|refine blk_drewN ?_ _|refine blk_drew ?_|refine blk_alloc ?_ _));refine blk_put (cs:=#[.int .i64 a0_0,.slice none 0 0]) ?_ 1 _ rfl;(with_reducible repeat (first|refine blk_drewN ?_ _|refine blk_drew ?_|refine blk_alloc ?_ _));refine blk_put (cs:=#[.int .i64 0,.slice none 0 0]) ?_ 0 _ rfl;(with_reducible repeat (first|refine blk_drewN ?_ _|refine blk_drew ?_|refine blk_alloc ?_ _));exact Ae.1⟩,⟨bb_⟩⟩
  case round =>
   clear H';try clear c1
   try clear p2
   try clear c3
   try clear c6
   try clear c7
   try clear c12
   try clear c18
   try clear c19
   repeat clear Z
   obtain ⟨x20_1,Ag,Ao,rfl,HA,HK1,Ad,Ab,Ac,Ae,HB⟩:=hrel;cases gk with
   | zero=>exact absurd HA.1 (by simp [Aag.l0])
   | succ k1 =>
    have H:=HA.1;clear HA;simp only [Aag.l0] at H
    by_cases c21 : x20_1 < (Aj.length : Int)
    ·rw [if_pos c21] at H;have c21b0 : decide (x20_1 < (Aj.length : Int)) = true:=decide_eq_true c21;clear c21;have H':=A_ H;clear H;have Z:=Ak.1;have Z:=Af.1;have Z:=Al.1;have Z:=Ai.1;obtain ⟨Z,Z,Z,Z⟩:=o2_ Ae.1;obtain ⟨Ao25,co25,eo25⟩:=Kd.R_slice Ad.1;subst eo25;go_wp2
     go_loopg [26] k1 (fun kq v26 w'=>∃ (x26_2 : Int) (Aa : List Int) (Ao : Value),v26 = .int .i64 x26_2 ∧ Aside0 (Aag.l1 kq x20_1 (Aj.length : Int) x20_1 (Ag.length : Int) x26_2 a0_0 Aa = some (r1,r2,r3)) ∧ Aside0 (kq ≤ k1) ∧ Aside0 (Kd.R (Kd.int .i64) 3 w' w.heap.size (fun _=>True) Ao Aa) ∧ Aside0 (w'.heap[Am]? = some (.cells #[.int .i64 a0_0,(.slice A0_1 l0_1.length c0_1)] 26 (0,0))) ∧ Aside0 (w'.heap[An]? = some (.cells #[.int .i64 0,(.slice none 0 0)] 26 (0,0))) ∧ Aside0 (w'.heap[Ah]? = some (.cells #[.int .i64 a0_0,Ao] 26 (0,0))) ∧ Aside0 (Below w.heap.size w w'))
     case atStart=>exact ⟨(0),(Ag),(.slice Ao25 Ag.length co25),(by first|rfl|(simp;done)|(simp [*];done)),H',⟨Nat.le_refl _⟩,⟨rl_ Ad⟩,⟨bl_ Ab⟩,⟨bl_ Ac⟩,⟨bl_ Ae⟩,⟨bb_⟩⟩
     case round =>
      clear H';try clear c1
      try clear c2
      try clear p2
      try clear c3
      try clear c6
      try clear c7
      try clear c12
      try clear c18
      try clear c19
      try clear c21
      try clear c21b0
      try clear c22
      try clear c23
      repeat clear Z
      try clear p2
      obtain ⟨x26_2,Aa,Ao,rfl,HA,HK2,Ad,Ab,Ac,Ae,HB⟩:=hrel;cases gk with
      | zero=>exact absurd HA.1 (by simp [Aag.l1])
      | succ k2 =>
       have H:=HA.1;clear HA;simp only [Aag.l1] at H
       by_cases c26 : x26_2 < (Ag.length : Int)
       ·rw [if_pos c26] at H;have c26b0 : decide (x26_2 < (Ag.length : Int)) = true:=decide_eq_true c26;clear c26;by_cases c27 : 0 ≤ x26_2
        ·rw [if_pos c27] at H;have c27b0 : decide (0 ≤ x26_2) = true:=decide_eq_true c27;clear c27;by_cases c28 : x26_2 < (Aa.length : Int)
         ·rw [if_pos c28] at H;have c28b0 : decide (x26_2 < (Aa.length : Int)) = true:=decide_eq_true c28;clear c28;replace H:=Option.bind_eq_some_iff.mp H;obtain ⟨Bi,Bj,H⟩:=H;replace H : (if Bi = true then (if 0 ≤ x20_1 then (if x20_1 < (Aa.length : Int) then (Aag.l1 k2 x20_1 (Aj.length : Int) x20_1 (Ag.length : Int) (wrap64 (x26_2 + 1)) a0_0 (Aa.set (x26_2 : Int).toNat (Go.bits .or .i64 (rd Aa x26_2) (rd Aa x20_1)))) else (none)) else (none)) else (Aag.l1 k2 x20_1 (Aj.length : Int) x20_1 (Ag.length : Int) (wrap64 (x26_2 + 1)) a0_0 Aa)) = some (r1,r2,r3):=H;have A29:=A_ Bj;clear Bj;by_cases c30 : Bi = true
          ·subst c30;have H1 : (if 0 ≤ x20_1 then (if x20_1 < (Aa.length : Int) then (Aag.l1 k2 x20_1 (Aj.length : Int) x20_1 (Ag.length : Int) (wrap64 (x26_2 + 1)) a0_0 (Aa.set (x26_2 : Int).toNat (Go.bits .or .i64 (rd Aa x26_2) (rd Aa x20_1)))) else (none)) else (none)) = some (r1,r2,r3):=by rw [if_pos rfl] at H;exact H
           clear H;have H:=H1;clear H1;by_cases c31 : 0 ≤ x20_1
           ·rw [if_pos c31] at H;have c31b0 : decide (0 ≤ x20_1) = true:=decide_eq_true c31;clear c31;by_cases c32 : x20_1 < (Aa.length : Int)
            ·rw [if_pos c32] at H;have c32b0 : decide (x20_1 < (Aa.length : Int)) = true:=decide_eq_true c32;clear c32;obtain ⟨Bk,Av⟩ : ∃ y_ : List Int,y_ = (Aa.set (x26_2 : Int).toNat (Go.bits .or .i64 (rd Aa x26_2) (rd Aa x20_1))):=⟨_,rfl⟩;replace H : (Aag.l1 k2 x20_1 (Aj.length : Int) x20_1 (Ag.length : Int) (wrap64 (x26_2 + 1)) a0_0 Bk) = some (r1,r2,r3):=by first|(rw [Av];with_reducible exact H)|(have H2_:=(Option.bind_some _ _).symm.trans H;rw [Av];with_reducible exact H2_)|(have H2_:=(Option.bind_some _ _).symm.trans H;with_reducible exact H2_)|with_reducible exact H|(rw [Av];exact H)|exact H
             have Bp:=A_ Av;clear Av;have H':=A_ H;clear H;have Z:=Ak.1;have Z:=Af.1;have Z:=Al.1;have Z:=Ai.1;obtain ⟨Z,Z,Z,Z⟩:=o2_ Ae.1;obtain ⟨Ao37,co37,eo37⟩:=Kd.R_slice Ad.1;subst eo37;have At : 0 ≤ (x26_2 : Int):=of_decide_eq_true (by first|(with_reducible assumption)|assumption);have Au : x26_2 < (Aa.length : Int):=of_decide_eq_true (by first|(with_reducible assumption)|assumption);obtain ⟨As,Bd,Aw⟩:=Kd.at_int (Kd.R_reads' Ad.1).2.2 x26_2 At Au;cases Bd
             replace At:=eq_true At;replace Au:=eq_true Au;try go_wp2_with (first|((with_reducible refine gate_callee (f:=65) rfl ?_);refine goesL_ (some 35) rfl rfl Tryd.func65 (by kernel_rfl) rfl #[.int .i64 (rd Aa x26_2),.int .i64 x20_1] rfl au_ ?_;(with_reducible refine (Aa8.calls (rd Aa x26_2) x20_1 true _ A29.1).mono ?_);rintro e w' ⟨rfl,⟨nd,rfl⟩⟩;refine ⟨_,rfl,?_⟩;(try (rw [drewN_self wr];generalize hq_ : World.drewN wr _ = wr;have n0_ : Aside0 (Kd.R (Kd.int .i64) 3 wr w.heap.size (fun _=>True) (.slice (some As) Aa.length co37) Aa):=⟨by rw [← hq_];exact (rl_ Ad)⟩;have n1_ : Aside0 (wr.heap[Am]? = some (.cells #[.int .i64 a0_0,.slice A0_1 l0_1.length c0_1] 26 (0,0))):=⟨by rw [← hq_];exact (bl_ Ab)⟩;have n2_ : Aside0 (wr.heap[An]? = some (.cells #[.int .i64 0,.slice none 0 0] 26 (0,0))):=⟨by rw [← hq_];exact (bl_ Ac)⟩;have n3_ : Aside0 (wr.heap[Ah]? = some (.cells #[.int .i64 a0_0,.slice (some As) Aa.length co37] 26 (0,0))):=⟨by rw [← hq_];exact (bl_ Ae)⟩;have n4_ : Aside0 (Below w.heap.size w wr):=⟨by rw [← hq_];exact bb_⟩;clear Ad Ab Ac Ae HB hq_;have Ad:=n0_;have Ab:=n1_;have Ac:=n2_;have Ae:=n3_;have HB:=n4_;clear n0_ n1_ n2_ n3_ n4_;have Z : wr.cell? ⟨Am,0,none⟩ = some (.int .i64 a0_0):=blk_cell Ab.1 0;have Z:=blk_frozen Ab.1 0;have Z : wr.cell? ⟨Am,1,none⟩ = some (.slice A0_1 l0_1.length c0_1):=blk_cell Ab.1 1;have Z:=blk_frozen Ab.1 1;have Z : wr.cell? ⟨An,0,none⟩ = some (.int .i64 0):=blk_cell Ac.1 0;have Z:=blk_frozen Ac.1 0;have Z : wr.cell? ⟨An,1,none⟩ = some (.slice none 0 0):=blk_cell Ac.1 1;have Z:=blk_frozen Ac.1 1;have Z : wr.cell? ⟨Ah,0,none⟩ = some (.int .i64 a0_0):=blk_cell Ae.1 0;have Z:=blk_frozen Ae.1 0;have Z : wr.cell? ⟨Ah,1,none⟩ = some (.slice (some As) Aa.length co37):=blk_cell Ae.1 1;have Z:=blk_frozen Ae.1 1))))
             replace Ad:=A_ (Kd.R_drew Ad.1);replace Ab:=A_ (blk_drew Ab.1);replace Ac:=A_ (blk_drew Ac.1);replace Ae:=A_ (blk_drew Ae.1);replace HB:=A_ (below_drew1 HB.1);have Be : 0 ≤ (x26_2 : Int):=of_decide_eq_true (by first|(with_reducible assumption)|assumption);have Bf : x26_2 < (Aa.length : Int):=of_decide_eq_true (by first|(with_reducible assumption)|assumption);obtain ⟨Bq,Bs,Ax⟩:=Kd.at_int (Kd.R_reads' Ad.1).2.2 x26_2 Be Bf;obtain rfl : As = Bq:=(by injection Bs);replace Be:=eq_true Be;replace Bf:=eq_true Bf;have Bg : 0 ≤ (x20_1 : Int):=of_decide_eq_true (by first|(with_reducible assumption)|assumption);have Bh : x20_1 < (Aa.length : Int):=of_decide_eq_true (by first|(with_reducible assumption)|assumption);obtain ⟨Br,Bt,Ay⟩:=Kd.at_int (Kd.R_reads' Ad.1).2.2 x20_1 Bg Bh;obtain rfl : As = Br:=(by injection Bt);replace Bg:=eq_true Bg;replace Bh:=eq_true Bh;have p33 : 0 ≤ (x26_2 : Int):=of_decide_eq_true (by first|(with_reducible assumption)|assumption);have q33 : (x26_2 : Int) < ((Aa.length : Int) : Int):=of_decide_eq_true (by first|(with_reducible assumption)|assumption);obtain ⟨go33,co33,eo33,gb33,gl33,cl33,HG33⟩:=Kd.R_form Ad.1 (by omega);(first|cases eo33|(injection eo33 with ea_ en_ ec_;(first|subst ea_|(injection ea_ with ea_;subst ea_));subst ec_;clear en_))
             have GB33:=A_ gb33;have GG33:=A_ HG33;clear gb33 gl33 HG33;(first|simp only [add_plain] at Aw|skip)
             (first|simp only [add_plain] at Ax|skip)
             (first|simp only [add_plain] at Ay|skip)
             obtain ⟨hx33_0,hf33_0⟩:=Kd.R_celln 0 Ad.1 (x26_2 : Int) p33 q33;replace p33:=eq_true p33;replace q33:=eq_true q33;have HP39:=Kd.R_putn Ad.1 (x26_2 : Int) (Go.bits .or .i64 (rd Aa x26_2) (rd Aa x20_1));rw [← Bp.1] at HP39;have HQ39:=A_ HP39;clear HP39;refine start_ (n:=13) (S:=fun w'=>w'.cell? ⟨Ah,0,none⟩ = some (.int .i64 a0_0) ∧ w'.cell? ⟨Ah,1,none⟩ = some (.slice (some ⟨go33,0,none⟩) Aa.length co37) ∧ w'.cell? ⟨go33,(x26_2).toNat,none⟩ = some (.int .i64 (rd Aa x26_2)) ∧ w'.cell? ⟨go33,(x20_1).toNat,none⟩ = some (.int .i64 (rd Aa x20_1))) (ds:=[12]) #[F,F,F,F,F,F,F,F,F,F,F,F,F] (by kernel_rfl) rfl rfl ⟨blk_cell Ae.1 0,blk_cell Ae.1 1,Ax,Ay⟩ (fun hHeld=>?_);refine with_tabW Aag.tab11 Aag.bits11 (fun HT_ HW_=>?_)
             generalize wr.drew = w38 at Ad Ab Ac Ae HB GG33 HQ39 hf33_0 Aw Ax Ay hx33_0 hHeld ⊢
             refine pu_ (i:=0) (N:=36) #[T,F,F,F,F,F,F,F,F,F,F,F,F] HT_.1 rfl rfl (fun _ _ _ h=>h) rfl (h:=?_)
             refine pu_ (i:=2) (N:=38) #[T,F,T,F,F,F,F,F,F,F,F,F,F] HT_.1 rfl rfl (fun _ _ _ h=>h) rfl (h:=?_)
             refine pu_ (i:=5) (N:=41) #[T,F,T,F,F,T,F,F,F,F,F,F,F] HT_.1 rfl rfl (fun _ _ _ h=>h) rfl (h:=?_)
             refine pu_ (i:=7) (N:=43) #[T,F,T,F,F,T,F,T,F,F,F,F,F] HT_.1 rfl rfl (fun _ _ _ h=>h) rfl (h:=?_)
             refine take_ (i:=1) (N:=some 37) (v:=?_) (a':=?_) #[T,T,T,F,F,T,F,T,F,F,F,F,F] rfl rfl (take_ofW HT_.1 HW_.1 (by kernel_rfl)) (fun _ _ _ h=>h) (Or.inl ⟨by rfl,?_⟩) hHeld ?_ ?_
             rotate_left
             ·rintro w' ⟨s0,s1,s2,s3⟩
              go_simp
              with_reducible rfl
             rotate_left;·simp only [Act.put,L_,M_,N_,i64_w,i32_w];rfl
             refine pu_ (i:=3) (N:=39) #[T,T,T,T,F,T,F,T,F,F,F,F,F] HT_.1 rfl rfl (fun _ _ _ h=>h) rfl (h:=?_)
             refine take_ (i:=4) (N:=some 40) (v:=?_) (a':=?_) #[T,T,T,T,T,T,F,T,F,F,F,F,F] rfl rfl (take_ofW HT_.1 HW_.1 (by kernel_rfl)) (fun _ _ _ h=>h) (Or.inl ⟨by rfl,?_⟩) hHeld ?_ ?_
             rotate_left
             ·rintro w' ⟨s0,s1,s2,s3⟩
              go_simp
              with_reducible rfl
             rotate_left;·simp only [Act.put,L_,M_,N_,i64_w,i32_w];rfl
             refine take_ (i:=6) (N:=some 42) (v:=?_) (a':=?_) #[T,T,T,T,T,T,T,T,F,F,F,F,F] rfl rfl (take_ofW HT_.1 HW_.1 (by kernel_rfl)) (fun _ _ _ h=>h) (Or.inl ⟨by rfl,?_⟩) hHeld ?_ ?_
             rotate_left
             ·rintro w' ⟨s0,s1,s2,s3⟩
              go_simp
              with_reducible rfl
             rotate_left;·simp only [Act.put,L_,M_,N_,i64_w,i32_w];rfl
             refine pu_ (i:=8) (N:=44) #[T,T,T,T,T,T,T,T,T,F,F,F,F] HT_.1 rfl rfl (fun _ _ _ h=>h) rfl (h:=?_)
             refine take_ (i:=9) (N:=some 45) (v:=?_) (a':=?_) #[T,T,T,T,T,T,T,T,T,T,F,F,F] rfl rfl (take_ofW HT_.1 HW_.1 (by kernel_rfl)) (fun _ _ _ h=>h) (Or.inl ⟨by rfl,?_⟩) hHeld ?_ ?_
             rotate_left
             ·rintro w' ⟨s0,s1,s2,s3⟩
              go_simp
              with_reducible rfl
             rotate_left;·simp only [Act.put,L_,M_,N_,i64_w,i32_w];rfl
             refine pu_ (i:=10) (N:=46) #[T,T,T,T,T,T,T,T,T,T,T,F,F] HT_.1 rfl rfl (fun _ _ _ h=>h) rfl (h:=?_)
             refine pu_ (i:=11) (N:=47) #[T,T,T,T,T,T,T,T,T,T,T,T,F] HT_.1 rfl rfl (fun _ _ _ h=>h) rfl (h:=?_)
             refine last_ (i:=12) (N:=none) #[T,T,T,T,T,T,T,T,T,T,T,T,T] rfl rfl (one_of HT_.1 (by kernel_rfl)) (by decide) (fun K hK=>?_)
             refine skip_ (w1:=?_) (by rfl) rfl ?_ ?_
             rotate_left
             ·go_simp
              rfl
             refine hK.out _ _ ?_
             clear hK K;refine done_ (done_of HT_.1 (by kernel_rfl)) ?_
             try go_wp2
             go_roundg k2
             case measure=>have:=HK1.1;have:=HK2.1;omega
             case rel=>exact ⟨(wrap64 (x26_2 + 1)),(Bk),(.slice (some ⟨go33,0,none⟩) Aa.length co37),(by first|rfl|(simp;done)|(simp [*];done)),H',⟨by have:=HK1.1;have:=HK2.1;omega⟩,⟨rl_ HQ39⟩,⟨by (with_reducible repeat (first|refine blk_drewN ?_ _|refine blk_drew ?_|refine blk_alloc ?_ _));refine blk_far ?_ (by have h_:=Kd.R_ne Ad.1 Ab.1 (by decide);intro e_;exact h_ (by rw [e_];rfl)) _;(with_reducible repeat (first|refine blk_drewN ?_ _|refine blk_drew ?_|refine blk_alloc ?_ _));exact Ab.1⟩,⟨by (with_reducible repeat (first|refine blk_drewN ?_ _|refine blk_drew ?_|refine blk_alloc ?_ _));refine blk_far ?_ (by have h_:=Kd.R_ne Ad.1 Ac.1 (by decide);intro e_;exact h_ (by rw [e_];rfl)) _;(with_reducible repeat (first|refine blk_drewN ?_ _|refine blk_drew ?_|refine blk_alloc ?_ _));exact Ac.1⟩,⟨by (with_reducible repeat (first|refine blk_drewN ?_ _|refine blk_drew ?_|refine blk_alloc ?_ _));refine blk_far ?_ (by have h_:=Kd.R_ne Ad.1 Ae.1 (by decide);intro e_;exact h_ (by rw [e_];rfl)) _;(with_reducible repeat (first|refine blk_drewN ?_ _|refine blk_drew ?_|refine blk_alloc ?_ _));exact Ae.1⟩,⟨by repeat (first|(with_reducible first|exact HB.1|apply below_alloc|apply pw_below_drewN|apply below_drew1|refine below_set ?_ GB33.1|refine below_set ?_ (Aside0.out (by assumption)))|exact HB.1)⟩⟩
            ·rw [if_neg c32] at H;exact absurd H (by simp)
           ·rw [if_neg c31] at H;exact absurd H (by simp)
          ·replace c30:=Bool.eq_false_iff.mpr c30;subst c30;have H1 : (Aag.l1 k2 x20_1 (Aj.length : Int) x20_1 (Ag.length : Int) (wrap64 (x26_2 + 1)) a0_0 Aa) = some (r1,r2,r3):=by rw [if_neg (show ¬ (false = true) by decide)] at H;exact H
           clear H;have H:=H1;clear H1;have H':=A_ H;clear H;have Z:=Ak.1;have Z:=Af.1;have Z:=Al.1;have Z:=Ai.1;obtain ⟨Z,Z,Z,Z⟩:=o2_ Ae.1;obtain ⟨Ao43,co43,eo43⟩:=Kd.R_slice Ad.1;subst eo43;have At : 0 ≤ (x26_2 : Int):=of_decide_eq_true (by first|(with_reducible assumption)|assumption);have Au : x26_2 < (Aa.length : Int):=of_decide_eq_true (by first|(with_reducible assumption)|assumption);obtain ⟨As,Bd,Aw⟩:=Kd.at_int (Kd.R_reads' Ad.1).2.2 x26_2 At Au;cases Bd
           replace At:=eq_true At;replace Au:=eq_true Au;go_wp2_with (first|((with_reducible refine gate_callee (f:=65) rfl ?_);refine goesL_ (some 35) rfl rfl Tryd.func65 (by kernel_rfl) rfl #[.int .i64 (rd Aa x26_2),.int .i64 x20_1] rfl au_ ?_;(with_reducible refine (Aa8.calls (rd Aa x26_2) x20_1 false _ A29.1).mono ?_);rintro e w' ⟨rfl,⟨nd,rfl⟩⟩;refine ⟨_,rfl,?_⟩))
           go_roundg k2
           case measure=>have:=HK1.1;have:=HK2.1;omega
           case rel=>exact ⟨(wrap64 (x26_2 + 1)),(Aa),(.slice (some As) Aa.length co43),(by first|rfl|(simp;done)|(simp [*];done)),H',⟨by have:=HK1.1;have:=HK2.1;omega⟩,⟨rl_ Ad⟩,⟨bl_ Ab⟩,⟨bl_ Ac⟩,⟨bl_ Ae⟩,⟨bb_⟩⟩
         ·rw [if_neg c28] at H;exact absurd H (by simp)
        ·rw [if_neg c27] at H;exact absurd H (by simp)
       ·rw [if_neg c26] at H;have c26b0 : decide (x26_2 < (Ag.length : Int)) = false:=decide_eq_false c26;clear c26;have H':=A_ H;clear H;go_wp2
        go_roundg k2
        case measure=>have:=HK1.1;have:=HK2.1;omega
        case rel=>exact ⟨(wrap64 (x20_1 + 1)),(Aa),(Ao),(by first|rfl|(simp;done)|(simp [*];done)),H',⟨by have:=HK1.1;have:=HK2.1;omega⟩,⟨rl_ Ad⟩,⟨bl_ Ab⟩,⟨bl_ Ac⟩,⟨bl_ Ae⟩,⟨bb_⟩⟩
    ·rw [if_neg c21] at H;have c21b0 : decide (x20_1 < (Aj.length : Int)) = false:=decide_eq_false c21;clear c21;simp only [Option.some.injEq,Prod.mk.injEq] at H
     obtain ⟨rfl,rfl,rfl⟩:=H;have Z:=Ak.1;have Z:=Af.1;have Z:=Al.1;have Z:=Ai.1;obtain ⟨Z,Z,Z,Z⟩:=o2_ Ae.1;have Z:=Ar.1;have Z:=Aq.1;obtain ⟨Z,Z,Z,Z⟩:=o2_ Ac.1;obtain ⟨Ao49,co49,eo49⟩:=Kd.R_slice Ad.1;subst eo49;go_wp2
     refine bodyPost_ret (results_ct rfl _ _ An 26 #[.int .i64 a0_0,.slice Ao49 Ag.length co49] (0,0) _ rfl (by (with_reducible repeat (first|refine blk_drewN ?_ _|refine blk_drew ?_|refine blk_alloc ?_ _));refine blk_put (cs:=#[.int .i64 a0_0,.slice none 0 0]) ?_ 1 _ rfl;(with_reducible repeat (first|refine blk_drewN ?_ _|refine blk_drew ?_|refine blk_alloc ?_ _));refine blk_put (cs:=#[.int .i64 0,.slice none 0 0]) ?_ 0 _ rfl;(with_reducible repeat (first|refine blk_drewN ?_ _|refine blk_drew ?_|refine blk_alloc ?_ _));exact Ac.1) Tryd.underlying26 rfl (by kernel_rfl)) rfl ?_
     exact ⟨_,by first|rfl|(simp [errW_none,errW_some] <;> rfl)|(simp [*,errW_none,errW_some] <;> rfl),rq_ (Kd.R_mono (Kd.R_far (p:=⟨An,1,none⟩) (Kd.R_far (p:=⟨An,0,none⟩) (Kd.R_types Ad.1 Ac.1 (by decide)) (fun _ hk=>hk.2) (.int .i64 a0_0)) (fun _ hk=>hk.2) (.slice Ao49 Ag.length co49)) (fun _ hk=>trivial)),bb_⟩
 ·replace c3:=Bool.eq_false_iff.mpr c3;subst c3;have H1 : (some (0,([] : List Int),false)) = some (r1,r2,r3):=by rw [if_neg (show ¬ (false = true) by decide)] at H;exact H
  clear H;have H:=H1;clear H1;simp only [Option.some.injEq,Prod.mk.injEq] at H
  obtain ⟨rfl,rfl,rfl⟩:=H;go_enter Tryd.func12,Tryd.ntmps12
  go_wp2_with (first|((with_reducible refine gate_dst (N:=1) rfl ?_);refine box_event ?hg (N:=1) ?hd (cs:=#[.int .i64 a0_0,.slice A0_1 l0_1.length c0_1]) (t:=26) ?hr ?_;(case hd=>rfl);(case hg=>rfl);(case hr=>go_simp;try rfl);intro Am hg w50 hbox hb;have Ab:=A_ (hbox);have Bl:=A_ (gw_ (w:=w) hg bb_);have Bm:=A_ (gw_ (w:=w) hg bb_);replace HB:=A_ (below_step bb_ hb);clear hb hbox hg)|((with_reducible refine gate_dst (N:=2) rfl ?_);refine box_event ?hg (N:=2) ?hd (cs:=#[.int .i64 0,.slice none 0 0]) (t:=26) ?hr ?_;(case hd=>rfl);(case hg=>rfl);(case hr=>go_simp;try rfl);intro An hg w51 hbox hb;have Ac:=A_ (hbox);have Bn:=A_ (gw_ (w:=w) hg bb_);have Bo:=A_ (gw_ (w:=w) hg bb_);replace HB:=A_ (below_step bb_ hb);have Aq:=A_ (nl_ hg Ab);have Ar:=A_ (ng_ hg Ab);replace Ab:=bz Ab hb;clear hb hbox hg;have Z:=Aq.1;have Z:=Ar.1;obtain ⟨Z,Z,Z,Z⟩:=o2_ Ab.1)|((with_reducible refine gate_callee (f:=63) rfl ?_);refine goesL_ (some 8) rfl rfl Tryd.func63 (by kernel_rfl) rfl #[.agg #[.int .i64 a0_0,.slice A0_1 l0_1.length c0_1]] rfl au_ ?_;(with_reducible refine (Abj.calls k a0_0 _ _ l0_1 false _ ?side1 ?side2 A2.1).mono ?_);(case side1=>exact cl_ (Kd.C_below HR0_1.1 HB.1));(case side2=>exact HC0_1.1);rintro e w54 ⟨rfl,hb⟩;refine ⟨_,rfl,?_⟩;replace Ab:=bz Ab hb;replace Ac:=bz Ac hb;replace HB:=A_ (below_step bb_ hb);(try clear hb);(try clear hb2);(try clear hk);(try clear hi);obtain ⟨Z,Z,Z,Z⟩:=o2_ Ac.1))
  refine bodyPost_ret (results_ct rfl _ _ An 26 #[.int .i64 0,.slice none 0 0] (0,0) _ rfl (by (with_reducible repeat (first|refine blk_drewN ?_ _|refine blk_drew ?_|refine blk_alloc ?_ _));refine blk_put (cs:=#[.int .i64 0,.slice none 0 0]) ?_ 1 _ rfl;(with_reducible repeat (first|refine blk_drewN ?_ _|refine blk_drew ?_|refine blk_alloc ?_ _));refine blk_put (cs:=#[.int .i64 0,.slice none 0 0]) ?_ 0 _ rfl;(with_reducible repeat (first|refine blk_drewN ?_ _|refine blk_drew ?_|refine blk_alloc ?_ _));exact Ac.1) Tryd.underlying26 rfl (by kernel_rfl)) rfl ?_
  exact ⟨_,by first|rfl|(simp [errW_none,errW_some] <;> rfl)|(simp [*,errW_none,errW_some] <;> rfl),by first|exact Kd.R_nil _ _ _ _ _|exact Kd.N_nil _ _ _ _ _|exact Kd.V_nil _ _ _ _ _|exact Kd.Q_nil _ _ _ _ _|exact Kd.S_nil _ _ _ _ _,bb_⟩
mutual
def Aab.l0 : Nat → Int → Int → List Int → List Int → Int → List Int → Int → Int → Int → List Int → Option (Int × List Int × Int × Int)
 | 0,_,_,_,_,_,_,_,_,_,_=>none
 | k + 1,x5,x7,x8,x9,x10,x1000,x1001,x1002,x153000,x153001=>if x10 < x5 then ((Aam.f x1000 x1001 x1002 8).bind fun bt156=>(if x8.length < 17592186044416 then ((some (x8 ++ [bt156.1] : List Int)).bind fun y159=>(if x7 = 1 then ((Aam.f x1000 bt156.2.1 bt156.2.2 4).bind fun bt162=>(if x9.length < 17592186044416 then (Aab.l0 k x5 x7 y159 (x9 ++ [wrap64 (bt156.1 + bt162.1)]) (wrap64 (x10 + 1)) x1000 bt162.2.1 bt162.2.2 x153000 x153001) else (none))) else (if x9.length < 17592186044416 then (Aab.l0 k x5 x7 y159 (x9 ++ [wrap64 (bt156.1 + 2)]) (wrap64 (x10 + 1)) x1000 bt156.2.1 bt156.2.2 x153000 x153001) else (none)))) else (none))) else (Aab.l1 k x5 x7 x8 x9 0 x1000 x1001 x1002 x153000 x153001)
def Aab.l1 : Nat → Int → Int → List Int → List Int → Int → List Int → Int → Int → Int → List Int → Option (Int × List Int × Int × Int)
 | 0,_,_,_,_,_,_,_,_,_,_=>none
 | k + 1,x5,x7,x8,x9,x12,x1000,x1001,x1002,x153000,x153001=>if x12 < x5 then (Aab.l2 k x5 x7 x8 x9 x12 0 x1000 x1001 x1002 x153000 x153001) else (if x7 > 0 then (some (x153000,x153001,x1001,x1002)) else ((Aag.f k x153000 x153001).bind fun bt171=>(some (bt171.1,bt171.2.1,x1001,x1002))))
def Aab.l2 : Nat → Int → Int → List Int → List Int → Int → Int → List Int → Int → Int → Int → List Int → Option (Int × List Int × Int × Int)
 | 0,_,_,_,_,_,_,_,_,_,_,_=>none
 | k + 1,x5,x7,x8,x9,x12,x13,x1000,x1001,x1002,x153000,x153001=>if x13 < x5 then (if x7 > 0 then (if 0 ≤ x12 then (if x12 < (x9.length : Int) then (if 0 ≤ x13 then (if x13 < (x8.length : Int) then (if (rd x9 x12) < (rd x8 x13) then (if x12 < (x153001.length : Int) then (Aab.l2 k x5 x7 x8 x9 x12 (wrap64 (x13 + 1)) x1000 x1001 x1002 x153000 (x153001.set (x12 : Int).toNat (Go.bits .or .i64 (rd x153001 x12) (shl .i64 1 x13)))) else (none)) else (if x7 = 0 then (if x12 < x13 then ((Abc.f x1000 x1001 x1002 3).bind fun bt181=>(if bt181.1 = true then (if x12 < (x153001.length : Int) then (Aab.l2 k x5 x7 x8 x9 x12 (wrap64 (x13 + 1)) x1000 bt181.2.1 bt181.2.2 x153000 (x153001.set (x12 : Int).toNat (Go.bits .or .i64 (rd x153001 x12) (shl .i64 1 x13)))) else (none)) else (Aab.l2 k x5 x7 x8 x9 x12 (wrap64 (x13 + 1)) x1000 bt181.2.1 bt181.2.2 x153000 x153001))) else (Aab.l2 k x5 x7 x8 x9 x12 (wrap64 (x13 + 1)) x1000 x1001 x1002 x153000 x153001)) else (Aab.l2 k x5 x7 x8 x9 x12 (wrap64 (x13 + 1)) x1000 x1001 x1002 x153000 x153001))) else (none)) else (none)) else (none)) else (none)) else (if x7 = 0 then (if x12 < x13 then ((Abc.f x1000 x1001 x1002 3).bind fun bt186=>(if bt186.1 = true then (if 0 ≤ x12 then (if x12 < (x153001.length : Int) then (if 0 ≤ x13 then (Aab.l2 k x5 x7 x8 x9 x12 (wrap64 (x13 + 1)) x1000 bt186.2.1 bt186.2.2 x153000 (x153001.set (x12 : Int).toNat (Go.bits .or .i64 (rd x153001 x12) (shl .i64 1 x13)))) else (none)) else (none)) else (none)) else (Aab.l2 k x5 x7 x8 x9 x12 (wrap64 (x13 + 1)) x1000 bt186.2.1 bt186.2.2 x153000 x153001))) else (Aab.l2 k x5 x7 x8 x9 x12 (wrap64 (x13 + 1)) x1000 x1001 x1002 x153000 x153001)) else (Aab.l2 k x5 x7 x8 x9 x12 (wrap64 (x13 + 1)) x1000 x1001 x1002 x153000 x153001))) else (Aab.l1 k x5 x7 x8 x9 (wrap64 (x12 + 1)) x1000 x1001 x1002 x153000 x153001)
end
def Aab.f (k : Nat) (s0_0 : List Int) (s0_1 : Int) (s0_2 : Int) (a1 : Int) : Option (Int × List Int × Int × Int) := (Aam.f s0_0 s0_1 s0_2 (wrap64 (a1 + 1))).bind fun bt146 => (if 0 ≤ bt146.1 then (if (bt146.1 : Int).toNat ≤ 35184372088832 then ((Aam.f s0_0 bt146.2.1 bt146.2.2 3).bind fun bt153 => (Aab.l0 k bt146.1 bt153.1 ([] : List Int) ([] : List Int) 0 s0_0 bt153.2.1 bt153.2.2 bt146.1 (List.replicate (bt146.1 : Int).toNat 0))) else (none)) else (none))
def Aab.T19 : Bool × List (List Nat × List Nat) := (true, [([], []), ([0], [0]), ([1], [1]), ([2], [2]), ([2], [2]), ([3, 4, 2], [2, 3, 4]), ([5, 2], [2, 5]), ([2], [2]), ([2], [2]), ([7, 8, 2], [2, 7, 8]), ([9, 2], [2, 9]), ([6, 10, 2], [2, 6, 10]), ([2, 11], [2, 11]), ([12, 2], [12]), ([13], [13]), ([14, 13], [13, 14]), ([15, 13, 13], [13, 15]), ([16], [16]), ([16], [16]), ([17, 18, 16], [16, 17, 18]), ([16, 19, 13], [13, 16, 19]), ([20, 16, 13], [13, 20]), ([21], [21]), ([22, 21, 21], [21, 22]), ([21, 23, 13], [13, 21, 23]), ([13, 24], [13, 24])])
def Aab.B19 : List Nat := [0, 1, 3, 7, 7, 31, 63, 7, 7, 391, 903, 2047, 4095, 8191, 16383, 32767, 65535, 131071, 131071, 524287, 1048575, 2097151, 4194303, 8388607, 16777215, 33554431]
theorem Aab.tab19 : rtab .any (opsOf Tryd.f112 19) = Aab.T19:=by kernel_rfl
theorem Aab.bits19 : waitsOk Aab.T19.2 Aab.B19 = true:=by kernel_rfl
def Aab.T20 : Bool × List (List Nat × List Nat) := (true, [([], []), ([0], [0]), ([], []), ([1, 2], [1, 2]), ([3], [3]), ([], []), ([5], [5]), ([4, 6], [4, 6]), ([1, 2, 0, 1, 2, 3, 4, 5, 6, 7], [1, 2]), ([8, 7, 0, 1, 2, 3, 4, 5, 6, 7], [7, 8])])
def Aab.B20 : List Nat := [0, 1, 0, 7, 15, 0, 32, 127, 255, 511]
theorem Aab.tab20 : rtab .any (opsOf Tryd.f112 20) = Aab.T20:=by kernel_rfl
theorem Aab.bits20 : waitsOk Aab.T20.2 Aab.B20 = true:=by kernel_rfl
set_option maxHeartbeats 8000000 in
set_option maxRecDepth 100000 in
theorem Aab.calls (k : Nat) (g : Nat) (s0_0 : List Int) (s0_1 : Int) (s0_2 : Int) (a1 : Int) (r1 : Int) (r2 : List Int) (r3 : Int) (r4 : Int) (w0 w : World) (hI : Aaa w0 w g s0_0 s0_1 s0_2) (hB : Below w0.heap.size w0 w) (h : Aab.f k s0_0 s0_1 s0_2 a1 = some (r1,r2,r3,r4)) :
 Calls Tryd.prog 112 #[.pointer (some ⟨g,0,none⟩),.int .i64 a1] w fun e w'=>∃ v1_ : Value,e = .returned (.agg #[.int .i64 r1,v1_]) ∧ Kd.R (Kd.int .i64) 3 w' w.heap.size (fun _=>True) v1_ r2 ∧ Aaa w0 w' g s0_0 r3 r4 ∧ Below w0.heap.size w0 w' ∧ KeepBut w w' g none:=by
 have hu26:=Tryd.underlying26;have HI0:=A_ hI;have HK:=A_ (KeepBut.refl w g none);have HL:=A_ hB.size;clear hI;have HW0:=A_ hB.size;have HB:=A_ hB;clear hB;have H : ((Aam.f s0_0 s0_1 s0_2 (wrap64 (a1 + 1))).bind fun Bo=>(if 0 ≤ Bo.1 then (if (Bo.1 : Int).toNat ≤ 35184372088832 then ((Aam.f s0_0 Bo.2.1 Bo.2.2 3).bind fun Ba=>(Aab.l0 k Bo.1 Ba.1 ([] : List Int) ([] : List Int) 0 s0_0 Ba.2.1 Ba.2.2 Bo.1 (List.replicate (Bo.1 : Int).toNat 0))) else (none)) else (none))) = some (r1,r2,r3,r4):=h;clear h;replace H:=Option.bind_eq_some_iff.mp H;obtain ⟨⟨Ae,Bw,Bx⟩,A30,H⟩:=H;replace H : (if 0 ≤ Ae then (if (Ae : Int).toNat ≤ 35184372088832 then ((Aam.f s0_0 Bw Bx 3).bind fun Ba=>(Aab.l0 k Ae Ba.1 ([] : List Int) ([] : List Int) 0 s0_0 Ba.2.1 Ba.2.2 Ae (List.replicate (Ae : Int).toNat 0))) else (none)) else (none)) = some (r1,r2,r3,r4):=H;have A3:=A_ A30;clear A30;by_cases c4 : 0 ≤ Ae
 ·rw [if_pos c4] at H;have c4b0:=eq_true c4;have c4b1 : decide (0 ≤ Ae) = true:=decide_eq_true c4;clear c4;by_cases c5 : (Ae : Int).toNat ≤ 35184372088832
  ·rw [if_pos c5] at H;have c5b0:=eq_true c5;have c5b1 : decide ((Ae : Int).toNat ≤ 35184372088832) = true:=decide_eq_true c5;clear c5;obtain ⟨Al,Bz⟩ : ∃ y_ : List Int,y_ = (List.replicate (Ae : Int).toNat 0):=⟨_,rfl⟩;replace H : ((Aam.f s0_0 Bw Bx 3).bind fun Ba=>(Aab.l0 k Ae Ba.1 ([] : List Int) ([] : List Int) 0 s0_0 Ba.2.1 Ba.2.2 Ae Al)) = some (r1,r2,r3,r4):=by first|(rw [Bz];with_reducible exact H)|(have H2_:=(Option.bind_some _ _).symm.trans H;rw [Bz];with_reducible exact H2_)|(have H2_:=(Option.bind_some _ _).symm.trans H;with_reducible exact H2_)|with_reducible exact H|(rw [Bz];exact H)|exact H
   have Cx:=A_ Bz;clear Bz;replace H:=Option.bind_eq_some_iff.mp H;obtain ⟨⟨Ag,Cp,Cq⟩,A60,H⟩:=H;replace H : (Aab.l0 k Ae Ag ([] : List Int) ([] : List Int) 0 s0_0 Cp Cq Ae Al) = some (r1,r2,r3,r4):=H;have A6:=A_ A60;clear A60;have H':=A_ H;clear H;go_enter Tryd.func112,Tryd.ntmps112
   go_wp2_with (first|((with_reducible refine gate_dst (N:=4) rfl ?_);refine box_event ?hg (N:=4) ?hd (cs:=#[.int .i64 0,.slice none 0 0]) (t:=26) ?hr ?_;(case hd=>rfl);(case hg=>rfl);(case hr=>go_simp;try rfl);intro Am hg w7 hbox hb;replace HB:=A_ (below_step (by repeat (with_reducible first|exact HB.1|apply below_alloc|apply pw_below_drewN|apply below_drew1|refine below_set ?_ (Aaa.ge HI0.1))) hb);have Ac:=A_ (hbox);have Af:=A_ ((by rw [hg];exact (keep_size (w:=w) (g:=g) (row:=none) (by repeat (with_reducible first|exact HK.1|apply KeepBut.set_|apply keep_drewN|apply keep_drew|apply keep_alloc))) : w.heap.size ≤ Am));have Dt:=A_ ((Nat.le_trans HW0.1 (by rw [hg];exact (keep_size (w:=w) (g:=g) (row:=none) (by repeat (with_reducible first|exact HK.1|apply KeepBut.set_|apply keep_drewN|apply keep_drew|apply keep_alloc))) : w.heap.size ≤ Am) : w0.heap.size ≤ Am));replace HK:=A_ (KeepBut.trans (by repeat (with_reducible first|exact HK.1|apply KeepBut.set_|apply keep_drewN|apply keep_drew|apply keep_alloc)) (KeepBut.of_below hb g none) (.inl rfl));have NB0_145:=A_ ((by rw [hg];exact Nat.ne_of_lt (Aaa.lt (show Aaa w0 _ g s0_0 s0_1 s0_2 from is_)) : g ≠ Am));have As:=A_ ((by rw [hg];exact Nat.ne_of_gt (Aaa.lt (show Aaa w0 _ g s0_0 s0_1 s0_2 from is_)) : Am ≠ g));replace HI0:=A_ (Aaa.below (is_) hb);clear hb hbox hg)|((with_reducible refine gate_callee (f:=81) rfl ?_);refine goesL_ (some 19) rfl rfl Tryd.func81 (by kernel_rfl) rfl #[.pointer (some ⟨g,0,none⟩),.int .i64 (wrap64 (a1 + 1))] rfl au_ ?_;(with_reducible refine (Aam.calls g s0_0 s0_1 s0_2 (wrap64 (a1 + 1)) Ae Bw Bx w0 _ ?side1 ?side2 A3.1).mono ?_);(case side1=>repeat (first|(with_reducible first|exact HI0.1|apply Aaa.alloc|apply Aaa.drewN|apply Aaa.drew|apply Aaa.set_1|apply Aaa.set_2|refine Aaa.far ?_ NB0_145.1 _)|exact HI0.1));(case side2=>repeat (first|(with_reducible first|exact HB.1|apply below_alloc|apply pw_below_drewN|apply below_drew1|refine below_set ?_ (Aaa.ge HI0.1)|refine below_set ?_ (Aside0.out (by assumption)))|exact HB.1));rintro e w8 ⟨rfl,hi,hb,hk⟩;refine ⟨_,rfl,?_⟩;replace Ac:=A_ (KeepBut.blk hk (g':=Am) (o:=.cells #[.int .i64 0,.slice none 0 0] 26 (0,0)) (bl_ Ac) As.1 (by simp));replace HK:=A_ (KeepBut.trans (by repeat (with_reducible first|exact HK.1|apply KeepBut.set_|apply keep_drewN|apply keep_drew|apply keep_alloc|refine keep_far ?_ Af.1 _)) hk (.inl rfl));replace HB:=A_ (hb);replace HI0:=A_ (hi);(try clear hb);(try clear hb2);(try clear hk);(try clear hi))|((with_reducible refine gate_dst (N:=22) rfl ?_);refine Kd.R_make (Kd.int .i64) _ 3 rfl (N:=22) rfl 24 _ _ rfl Ae rfl rfl Tryd.underlying24 (.int .i64 0) 8 info3 rfl (by decide) (by omega) 0 (ok:=fun _=>True) (okp:=fun _=>True) rfl (fun _ hk=>hk) trivial (of_decide_eq_true (by first|(with_reducible assumption)|assumption)) (Nat.le_trans (Nat.mul_le_mul_right _ (of_decide_eq_true (by first|(with_reducible assumption)|assumption) : Ae.toNat ≤ 35184372088832)) (by omega)) (Below.refl _ _) (Nat.le_refl _) ?_;intro Dz w9 ho10 hb hg_ hnew_;clear hg_ hnew_;(first|rw [← Cx.1] at ho10|(simp only [Int.reduceToNat] at ho10;rw [← Cx.1] at ho10));have Bv:=A_ (Kd.R_lower ho10 (keep_size (w:=w) (g:=g) (row:=none) (by repeat (with_reducible first|exact HK.1|apply KeepBut.set_|apply keep_drewN|apply keep_drew|apply keep_alloc|refine keep_far ?_ Af.1 _))));replace Ac:=bz Ac hb;replace HK:=A_ (KeepBut.trans (by repeat (with_reducible first|exact HK.1|apply KeepBut.set_|apply keep_drewN|apply keep_drew|apply keep_alloc|refine keep_far ?_ Af.1 _)) (KeepBut.of_below hb g none) (.inl rfl));replace HB:=A_ (below_step (by repeat (with_reducible first|exact HB.1|apply below_alloc|apply pw_below_drewN|apply below_drew1|refine below_set ?_ (Aaa.ge HI0.1)|refine below_set ?_ (Aside0.out (by assumption)))) hb);replace HI0:=A_ (Aaa.below (by repeat (with_reducible first|exact HI0.1|apply Aaa.alloc|apply Aaa.drewN|apply Aaa.drew|apply Aaa.set_1|apply Aaa.set_2|refine Aaa.far ?_ NB0_145.1 _)) hb);clear hb ho10;obtain ⟨Ao11,co11,eo11⟩:=Kd.R_slice Bv.1;subst eo11)|((with_reducible refine gate_dst (N:=6) rfl ?_);refine box_event ?hg (N:=6) ?hd (cs:=#[.int .i64 0,.slice none 0 0]) (t:=26) ?hr ?_;(case hd=>rfl);(case hg=>rfl);(case hr=>go_simp;try rfl);intro An hg w12 hbox hb;replace Bv:=rb_ Bv hb;replace HB:=A_ (below_step (by repeat (with_reducible first|exact HB.1|apply below_alloc|apply pw_below_drewN|apply below_drew1|refine below_set ?_ (Aaa.ge HI0.1)|refine below_set ?_ (Aside0.out (by assumption)))) hb);have Ad:=A_ (hbox);have Aj:=A_ ((by rw [hg];exact (keep_size (w:=w) (g:=g) (row:=none) (by repeat (with_reducible first|exact HK.1|apply KeepBut.set_|apply keep_drewN|apply keep_drew|apply keep_alloc|refine keep_far ?_ Af.1 _))) : w.heap.size ≤ An));have Du:=A_ ((Nat.le_trans HW0.1 (by rw [hg];exact (keep_size (w:=w) (g:=g) (row:=none) (by repeat (with_reducible first|exact HK.1|apply KeepBut.set_|apply keep_drewN|apply keep_drew|apply keep_alloc|refine keep_far ?_ Af.1 _))) : w.heap.size ≤ An) : w0.heap.size ≤ An));replace HK:=A_ (KeepBut.trans (by repeat (with_reducible first|exact HK.1|apply KeepBut.set_|apply keep_drewN|apply keep_drew|apply keep_alloc|refine keep_far ?_ Af.1 _)) (KeepBut.of_below hb g none) (.inl rfl));have Be:=A_ (nl_ hg Ac);have Bt:=A_ (ng_ hg Ac);replace Ac:=bz Ac hb;have NB0_152:=A_ ((by rw [hg];exact Nat.ne_of_lt (Aaa.lt (show Aaa w0 _ g s0_0 Bw Bx from by repeat (first|(with_reducible first|exact HI0.1|apply Aaa.alloc|apply Aaa.drewN|apply Aaa.drew|apply Aaa.set_1|apply Aaa.set_2|refine Aaa.far ?_ NB0_145.1 _)|exact HI0.1))) : g ≠ An));have At:=A_ ((by rw [hg];exact Nat.ne_of_gt (Aaa.lt (show Aaa w0 _ g s0_0 Bw Bx from by repeat (first|(with_reducible first|exact HI0.1|apply Aaa.alloc|apply Aaa.drewN|apply Aaa.drew|apply Aaa.set_1|apply Aaa.set_2|refine Aaa.far ?_ NB0_145.1 _)|exact HI0.1))) : An ≠ g));replace HI0:=A_ (Aaa.below (by repeat (with_reducible first|exact HI0.1|apply Aaa.alloc|apply Aaa.drewN|apply Aaa.drew|apply Aaa.set_1|apply Aaa.set_2|refine Aaa.far ?_ NB0_145.1 _)) hb);clear hb hbox hg;have Z:=Bt.1;have Z:=Be.1;have Z:=At.1;have Z:=NB0_152.1;obtain ⟨Z,Z,Z,Z⟩:=o2_ Ad.1)|((with_reducible refine gate_callee (f:=81) rfl ?_);refine goesL_ (some 25) rfl rfl Tryd.func81 (by kernel_rfl) rfl #[.pointer (some ⟨g,0,none⟩),.int .i64 3] rfl au_ ?_;(with_reducible refine (Aam.calls g s0_0 Bw Bx 3 Ag Cp Cq w0 _ ?side1 ?side2 A6.1).mono ?_);(case side1=>exact is_);(case side2=>repeat (first|(with_reducible first|exact HB.1|apply below_alloc|apply pw_below_drewN|apply below_drew1|refine below_set ?_ (Aaa.ge HI0.1)|refine below_set ?_ (Aside0.out (by assumption)))|exact HB.1));rintro e w16 ⟨rfl,hi,hb,hk⟩;refine ⟨_,rfl,?_⟩;replace Ac:=A_ (KeepBut.blk hk (g':=Am) (o:=.cells #[.int .i64 0,.slice none 0 0] 26 (0,0)) (by (with_reducible repeat (first|refine blk_drewN ?_ _|refine blk_drew ?_|refine blk_alloc ?_ _));refine blk_far ?_ Be.1 _;(with_reducible repeat (first|refine blk_drewN ?_ _|refine blk_drew ?_|refine blk_alloc ?_ _));refine blk_far ?_ Be.1 _;(with_reducible repeat (first|refine blk_drewN ?_ _|refine blk_drew ?_|refine blk_alloc ?_ _));exact Ac.1) As.1 (by simp));replace Bv:=A_ (Kd.R_mono (Kd.R_keep (Aaa.apart (show Aaa w0 _ g s0_0 Bw Bx from is_) (rq_ (rf_ Bv Ad (.int .i64 Ae) (.slice Ao11 Al.length co11))) (by decide)) hk (fun _ h=>h.2)) (fun _ h=>h.1));replace Ad:=A_ (KeepBut.blk hk (g':=An) (o:=.cells #[.int .i64 Ae,.slice Ao11 Al.length co11] 26 (0,0)) (by (with_reducible repeat (first|refine blk_drewN ?_ _|refine blk_drew ?_|refine blk_alloc ?_ _));refine blk_put (cs:=#[.int .i64 Ae,.slice none 0 0]) ?_ 1 _ rfl;(with_reducible repeat (first|refine blk_drewN ?_ _|refine blk_drew ?_|refine blk_alloc ?_ _));refine blk_put (cs:=#[.int .i64 0,.slice none 0 0]) ?_ 0 _ rfl;(with_reducible repeat (first|refine blk_drewN ?_ _|refine blk_drew ?_|refine blk_alloc ?_ _));exact Ad.1) At.1 (by simp));replace HK:=A_ (KeepBut.trans (by repeat (with_reducible first|exact HK.1|apply KeepBut.set_|apply keep_drewN|apply keep_drew|apply keep_alloc|refine keep_far ?_ Af.1 _|refine keep_far ?_ Aj.1 _)) hk (.inl rfl));replace HB:=A_ (hb);replace HI0:=A_ (hi);(try clear hb);(try clear hb2);(try clear hk);(try clear hi)))
   go_loopg [8,9,10] k (fun kq v8 v9 v10 w'=>∃ (x8_1 : List Int) (x9_1 : List Int) (x10_1 : Int) (Aq : Int) (Ar : Int),v10 = .int .i64 x10_1 ∧ Aside0 (Aab.l0 kq Ae Ag x8_1 x9_1 x10_1 s0_0 Aq Ar Ae Al = some (r1,r2,r3,r4)) ∧ Aside0 (kq ≤ k) ∧ Aside0 (Kd.R (Kd.int .i64) 3 w' w.heap.size (fun k_=>some k_ ≠ (v9 : Value).ownBlock ∧ some k_ ≠ ((.slice Ao11 Al.length co11) : Value).ownBlock) v8 x8_1) ∧ Aside0 (Kd.R (Kd.int .i64) 3 w' w.heap.size (fun k_=>some k_ ≠ (v8 : Value).ownBlock ∧ some k_ ≠ ((.slice Ao11 Al.length co11) : Value).ownBlock) v9 x9_1) ∧ Aside0 (Kd.R (Kd.int .i64) 3 w' w.heap.size (fun k_=>some k_ ≠ (v8 : Value).ownBlock ∧ some k_ ≠ (v9 : Value).ownBlock) (.slice Ao11 Al.length co11) Al) ∧ Aside0 (w'.heap[Am]? = some (.cells #[.int .i64 0,(.slice none 0 0)] 26 (0,0))) ∧ Aside0 (w'.heap[An]? = some (.cells #[.int .i64 Ae,(.slice Ao11 Al.length co11)] 26 (0,0))) ∧ Aside0 (Aaa w0 w' g s0_0 Aq Ar) ∧ Aside0 (KeepBut w w' g none) ∧ Aside0 (Below w0.heap.size w0 w'))
   case atStart=>exact ⟨(([] : List Int)),(([] : List Int)),(0),(Cp),(Cq),(by first|rfl|(simp;done)|(simp [*];done)),H',⟨Nat.le_refl _⟩,⟨by first|exact Kd.R_nil _ _ _ _ _|exact Kd.N_nil _ _ _ _ _|exact Kd.V_nil _ _ _ _ _|exact Kd.Q_nil _ _ _ _ _|exact Kd.S_nil _ _ _ _ _⟩,⟨by first|exact Kd.R_nil _ _ _ _ _|exact Kd.N_nil _ _ _ _ _|exact Kd.V_nil _ _ _ _ _|exact Kd.Q_nil _ _ _ _ _|exact Kd.S_nil _ _ _ _ _⟩,⟨rq_ (Kd.R_mono Bv.1 (fun _ hk=>⟨(by simp [Value.ownBlock]),(by simp [Value.ownBlock])⟩))⟩,⟨bl_ Ac⟩,⟨bl_ Ad⟩,⟨is_⟩,⟨by repeat (first|(with_reducible first|exact HK.1|apply KeepBut.set_|apply keep_drewN|apply keep_drew|apply keep_alloc|refine keep_far ?_ Af.1 _|refine keep_far ?_ Aj.1 _)|exact HK.1)⟩,⟨by repeat (first|(with_reducible first|exact HB.1|apply below_alloc|apply pw_below_drewN|apply below_drew1|refine below_set ?_ (Aaa.ge HI0.1)|refine below_set ?_ (Aside0.out (by assumption)))|exact HB.1)⟩⟩
   case round =>
    clear H';try clear c1
    try clear p2
    try clear c4
    try clear c4b0
    try clear c4b1
    try clear c5
    try clear c5b0
    try clear c5b1
    try clear p6
    try clear c8
    try clear c11
    try clear c13
    try clear c14
    repeat clear Z
    obtain ⟨x8_1,x9_1,x10_1,Aq,Ar,rfl,HA,HK1,HO_8,HO_9,Aa,Ac,Ad,HI0,HK,HB⟩:=hrel;cases gk with
    | zero=>exact absurd HA.1 (by simp [Aab.l0])
    | succ k1 =>
     have H:=HA.1;clear HA;simp only [Aab.l0] at H
     by_cases c17 : x10_1 < Ae
     ·rw [if_pos c17] at H;have c17b0 : decide (x10_1 < Ae) = true:=decide_eq_true c17;clear c17;replace H:=Option.bind_eq_some_iff.mp H;obtain ⟨⟨Av,Bf,Bg⟩,C1,H⟩:=H;replace H : (if x8_1.length < 17592186044416 then ((some (x8_1 ++ [Av] : List Int)).bind fun Bj=>(if Ag = 1 then ((Aam.f s0_0 Bf Bg 4).bind fun Bp=>(if x9_1.length < 17592186044416 then (Aab.l0 k1 Ae Ag Bj (x9_1 ++ [wrap64 (Av + Bp.1)]) (wrap64 (x10_1 + 1)) s0_0 Bp.2.1 Bp.2.2 Ae Al) else (none))) else (if x9_1.length < 17592186044416 then (Aab.l0 k1 Ae Ag Bj (x9_1 ++ [wrap64 (Av + 2)]) (wrap64 (x10_1 + 1)) s0_0 Bf Bg Ae Al) else (none)))) else (none)) = some (r1,r2,r3,r4):=H;have A18:=A_ C1;clear C1;by_cases c19 : x8_1.length < 17592186044416
      ·rw [if_pos c19] at H;have LMc19:=A_ c19;clear c19;obtain ⟨Bj,B0⟩ : ∃ y_ : List Int,y_ = (x8_1 ++ [Av]):=⟨_,rfl⟩;replace H : (if Ag = 1 then ((Aam.f s0_0 Bf Bg 4).bind fun Bp=>(if x9_1.length < 17592186044416 then (Aab.l0 k1 Ae Ag Bj (x9_1 ++ [wrap64 (Av + Bp.1)]) (wrap64 (x10_1 + 1)) s0_0 Bp.2.1 Bp.2.2 Ae Al) else (none))) else (if x9_1.length < 17592186044416 then (Aab.l0 k1 Ae Ag Bj (x9_1 ++ [wrap64 (Av + 2)]) (wrap64 (x10_1 + 1)) s0_0 Bf Bg Ae Al) else (none))) = some (r1,r2,r3,r4):=by first|(rw [B0];with_reducible exact H)|(have H2_:=(Option.bind_some _ _).symm.trans H;rw [B0];with_reducible exact H2_)|(have H2_:=(Option.bind_some _ _).symm.trans H;with_reducible exact H2_)|with_reducible exact H|(rw [B0];exact H)|exact H
       have Cy:=A_ B0;clear B0;by_cases c20 : Ag = 1
       ·rw [if_pos c20] at H;have c20b0 : (Ag == 1) = true:=beq_iff_eq.mpr c20;have c20b1 : (Ag != 1) = false:=bne_eq_false_iff_eq.mpr c20;clear c20;replace H:=Option.bind_eq_some_iff.mp H;obtain ⟨⟨Cf,Ci,Cj⟩,C2,H⟩:=H;replace H : (if x9_1.length < 17592186044416 then (Aab.l0 k1 Ae Ag Bj (x9_1 ++ [wrap64 (Av + Cf)]) (wrap64 (x10_1 + 1)) s0_0 Ci Cj Ae Al) else (none)) = some (r1,r2,r3,r4):=H;have A21:=A_ C2;clear C2;by_cases c22 : x9_1.length < 17592186044416
        ·rw [if_pos c22] at H;have LMc22:=A_ c22;clear c22;obtain ⟨C3,B2⟩ : ∃ y_ : List Int,y_ = (x9_1 ++ [wrap64 (Av + Cf)]):=⟨_,rfl⟩;replace H : (Aab.l0 k1 Ae Ag Bj C3 (wrap64 (x10_1 + 1)) s0_0 Ci Cj Ae Al) = some (r1,r2,r3,r4):=by first|(rw [B2];with_reducible exact H)|(have H2_:=(Option.bind_some _ _).symm.trans H;rw [B2];with_reducible exact H2_)|(have H2_:=(Option.bind_some _ _).symm.trans H;with_reducible exact H2_)|with_reducible exact H|(rw [B2];exact H)|exact H
         have Dd:=A_ B2;clear B2;have H':=A_ H;clear H;go_wp2_with (first|((with_reducible refine gate_callee (f:=81) rfl ?_);refine goesL_ (some 32) rfl rfl Tryd.func81 (by kernel_rfl) rfl #[.pointer (some ⟨g,0,none⟩),.int .i64 8] rfl au_ ?_;(with_reducible refine (Aam.calls g s0_0 Aq Ar 8 Av Bf Bg w0 _ ?side1 ?side2 A18.1).mono ?_);(case side1=>exact is_);(case side2=>repeat (first|(with_reducible first|exact HB.1|apply below_alloc|apply pw_below_drewN|apply below_drew1|refine below_set ?_ (Aaa.ge HI0.1)|refine below_set ?_ (Aside0.out (by assumption)))|exact HB.1));rintro e w23 ⟨rfl,hi,hb,hk⟩;refine ⟨_,rfl,?_⟩;replace HO_8:=A_ (Kd.R_mono (Kd.R_keep (Aaa.apart (show Aaa w0 _ g s0_0 Aq Ar from is_) (rl_ HO_8) (by decide)) hk (fun _ h=>h.2)) (fun _ h=>h.1));replace HO_9:=A_ (Kd.R_mono (Kd.R_keep (Aaa.apart (show Aaa w0 _ g s0_0 Aq Ar from is_) (rl_ HO_9) (by decide)) hk (fun _ h=>h.2)) (fun _ h=>h.1));replace Aa:=A_ (Kd.R_mono (Kd.R_keep (Aaa.apart (show Aaa w0 _ g s0_0 Aq Ar from is_) (rl_ Aa) (by decide)) hk (fun _ h=>h.2)) (fun _ h=>h.1));replace Ac:=A_ (KeepBut.blk hk (g':=Am) (o:=.cells #[.int .i64 0,.slice none 0 0] 26 (0,0)) (bl_ Ac) As.1 (by simp));replace Ad:=A_ (KeepBut.blk hk (g':=An) (o:=.cells #[.int .i64 Ae,.slice Ao11 Al.length co11] 26 (0,0)) (bl_ Ad) At.1 (by simp));replace HK:=A_ (KeepBut.trans (by repeat (with_reducible first|exact HK.1|apply KeepBut.set_|apply keep_drewN|apply keep_drew|apply keep_alloc|refine keep_far ?_ Af.1 _|refine keep_far ?_ Aj.1 _)) hk (.inl rfl));replace HB:=A_ (hb);replace HI0:=A_ (hi);(try clear hb);(try clear hb2);(try clear hk);(try clear hi))|((with_reducible refine gate_builtin (b:=.append) (xs:=#[.tmp 33,.tmp 35]) rfl ?_);at_builtin;refine Kd.R_append (Kd.int .i64) w.heap.size rfl (.tmp 33) (.tmp 35) 24 3 (.int .i64 0) 8 rfl Tryd.underlying24 info3 rfl (by decide) (by omega) u8 x8_1 Av [.int .i64 Av] (fun k_=>some k_ ≠ (u9 : Value).ownBlock ∧ some k_ ≠ (.slice Ao11 Al.length co11 : Value).ownBlock) (fun _=>False) rfl rfl ?aP (fun _ hk=>hk.elim) ?aF ?aO (Below.refl _ _) ?aS ?aL ?_;(case aP=>exact rfl);(case aF=>exact (fun k_ hk=>⟨Kd.fresh' (Kd.R_lt (rl_ HO_9)) k_ hk,Kd.fresh' (Kd.R_lt (rl_ Aa)) k_ hk⟩));(case aO=>exact (rl_ HO_8));(case aS=>exact (keep_size (w:=w) (g:=g) (row:=none) (by repeat (with_reducible first|exact HK.1|apply KeepBut.set_|apply keep_drewN|apply keep_drew|apply keep_alloc|refine keep_far ?_ Af.1 _|refine keep_far ?_ Aj.1 _))));(case aL=>have:=LMc19.1;omega);intro Cg w24 ho hb hg hat;rw [← Cy.1] at ho;replace HO_9:=A_ (Kd.R_after (ok:=(fun k_=>some k_ ≠ (.slice Ao11 Al.length co11 : Value).ownBlock)) (rq_ (Kd.R_mono HO_9.1 (fun _ hk=>⟨hk.2,hk.1⟩))) hg hat);replace Aa:=A_ (Kd.R_after (ok:=(fun k_=>some k_ ≠ (u9 : Value).ownBlock)) (rq_ (Kd.R_mono Aa.1 (fun _ hk=>⟨hk.2,hk.1⟩))) hg hat);replace Ac:=A_ (blk_grown (g:=Am) (o:=.cells #[.int .i64 0,.slice none 0 0] 26 (0,0)) (bl_ Ac) hg (Kd.R_ne HO_8.1 Ac.1 (by decide)));replace Ad:=A_ (blk_grown (g:=An) (o:=.cells #[.int .i64 Ae,.slice Ao11 Al.length co11] 26 (0,0)) (bl_ Ad) hg (Kd.R_ne HO_8.1 Ad.1 (by decide)));replace HB:=A_ (below_weaken (by repeat (with_reducible first|exact HB.1|apply below_alloc|apply pw_below_drewN|apply below_drew1|refine below_set ?_ (Aaa.ge HI0.1)|refine below_set ?_ (Aside0.out (by assumption)))) HL.1 hb);replace HI0:=A_ (Aaa.grown (is_) hg (Aaa.own_ne HI0.1 HO_8.1 (by decide)));replace HK:=A_ (KeepBut.trans (by repeat (with_reducible first|exact HK.1|apply KeepBut.set_|apply keep_drewN|apply keep_drew|apply keep_alloc|refine keep_far ?_ Af.1 _|refine keep_far ?_ Aj.1 _)) (KeepBut.of_grown hg g) (Kd.R_base2 HO_8.1));have Bb:=A_ (ho);clear HO_8;clear ho hb hg hat)|((with_reducible refine gate_callee (f:=81) rfl ?_);refine goesL_ (some 42) rfl rfl Tryd.func81 (by kernel_rfl) rfl #[.pointer (some ⟨g,0,none⟩),.int .i64 4] rfl au_ ?_;(with_reducible refine (Aam.calls g s0_0 Bf Bg 4 Cf Ci Cj w0 _ ?side1 ?side2 A21.1).mono ?_);(case side1=>exact is_);(case side2=>repeat (first|(with_reducible first|exact HB.1|apply below_alloc|apply pw_below_drewN|apply below_drew1|refine below_set ?_ (Aaa.ge HI0.1)|refine below_set ?_ (Aside0.out (by assumption)))|exact HB.1));rintro e w25 ⟨rfl,hi,hb,hk⟩;refine ⟨_,rfl,?_⟩;replace HO_9:=A_ (Kd.R_mono (Kd.R_keep (Aaa.apart (show Aaa w0 _ g s0_0 Bf Bg from is_) (rl_ HO_9) (by decide)) hk (fun _ h=>h.2)) (fun _ h=>h.1));replace Aa:=A_ (Kd.R_mono (Kd.R_keep (Aaa.apart (show Aaa w0 _ g s0_0 Bf Bg from is_) (rl_ Aa) (by decide)) hk (fun _ h=>h.2)) (fun _ h=>h.1));replace Ac:=A_ (KeepBut.blk hk (g':=Am) (o:=.cells #[.int .i64 0,.slice none 0 0] 26 (0,0)) (bl_ Ac) As.1 (by simp));replace Ad:=A_ (KeepBut.blk hk (g':=An) (o:=.cells #[.int .i64 Ae,.slice Ao11 Al.length co11] 26 (0,0)) (bl_ Ad) At.1 (by simp));replace Bb:=A_ (Kd.R_mono (Kd.R_keep (Aaa.apart (show Aaa w0 _ g s0_0 Bf Bg from is_) (rl_ Bb) (by decide)) hk (fun _ h=>h.2)) (fun _ h=>h.1));replace HK:=A_ (KeepBut.trans (by repeat (with_reducible first|exact HK.1|apply KeepBut.set_|apply keep_drewN|apply keep_drew|apply keep_alloc|refine keep_far ?_ Af.1 _|refine keep_far ?_ Aj.1 _)) hk (.inl rfl));replace HB:=A_ (hb);replace HI0:=A_ (hi);(try clear hb);(try clear hb2);(try clear hk);(try clear hi))|((with_reducible refine gate_builtin (b:=.append) (xs:=#[.tmp 39,.tmp 44]) rfl ?_);at_builtin;refine Kd.R_append (Kd.int .i64) w.heap.size rfl (.tmp 39) (.tmp 44) 24 3 (.int .i64 0) 8 rfl Tryd.underlying24 info3 rfl (by decide) (by omega) u9 x9_1 (wrap64 (Av + Cf)) [.int .i64 (wrap64 (Av + Cf))] (fun k_=>some k_ ≠ (.slice Ao11 Al.length co11 : Value).ownBlock ∧ some k_ ≠ (Cg : Value).ownBlock) (fun _=>False) rfl rfl ?aP (fun _ hk=>hk.elim) ?aF ?aO (Below.refl _ _) ?aS ?aL ?_;(case aP=>exact rfl);(case aF=>exact (fun k_ hk=>⟨Kd.fresh' (Kd.R_lt (rl_ Aa)) k_ hk,Kd.fresh' (Kd.R_lt (rl_ Bb)) k_ hk⟩));(case aO=>exact (rl_ HO_9));(case aS=>exact (keep_size (w:=w) (g:=g) (row:=none) (by repeat (with_reducible first|exact HK.1|apply KeepBut.set_|apply keep_drewN|apply keep_drew|apply keep_alloc|refine keep_far ?_ Af.1 _|refine keep_far ?_ Aj.1 _))));(case aL=>have:=LMc22.1;omega);intro D0 w26 ho hb hg hat;rw [← Dd.1] at ho;replace Aa:=A_ (Kd.R_after (ok:=(fun k_=>some k_ ≠ (Cg : Value).ownBlock)) (rq_ (Kd.R_mono Aa.1 (fun _ hk=>⟨hk.2,hk.1⟩))) hg hat);replace Ac:=A_ (blk_grown (g:=Am) (o:=.cells #[.int .i64 0,.slice none 0 0] 26 (0,0)) (bl_ Ac) hg (Kd.R_ne HO_9.1 Ac.1 (by decide)));replace Ad:=A_ (blk_grown (g:=An) (o:=.cells #[.int .i64 Ae,.slice Ao11 Al.length co11] 26 (0,0)) (bl_ Ad) hg (Kd.R_ne HO_9.1 Ad.1 (by decide)));replace Bb:=A_ (Kd.R_after (ok:=(fun k_=>some k_ ≠ (.slice Ao11 Al.length co11 : Value).ownBlock)) (rq_ (Kd.R_mono Bb.1 (fun _ hk=>⟨hk.2,hk.1⟩))) hg hat);replace HB:=A_ (below_weaken (by repeat (with_reducible first|exact HB.1|apply below_alloc|apply pw_below_drewN|apply below_drew1|refine below_set ?_ (Aaa.ge HI0.1)|refine below_set ?_ (Aside0.out (by assumption)))) HL.1 hb);replace HI0:=A_ (Aaa.grown (is_) hg (Aaa.own_ne HI0.1 HO_9.1 (by decide)));replace HK:=A_ (KeepBut.trans (by repeat (with_reducible first|exact HK.1|apply KeepBut.set_|apply keep_drewN|apply keep_drew|apply keep_alloc|refine keep_far ?_ Af.1 _|refine keep_far ?_ Aj.1 _)) (KeepBut.of_grown hg g) (Kd.R_base2 HO_9.1));have De:=A_ (ho);clear HO_9;clear ho hb hg hat))
         go_roundg k1
         case measure=>have:=HK1.1;omega
         case rel=>exact ⟨(Bj),(C3),(wrap64 (x10_1 + 1)),(Ci),(Cj),(by first|rfl|(simp;done)|(simp [*];done)),H',⟨by have:=HK1.1;omega⟩,⟨rq_ (Kd.R_mono Bb.1 (fun _ hk=>⟨hk.2,hk.1⟩))⟩,⟨rq_ (Kd.R_mono De.1 (fun _ hk=>⟨hk.2,hk.1⟩))⟩,⟨rl_ Aa⟩,⟨bl_ Ac⟩,⟨bl_ Ad⟩,⟨is_⟩,⟨by repeat (first|(with_reducible first|exact HK.1|apply KeepBut.set_|apply keep_drewN|apply keep_drew|apply keep_alloc|refine keep_far ?_ Af.1 _|refine keep_far ?_ Aj.1 _)|exact HK.1)⟩,⟨by repeat (first|(with_reducible first|exact HB.1|apply below_alloc|apply pw_below_drewN|apply below_drew1|refine below_set ?_ (Aaa.ge HI0.1)|refine below_set ?_ (Aside0.out (by assumption)))|exact HB.1)⟩⟩
        ·rw [if_neg c22] at H;exact absurd H (by simp)
       ·rw [if_neg c20] at H;have c20b0 : (Ag == 1) = false:=beq_eq_false_iff_ne.mpr c20;have c20b1 : (Ag != 1) = true:=bne_iff_ne.mpr c20;by_cases c27 : x9_1.length < 17592186044416
        ·rw [if_pos c27] at H;have LMc27:=A_ c27;clear c27;obtain ⟨C4,B4⟩ : ∃ y_ : List Int,y_ = (x9_1 ++ [wrap64 (Av + 2)]):=⟨_,rfl⟩;replace H : (Aab.l0 k1 Ae Ag Bj C4 (wrap64 (x10_1 + 1)) s0_0 Bf Bg Ae Al) = some (r1,r2,r3,r4):=by first|(rw [B4];with_reducible exact H)|(have H2_:=(Option.bind_some _ _).symm.trans H;rw [B4];with_reducible exact H2_)|(have H2_:=(Option.bind_some _ _).symm.trans H;with_reducible exact H2_)|with_reducible exact H|(rw [B4];exact H)|exact H
         have Df:=A_ B4;clear B4;have H':=A_ H;clear H;go_wp2_with (first|((with_reducible refine gate_callee (f:=81) rfl ?_);refine goesL_ (some 32) rfl rfl Tryd.func81 (by kernel_rfl) rfl #[.pointer (some ⟨g,0,none⟩),.int .i64 8] rfl au_ ?_;(with_reducible refine (Aam.calls g s0_0 Aq Ar 8 Av Bf Bg w0 _ ?side1 ?side2 A18.1).mono ?_);(case side1=>exact is_);(case side2=>repeat (first|(with_reducible first|exact HB.1|apply below_alloc|apply pw_below_drewN|apply below_drew1|refine below_set ?_ (Aaa.ge HI0.1)|refine below_set ?_ (Aside0.out (by assumption)))|exact HB.1));rintro e w28 ⟨rfl,hi,hb,hk⟩;refine ⟨_,rfl,?_⟩;replace HO_8:=A_ (Kd.R_mono (Kd.R_keep (Aaa.apart (show Aaa w0 _ g s0_0 Aq Ar from is_) (rl_ HO_8) (by decide)) hk (fun _ h=>h.2)) (fun _ h=>h.1));replace HO_9:=A_ (Kd.R_mono (Kd.R_keep (Aaa.apart (show Aaa w0 _ g s0_0 Aq Ar from is_) (rl_ HO_9) (by decide)) hk (fun _ h=>h.2)) (fun _ h=>h.1));replace Aa:=A_ (Kd.R_mono (Kd.R_keep (Aaa.apart (show Aaa w0 _ g s0_0 Aq Ar from is_) (rl_ Aa) (by decide)) hk (fun _ h=>h.2)) (fun _ h=>h.1));replace Ac:=A_ (KeepBut.blk hk (g':=Am) (o:=.cells #[.int .i64 0,.slice none 0 0] 26 (0,0)) (bl_ Ac) As.1 (by simp));replace Ad:=A_ (KeepBut.blk hk (g':=An) (o:=.cells #[.int .i64 Ae,.slice Ao11 Al.length co11] 26 (0,0)) (bl_ Ad) At.1 (by simp));replace HK:=A_ (KeepBut.trans (by repeat (with_reducible first|exact HK.1|apply KeepBut.set_|apply keep_drewN|apply keep_drew|apply keep_alloc|refine keep_far ?_ Af.1 _|refine keep_far ?_ Aj.1 _)) hk (.inl rfl));replace HB:=A_ (hb);replace HI0:=A_ (hi);(try clear hb);(try clear hb2);(try clear hk);(try clear hi))|((with_reducible refine gate_builtin (b:=.append) (xs:=#[.tmp 33,.tmp 35]) rfl ?_);at_builtin;refine Kd.R_append (Kd.int .i64) w.heap.size rfl (.tmp 33) (.tmp 35) 24 3 (.int .i64 0) 8 rfl Tryd.underlying24 info3 rfl (by decide) (by omega) u8 x8_1 Av [.int .i64 Av] (fun k_=>some k_ ≠ (u9 : Value).ownBlock ∧ some k_ ≠ (.slice Ao11 Al.length co11 : Value).ownBlock) (fun _=>False) rfl rfl ?aP (fun _ hk=>hk.elim) ?aF ?aO (Below.refl _ _) ?aS ?aL ?_;(case aP=>exact rfl);(case aF=>exact (fun k_ hk=>⟨Kd.fresh' (Kd.R_lt (rl_ HO_9)) k_ hk,Kd.fresh' (Kd.R_lt (rl_ Aa)) k_ hk⟩));(case aO=>exact (rl_ HO_8));(case aS=>exact (keep_size (w:=w) (g:=g) (row:=none) (by repeat (with_reducible first|exact HK.1|apply KeepBut.set_|apply keep_drewN|apply keep_drew|apply keep_alloc|refine keep_far ?_ Af.1 _|refine keep_far ?_ Aj.1 _))));(case aL=>have:=LMc19.1;omega);intro Cg w29 ho hb hg hat;rw [← Cy.1] at ho;replace HO_9:=A_ (Kd.R_after (ok:=(fun k_=>some k_ ≠ (.slice Ao11 Al.length co11 : Value).ownBlock)) (rq_ (Kd.R_mono HO_9.1 (fun _ hk=>⟨hk.2,hk.1⟩))) hg hat);replace Aa:=A_ (Kd.R_after (ok:=(fun k_=>some k_ ≠ (u9 : Value).ownBlock)) (rq_ (Kd.R_mono Aa.1 (fun _ hk=>⟨hk.2,hk.1⟩))) hg hat);replace Ac:=A_ (blk_grown (g:=Am) (o:=.cells #[.int .i64 0,.slice none 0 0] 26 (0,0)) (bl_ Ac) hg (Kd.R_ne HO_8.1 Ac.1 (by decide)));replace Ad:=A_ (blk_grown (g:=An) (o:=.cells #[.int .i64 Ae,.slice Ao11 Al.length co11] 26 (0,0)) (bl_ Ad) hg (Kd.R_ne HO_8.1 Ad.1 (by decide)));replace HB:=A_ (below_weaken (by repeat (with_reducible first|exact HB.1|apply below_alloc|apply pw_below_drewN|apply below_drew1|refine below_set ?_ (Aaa.ge HI0.1)|refine below_set ?_ (Aside0.out (by assumption)))) HL.1 hb);replace HI0:=A_ (Aaa.grown (is_) hg (Aaa.own_ne HI0.1 HO_8.1 (by decide)));replace HK:=A_ (KeepBut.trans (by repeat (with_reducible first|exact HK.1|apply KeepBut.set_|apply keep_drewN|apply keep_drew|apply keep_alloc|refine keep_far ?_ Af.1 _|refine keep_far ?_ Aj.1 _)) (KeepBut.of_grown hg g) (Kd.R_base2 HO_8.1));have Bb:=A_ (ho);clear HO_8;clear ho hb hg hat)|((with_reducible refine gate_builtin (b:=.append) (xs:=#[.tmp 46,.tmp 49]) rfl ?_);at_builtin;refine Kd.R_append (Kd.int .i64) w.heap.size rfl (.tmp 46) (.tmp 49) 24 3 (.int .i64 0) 8 rfl Tryd.underlying24 info3 rfl (by decide) (by omega) u9 x9_1 (wrap64 (Av + 2)) [.int .i64 (wrap64 (Av + 2))] (fun k_=>some k_ ≠ (.slice Ao11 Al.length co11 : Value).ownBlock ∧ some k_ ≠ (Cg : Value).ownBlock) (fun _=>False) rfl rfl ?aP (fun _ hk=>hk.elim) ?aF ?aO (Below.refl _ _) ?aS ?aL ?_;(case aP=>exact rfl);(case aF=>exact (fun k_ hk=>⟨Kd.fresh' (Kd.R_lt (rl_ Aa)) k_ hk,Kd.fresh' (Kd.R_lt (rl_ Bb)) k_ hk⟩));(case aO=>exact (rl_ HO_9));(case aS=>exact (keep_size (w:=w) (g:=g) (row:=none) (by repeat (with_reducible first|exact HK.1|apply KeepBut.set_|apply keep_drewN|apply keep_drew|apply keep_alloc|refine keep_far ?_ Af.1 _|refine keep_far ?_ Aj.1 _))));(case aL=>have:=LMc27.1;omega);intro D1 w30 ho hb hg hat;rw [← Df.1] at ho;replace Aa:=A_ (Kd.R_after (ok:=(fun k_=>some k_ ≠ (Cg : Value).ownBlock)) (rq_ (Kd.R_mono Aa.1 (fun _ hk=>⟨hk.2,hk.1⟩))) hg hat);replace Ac:=A_ (blk_grown (g:=Am) (o:=.cells #[.int .i64 0,.slice none 0 0] 26 (0,0)) (bl_ Ac) hg (Kd.R_ne HO_9.1 Ac.1 (by decide)));replace Ad:=A_ (blk_grown (g:=An) (o:=.cells #[.int .i64 Ae,.slice Ao11 Al.length co11] 26 (0,0)) (bl_ Ad) hg (Kd.R_ne HO_9.1 Ad.1 (by decide)));replace Bb:=A_ (Kd.R_after (ok:=(fun k_=>some k_ ≠ (.slice Ao11 Al.length co11 : Value).ownBlock)) (rq_ (Kd.R_mono Bb.1 (fun _ hk=>⟨hk.2,hk.1⟩))) hg hat);replace HB:=A_ (below_weaken (by repeat (with_reducible first|exact HB.1|apply below_alloc|apply pw_below_drewN|apply below_drew1|refine below_set ?_ (Aaa.ge HI0.1)|refine below_set ?_ (Aside0.out (by assumption)))) HL.1 hb);replace HI0:=A_ (Aaa.grown (is_) hg (Aaa.own_ne HI0.1 HO_9.1 (by decide)));replace HK:=A_ (KeepBut.trans (by repeat (with_reducible first|exact HK.1|apply KeepBut.set_|apply keep_drewN|apply keep_drew|apply keep_alloc|refine keep_far ?_ Af.1 _|refine keep_far ?_ Aj.1 _)) (KeepBut.of_grown hg g) (Kd.R_base2 HO_9.1));have Dg:=A_ (ho);clear HO_9;clear ho hb hg hat))
         go_roundg k1
         case measure=>have:=HK1.1;omega
         case rel=>exact ⟨(Bj),(C4),(wrap64 (x10_1 + 1)),(Bf),(Bg),(by first|rfl|(simp;done)|(simp [*];done)),H',⟨by have:=HK1.1;omega⟩,⟨rq_ (Kd.R_mono Bb.1 (fun _ hk=>⟨hk.2,hk.1⟩))⟩,⟨rq_ (Kd.R_mono Dg.1 (fun _ hk=>⟨hk.2,hk.1⟩))⟩,⟨rl_ Aa⟩,⟨bl_ Ac⟩,⟨bl_ Ad⟩,⟨is_⟩,⟨by repeat (first|(with_reducible first|exact HK.1|apply KeepBut.set_|apply keep_drewN|apply keep_drew|apply keep_alloc|refine keep_far ?_ Af.1 _|refine keep_far ?_ Aj.1 _)|exact HK.1)⟩,⟨by repeat (first|(with_reducible first|exact HB.1|apply below_alloc|apply pw_below_drewN|apply below_drew1|refine below_set ?_ (Aaa.ge HI0.1)|refine below_set ?_ (Aside0.out (by assumption)))|exact HB.1)⟩⟩
        ·rw [if_neg c27] at H;exact absurd H (by simp)
      ·rw [if_neg c19] at H;exact absurd H (by simp)
     ·rw [if_neg c17] at H;have c17b0 : decide (x10_1 < Ae) = false:=decide_eq_false c17;clear c17;have H':=A_ H;clear H;go_wp2
      go_loopg [12] k1 (fun kq v12 w'=>∃ (x8_2 : List Int) (x9_2 : List Int) (x12_2 : Int) (Bc : Int) (Bd : Int) (Au : List Int) (Ak : Value),v12 = .int .i64 x12_2 ∧ Aside0 (Aab.l1 kq Ae Ag x8_2 x9_2 x12_2 s0_0 Bc Bd Ae Au = some (r1,r2,r3,r4)) ∧ Aside0 (kq ≤ k1) ∧ Aside0 (Kd.R (Kd.int .i64) 3 w' w.heap.size (fun k_=>some k_ ≠ (u9 : Value).ownBlock ∧ some k_ ≠ (Ak : Value).ownBlock) u8 x8_2) ∧ Aside0 (Kd.R (Kd.int .i64) 3 w' w.heap.size (fun k_=>some k_ ≠ (u8 : Value).ownBlock ∧ some k_ ≠ (Ak : Value).ownBlock) u9 x9_2) ∧ Aside0 (Kd.R (Kd.int .i64) 3 w' w.heap.size (fun k_=>some k_ ≠ (u8 : Value).ownBlock ∧ some k_ ≠ (u9 : Value).ownBlock) Ak Au) ∧ Aside0 (w'.heap[Am]? = some (.cells #[.int .i64 0,(.slice none 0 0)] 26 (0,0))) ∧ Aside0 (w'.heap[An]? = some (.cells #[.int .i64 Ae,Ak] 26 (0,0))) ∧ Aside0 (Aaa w0 w' g s0_0 Bc Bd) ∧ Aside0 (KeepBut w w' g none) ∧ Aside0 (Below w0.heap.size w0 w'))
      case atStart=>exact ⟨(x8_1),(x9_1),(0),(Aq),(Ar),(Al),(.slice Ao11 Al.length co11),(by first|rfl|(simp;done)|(simp [*];done)),H',⟨Nat.le_refl _⟩,⟨rl_ HO_8⟩,⟨rl_ HO_9⟩,⟨rl_ Aa⟩,⟨bl_ Ac⟩,⟨bl_ Ad⟩,⟨is_⟩,⟨by repeat (first|(with_reducible first|exact HK.1|apply KeepBut.set_|apply keep_drewN|apply keep_drew|apply keep_alloc|refine keep_far ?_ Af.1 _|refine keep_far ?_ Aj.1 _)|exact HK.1)⟩,⟨by repeat (first|(with_reducible first|exact HB.1|apply below_alloc|apply pw_below_drewN|apply below_drew1|refine below_set ?_ (Aaa.ge HI0.1)|refine below_set ?_ (Aside0.out (by assumption)))|exact HB.1)⟩⟩
      case round =>
       clear H';try clear c1
       try clear c2
       try clear p2
       try clear c4
       try clear c4b0
       try clear c4b1
       try clear c5
       try clear c5b0
       try clear c5b1
       try clear p6
       try clear c8
       try clear c11
       try clear c13
       try clear c14
       try clear c17
       try clear c17b0
       try clear c19
       try clear c20
       try clear c20b0
       try clear c20b1
       try clear c22
       try clear c27
       repeat clear Z
       try clear p2
       try clear p6
       obtain ⟨x8_2,x9_2,x12_2,Bc,Bd,Au,Ak,rfl,HA,HK2,HO_8,HO_9,Aa,Ac,Ad,HI0,HK,HB⟩:=hrel;cases gk with
       | zero=>exact absurd HA.1 (by simp [Aab.l1])
       | succ k2 =>
        have H:=HA.1;clear HA;simp only [Aab.l1] at H
        by_cases c31 : x12_2 < Ae
        ·rw [if_pos c31] at H;have c31b0 : decide (x12_2 < Ae) = true:=decide_eq_true c31;clear c31;have H':=A_ H;clear H;go_wp2
         go_loopg [13] k2 (fun kq v13 w'=>∃ (x8_3 : List Int) (x9_3 : List Int) (x13_3 : Int) (Ah : Int) (Ai : Int) (Ab : List Int) (Ak : Value),v13 = .int .i64 x13_3 ∧ Aside0 (Aab.l2 kq Ae Ag x8_3 x9_3 x12_2 x13_3 s0_0 Ah Ai Ae Ab = some (r1,r2,r3,r4)) ∧ Aside0 (kq ≤ k2) ∧ Aside0 (Kd.R (Kd.int .i64) 3 w' w.heap.size (fun k_=>some k_ ≠ (u9 : Value).ownBlock ∧ some k_ ≠ (Ak : Value).ownBlock) u8 x8_3) ∧ Aside0 (Kd.R (Kd.int .i64) 3 w' w.heap.size (fun k_=>some k_ ≠ (u8 : Value).ownBlock ∧ some k_ ≠ (Ak : Value).ownBlock) u9 x9_3) ∧ Aside0 (Kd.R (Kd.int .i64) 3 w' w.heap.size (fun k_=>some k_ ≠ (u8 : Value).ownBlock ∧ some k_ ≠ (u9 : Value).ownBlock) Ak Ab) ∧ Aside0 (w'.heap[Am]? = some (.cells #[.int .i64 0,(.slice none 0 0)] 26 (0,0))) ∧ Aside0 (w'.heap[An]? = some (.cells #[.int .i64 Ae,Ak] 26 (0,0))) ∧ Aside0 (Aaa w0 w' g s0_0 Ah Ai) ∧ Aside0 (KeepBut w w' g none) ∧ Aside0 (Below w0.heap.size w0 w'))
         case atStart=>exact ⟨(x8_2),(x9_2),(0),(Bc),(Bd),(Au),(Ak),(by first|rfl|(simp;done)|(simp [*];done)),H',⟨Nat.le_refl _⟩,⟨rl_ HO_8⟩,⟨rl_ HO_9⟩,⟨rl_ Aa⟩,⟨bl_ Ac⟩,⟨bl_ Ad⟩,⟨is_⟩,⟨by repeat (first|(with_reducible first|exact HK.1|apply KeepBut.set_|apply keep_drewN|apply keep_drew|apply keep_alloc|refine keep_far ?_ Af.1 _|refine keep_far ?_ Aj.1 _)|exact HK.1)⟩,⟨by repeat (first|(with_reducible first|exact HB.1|apply below_alloc|apply pw_below_drewN|apply below_drew1|refine below_set ?_ (Aaa.ge HI0.1)|refine below_set ?_ (Aside0.out (by assumption)))|exact HB.1)⟩⟩
         case round =>
          clear H';try clear c1
          try clear c2
          try clear p2
          try clear c3
          try clear c4
          try clear c4b0
          try clear c4b1
          try clear c5
          try clear c5b0
          try clear c5b1
          try clear p6
          try clear c8
          try clear c11
          try clear c13
          try clear c14
          try clear c17
          try clear c17b0
          try clear c19
          try clear c20
          try clear c20b0
          try clear c20b1
          try clear c22
          try clear c27
          try clear c31
          try clear c31b0
          repeat clear Z
          try clear p2
          try clear p6
          obtain ⟨x8_3,x9_3,x13_3,Ah,Ai,Ab,Ak,rfl,HA,HK3,HO_8,HO_9,Aa,Ac,Ad,HI0,HK,HB⟩:=hrel;cases gk with
          | zero=>exact absurd HA.1 (by simp [Aab.l2])
          | succ k3 =>
           have H:=HA.1;clear HA;simp only [Aab.l2] at H
           by_cases c32 : x13_3 < Ae
           ·rw [if_pos c32] at H;have c32b0 : decide (x13_3 < Ae) = true:=decide_eq_true c32;clear c32;by_cases c33 : Ag > 0
            ·rw [if_pos c33] at H;have c33b0 : decide (0 < Ag) = true:=decide_eq_true c33;clear c33;by_cases c34 : 0 ≤ x12_2
             ·rw [if_pos c34] at H;have c34b0 : decide (0 ≤ x12_2) = true:=decide_eq_true c34;clear c34;by_cases c35 : x12_2 < (x9_3.length : Int)
              ·rw [if_pos c35] at H;have c35b0 : decide (x12_2 < (x9_3.length : Int)) = true:=decide_eq_true c35;clear c35;by_cases c36 : 0 ≤ x13_3
               ·rw [if_pos c36] at H;have c36b0 : decide (0 ≤ x13_3) = true:=decide_eq_true c36;clear c36;by_cases c37 : x13_3 < (x8_3.length : Int)
                ·rw [if_pos c37] at H;have c37b0 : decide (x13_3 < (x8_3.length : Int)) = true:=decide_eq_true c37;clear c37;by_cases c38 : (rd x9_3 x12_2) < (rd x8_3 x13_3)
                 ·rw [if_pos c38] at H;have c38b0 : decide ((rd x9_3 x12_2) < (rd x8_3 x13_3)) = true:=decide_eq_true c38;clear c38;by_cases c39 : x12_2 < (Ab.length : Int)
                  ·rw [if_pos c39] at H;have c39b0 : decide (x12_2 < (Ab.length : Int)) = true:=decide_eq_true c39;clear c39;have c40b0:=eq_true (of_decide_eq_true (by first|(with_reducible assumption)|assumption) : 0 ≤ x13_3);obtain ⟨ji41,hji41⟩ : ∃ j_ : Int,(shl .i64 1 x13_3) = j_:=⟨_,rfl⟩;replace H : (Aab.l2 k3 Ae Ag x8_3 x9_3 x12_2 (wrap64 (x13_3 + 1)) s0_0 Ah Ai Ae (Ab.set (x12_2 : Int).toNat (Go.bits .or .i64 (rd Ab x12_2) (ji41)))) = some (r1,r2,r3,r4):=by first|(rw [hji41] at H;exact H)|(simp only [hji41] at H ⊢;exact H)
                   have hji41_ : (IntKind.i64.wrap (1 * 2 ^ min x13_3.toNat 64)) = ji41:=hji41;have hji41z : x13_3 ≤ 64 → (IntKind.i64.wrap (1 * 2 ^ x13_3.toNat)) = ji41:=shl_small hji41;have hji41u : (IntKind.i64.wrap (2 ^ min x13_3.toNat 64)) = ji41:=by have h_:=hji41_;rw [Int.one_mul] at h_;exact h_
                   have hji41v : x13_3 ≤ 64 → (IntKind.i64.wrap (2 ^ x13_3.toNat)) = ji41:=fun hle_=>by have h_:=hji41z hle_;rw [Int.one_mul] at h_;exact h_
                   have hji41y : (wrap64 (1 * 2 ^ min x13_3.toNat 64)) = ji41:=(i64_w _).symm.trans hji41_;have hji41x : x13_3 ≤ 64 → (wrap64 (1 * 2 ^ x13_3.toNat)) = ji41:=fun h_=>(i64_w _).symm.trans (hji41z h_)
                   obtain ⟨C5,B6⟩ : ∃ y_ : List Int,y_ = (Ab.set (x12_2 : Int).toNat (Go.bits .or .i64 (rd Ab x12_2) (ji41))):=⟨_,rfl⟩;replace H : (Aab.l2 k3 Ae Ag x8_3 x9_3 x12_2 (wrap64 (x13_3 + 1)) s0_0 Ah Ai Ae C5) = some (r1,r2,r3,r4):=by first|(rw [B6];with_reducible exact H)|(have H2_:=(Option.bind_some _ _).symm.trans H;rw [B6];with_reducible exact H2_)|(have H2_:=(Option.bind_some _ _).symm.trans H;with_reducible exact H2_)|with_reducible exact H|(rw [B6];exact H)|exact H
                   have Dh:=A_ B6;clear B6;have H':=A_ H;clear H;try go_wp2
                   replace HO_8:=A_ (Kd.R_drew HO_8.1);replace HO_9:=A_ (Kd.R_drew HO_9.1);replace Aa:=A_ (Kd.R_drew Aa.1);replace Ac:=A_ (blk_drew Ac.1);replace Ad:=A_ (blk_drew Ad.1);replace HI0:=A_ (Aaa.drew HI0.1);replace HK:=A_ (keep_drew HK.1);replace HB:=A_ (below_drew1 HB.1);obtain ⟨Ao44,co44,eo44⟩:=Kd.R_slice HO_9.1;(first|subst eo44|(injection eo44 with f1_ f2_ f3_;have f4_:=f1_.symm;have f5_:=f3_.symm;clear f1_ f2_ f3_;subst f4_;subst f5_))
                   have Aw : 0 ≤ (x12_2 : Int):=of_decide_eq_true (by first|(with_reducible assumption)|assumption);have Ax : x12_2 < (x9_3.length : Int):=of_decide_eq_true (by first|(with_reducible assumption)|assumption);obtain ⟨Bh,Bq,Ao⟩:=Kd.at_int (Kd.R_reads' HO_9.1).2.2 x12_2 Aw Ax;cases Bq
                   replace Aw:=eq_true Aw;replace Ax:=eq_true Ax;obtain ⟨Ao45,co45,eo45⟩:=Kd.R_slice HO_8.1;(first|subst eo45|(injection eo45 with f1_ f2_ f3_;have f4_:=f1_.symm;have f5_:=f3_.symm;clear f1_ f2_ f3_;subst f4_;subst f5_))
                   have Ay : 0 ≤ (x13_3 : Int):=of_decide_eq_true (by first|(with_reducible assumption)|assumption);have Az : x13_3 < (x8_3.length : Int):=of_decide_eq_true (by first|(with_reducible assumption)|assumption);obtain ⟨Bi,Br,Ap⟩:=Kd.at_int (Kd.R_reads' HO_8.1).2.2 x13_3 Ay Az;cases Br
                   replace Ay:=eq_true Ay;replace Az:=eq_true Az;refine start_ (n:=26) (S:=fun w'=>w'.cell? (Bh.add (x12_2).toNat) = some (.int .i64 (rd x9_3 x12_2)) ∧ w'.cell? (Bi.add (x13_3).toNat) = some (.int .i64 (rd x8_3 x13_3))) (ds:=[]) #[F,F,F,F,F,F,F,F,F,F,F,F,F,F,F,F,F,F,F,F,F,F,F,F,F,F] (by kernel_rfl) rfl rfl ⟨Ao,Ap⟩ (fun hHeld=>?_);refine with_tabW Aab.tab19 Aab.bits19 (fun HT_ HW_=>?_)
                   generalize wr.drew = w43 at HO_8 HO_9 Aa Ac Ad HI0 HK HB Ao Ap hHeld ⊢
                   refine pu_ (i:=0) (N:=61) #[T,F,F,F,F,F,F,F,F,F,F,F,F,F,F,F,F,F,F,F,F,F,F,F,F,F] HT_.1 rfl rfl (fun _ _ _ h=>h) rfl (h:=?_)
                   refine pu_ (i:=1) (N:=62) #[T,T,F,F,F,F,F,F,F,F,F,F,F,F,F,F,F,F,F,F,F,F,F,F,F,F] HT_.1 rfl rfl (fun _ _ _ h=>h) rfl (h:=?_)
                   refine pu_ (i:=2) (N:=63) #[T,T,T,F,F,F,F,F,F,F,F,F,F,F,F,F,F,F,F,F,F,F,F,F,F,F] HT_.1 rfl rfl (fun _ _ _ h=>h) rfl (h:=?_)
                   refine pu_ (i:=3) (N:=64) #[T,T,T,T,F,F,F,F,F,F,F,F,F,F,F,F,F,F,F,F,F,F,F,F,F,F] HT_.1 rfl rfl (fun _ _ _ h=>h) rfl (h:=?_)
                   refine pu_ (i:=4) (N:=65) #[T,T,T,T,T,F,F,F,F,F,F,F,F,F,F,F,F,F,F,F,F,F,F,F,F,F] HT_.1 rfl rfl (fun _ _ _ h=>h) rfl (h:=?_)
                   refine pu_ (i:=5) (N:=66) #[T,T,T,T,T,T,F,F,F,F,F,F,F,F,F,F,F,F,F,F,F,F,F,F,F,F] HT_.1 rfl rfl (fun _ _ _ h=>h) rfl (h:=?_)
                   refine pu_ (i:=7) (N:=68) #[T,T,T,T,T,T,F,T,F,F,F,F,F,F,F,F,F,F,F,F,F,F,F,F,F,F] HT_.1 rfl rfl (fun _ _ _ h=>h) rfl (h:=?_)
                   refine pu_ (i:=8) (N:=69) #[T,T,T,T,T,T,F,T,T,F,F,F,F,F,F,F,F,F,F,F,F,F,F,F,F,F] HT_.1 rfl rfl (fun _ _ _ h=>h) rfl (h:=?_)
                   refine pu_ (i:=9) (N:=70) #[T,T,T,T,T,T,F,T,T,T,F,F,F,F,F,F,F,F,F,F,F,F,F,F,F,F] HT_.1 rfl rfl (fun _ _ _ h=>h) rfl (h:=?_)
                   refine take_ (i:=6) (N:=some 67) (v:=?_) (a':=?_) #[T,T,T,T,T,T,T,T,T,T,F,F,F,F,F,F,F,F,F,F,F,F,F,F,F,F] rfl rfl (take_ofW HT_.1 HW_.1 (by kernel_rfl)) (fun _ _ _ h=>h) (Or.inl ⟨by rfl,?_⟩) hHeld ?_ ?_
                   rotate_left
                   ·rintro w' ⟨s0,s1⟩
                    go_simp
                    with_reducible rfl
                   rotate_left;·simp only [Act.put,L_,M_,N_,i64_w,i32_w];rfl
                   refine take_ (i:=10) (N:=some 71) (v:=?_) (a':=?_) #[T,T,T,T,T,T,T,T,T,T,T,F,F,F,F,F,F,F,F,F,F,F,F,F,F,F] rfl rfl (take_ofW HT_.1 HW_.1 (by kernel_rfl)) (fun _ _ _ h=>h) (Or.inl ⟨by rfl,?_⟩) hHeld ?_ ?_
                   rotate_left
                   ·rintro w' ⟨s0,s1⟩
                    go_simp
                    with_reducible rfl
                   rotate_left;·simp only [Act.put,L_,M_,N_,i64_w,i32_w];rfl
                   refine pu_ (i:=11) (N:=72) #[T,T,T,T,T,T,T,T,T,T,T,T,F,F,F,F,F,F,F,F,F,F,F,F,F,F] HT_.1 rfl rfl (fun _ _ _ h=>h) rfl (h:=?_)
                   refine pu_ (i:=12) (N:=73) #[T,T,T,T,T,T,T,T,T,T,T,T,T,F,F,F,F,F,F,F,F,F,F,F,F,F] HT_.1 rfl rfl (fun _ _ _ h=>h) rfl (h:=?_)
                   refine pu_ (i:=13) (N:=74) #[T,T,T,T,T,T,T,T,T,T,T,T,T,T,F,F,F,F,F,F,F,F,F,F,F,F] HT_.1 rfl rfl (fun _ _ _ h=>h) rfl (h:=?_)
                   refine pure_ (i:=14) (N:=some 75) (v:=undef) (a':=?_) #[T,T,T,T,T,T,T,T,T,T,T,T,T,T,T,F,F,F,F,F,F,F,F,F,F,F] rfl rfl (any_of HT_.1 (by kernel_rfl)) (fun _ _ _ h=>h) (Or.inr ⟨by rfl,rfl⟩) ?_ ?_
                   rotate_left;·simp only [Act.put,L_,M_,N_,i64_w,i32_w];rfl
                   refine pure_ (i:=15) (N:=some 76) (v:=undef) (a':=?_) #[T,T,T,T,T,T,T,T,T,T,T,T,T,T,T,T,F,F,F,F,F,F,F,F,F,F] rfl rfl (any_of HT_.1 (by kernel_rfl)) (fun _ _ _ h=>h) (Or.inr ⟨by rfl,rfl⟩) ?_ ?_
                   rotate_left;·simp only [Act.put,L_,M_,N_,i64_w,i32_w];rfl
                   refine pure_ (i:=16) (N:=some 77) (v:=undef) (a':=?_) #[T,T,T,T,T,T,T,T,T,T,T,T,T,T,T,T,T,F,F,F,F,F,F,F,F,F] rfl rfl (any_of HT_.1 (by kernel_rfl)) (fun _ _ _ h=>h) (Or.inr ⟨by rfl,rfl⟩) ?_ ?_
                   rotate_left;·simp only [Act.put,L_,M_,N_,i64_w,i32_w];rfl
                   refine pure_ (i:=17) (N:=some 78) (v:=undef) (a':=?_) #[T,T,T,T,T,T,T,T,T,T,T,T,T,T,T,T,T,T,F,F,F,F,F,F,F,F] rfl rfl (any_of HT_.1 (by kernel_rfl)) (fun _ _ _ h=>h) (Or.inr ⟨by rfl,rfl⟩) ?_ ?_
                   rotate_left;·simp only [Act.put,L_,M_,N_,i64_w,i32_w];rfl
                   refine pure_ (i:=18) (N:=some 79) (v:=undef) (a':=?_) #[T,T,T,T,T,T,T,T,T,T,T,T,T,T,T,T,T,T,T,F,F,F,F,F,F,F] rfl rfl (any_of HT_.1 (by kernel_rfl)) (fun _ _ _ h=>h) (Or.inr ⟨by rfl,rfl⟩) ?_ ?_
                   rotate_left;·simp only [Act.put,L_,M_,N_,i64_w,i32_w];rfl
                   refine pure_ (i:=19) (N:=some 80) (v:=undef) (a':=?_) #[T,T,T,T,T,T,T,T,T,T,T,T,T,T,T,T,T,T,T,T,F,F,F,F,F,F] rfl rfl (any_of HT_.1 (by kernel_rfl)) (fun _ _ _ h=>h) (Or.inr ⟨by rfl,rfl⟩) ?_ ?_
                   rotate_left;·simp only [Act.put,L_,M_,N_,i64_w,i32_w];rfl
                   refine pure_ (i:=20) (N:=some 81) (v:=undef) (a':=?_) #[T,T,T,T,T,T,T,T,T,T,T,T,T,T,T,T,T,T,T,T,T,F,F,F,F,F] rfl rfl (any_of HT_.1 (by kernel_rfl)) (fun _ _ _ h=>h) (Or.inr ⟨by rfl,rfl⟩) ?_ ?_
                   rotate_left;·simp only [Act.put,L_,M_,N_,i64_w,i32_w];rfl
                   refine pure_ (i:=21) (N:=some 82) (v:=undef) (a':=?_) #[T,T,T,T,T,T,T,T,T,T,T,T,T,T,T,T,T,T,T,T,T,T,F,F,F,F] rfl rfl (any_of HT_.1 (by kernel_rfl)) (fun _ _ _ h=>h) (Or.inr ⟨by rfl,rfl⟩) ?_ ?_
                   rotate_left;·simp only [Act.put,L_,M_,N_,i64_w,i32_w];rfl
                   refine pure_ (i:=22) (N:=some 83) (v:=undef) (a':=?_) #[T,T,T,T,T,T,T,T,T,T,T,T,T,T,T,T,T,T,T,T,T,T,T,F,F,F] rfl rfl (any_of HT_.1 (by kernel_rfl)) (fun _ _ _ h=>h) (Or.inr ⟨by rfl,rfl⟩) ?_ ?_
                   rotate_left;·simp only [Act.put,L_,M_,N_,i64_w,i32_w];rfl
                   refine pure_ (i:=23) (N:=some 84) (v:=undef) (a':=?_) #[T,T,T,T,T,T,T,T,T,T,T,T,T,T,T,T,T,T,T,T,T,T,T,T,F,F] rfl rfl (any_of HT_.1 (by kernel_rfl)) (fun _ _ _ h=>h) (Or.inr ⟨by rfl,rfl⟩) ?_ ?_
                   rotate_left;·simp only [Act.put,L_,M_,N_,i64_w,i32_w];rfl
                   refine pure_ (i:=24) (N:=some 85) (v:=undef) (a':=?_) #[T,T,T,T,T,T,T,T,T,T,T,T,T,T,T,T,T,T,T,T,T,T,T,T,T,F] rfl rfl (any_of HT_.1 (by kernel_rfl)) (fun _ _ _ h=>h) (Or.inr ⟨by rfl,rfl⟩) ?_ ?_
                   rotate_left;·simp only [Act.put,L_,M_,N_,i64_w,i32_w];rfl
                   refine pu_ (i:=25) (N:=86) #[T,T,T,T,T,T,T,T,T,T,T,T,T,T,T,T,T,T,T,T,T,T,T,T,T,T] HT_.1 rfl rfl (fun _ _ _ h=>h) rfl (h:=?_)
                   refine done_ (done_of HT_.1 (by kernel_rfl)) ?_
                   try go_wp2
                   replace HO_8:=A_ (Kd.R_drew HO_8.1);replace HO_9:=A_ (Kd.R_drew HO_9.1);replace Aa:=A_ (Kd.R_drew Aa.1);replace Ac:=A_ (blk_drew Ac.1);replace Ad:=A_ (blk_drew Ad.1);replace HI0:=A_ (Aaa.drew HI0.1);replace HK:=A_ (keep_drew HK.1);replace HB:=A_ (below_drew1 HB.1);obtain ⟨Ao47,co47,eo47⟩:=Kd.R_slice Aa.1;(first|subst eo47|(injection eo47 with f1_ f2_ f3_;have f4_:=f1_.symm;have f5_:=f3_.symm;clear f1_ f2_ f3_;subst f4_;subst f5_))
                   have Cr : 0 ≤ (x12_2 : Int):=of_decide_eq_true (by first|(with_reducible assumption)|assumption);have Cs : x12_2 < (Ab.length : Int):=of_decide_eq_true (by first|(with_reducible assumption)|assumption);obtain ⟨Dv,Dp,Ca⟩:=Kd.at_int (Kd.R_reads' Aa.1).2.2 x12_2 Cr Cs;cases Dp
                   replace Cr:=eq_true Cr;replace Cs:=eq_true Cs;have p42 : 0 ≤ (x12_2 : Int):=of_decide_eq_true (by first|(with_reducible assumption)|assumption);have q42 : (x12_2 : Int) < ((Ab.length : Int) : Int):=of_decide_eq_true (by first|(with_reducible assumption)|assumption);obtain ⟨go42,co42,eo42,gb42,gl42,cl42,HG42⟩:=Kd.R_form Aa.1 (by omega);(first|cases eo42|(injection eo42 with ea_ en_ ec_;(first|subst ea_|(injection ea_ with ea_;subst ea_));subst ec_;clear en_))
                   have GB42:=A_ gb42;have GG42:=A_ HG42;clear gb42 gl42 HG42;(first|simp only [add_plain] at Ca|skip)
                   obtain ⟨hx42_0,hf42_0⟩:=Kd.R_celln 0 Aa.1 (x12_2 : Int) p42 q42;replace p42:=eq_true p42;replace q42:=eq_true q42;have HN0_go42:=A_ (show g ≠ go42 from by have h_:=Aaa.own_ne HI0.1 Aa.1 (by decide);intro e_;exact h_ (by rw [e_];rfl));have HP48:=Kd.R_putn Aa.1 (x12_2 : Int) (Go.bits .or .i64 (rd Ab x12_2) (ji41));rw [← Dh.1] at HP48;have HQ48:=A_ HP48;clear HP48;refine start_ (n:=10) (S:=fun w'=>w'.cell? ⟨An,0,none⟩ = some (.int .i64 Ae) ∧ w'.cell? ⟨An,1,none⟩ = some (.slice (some ⟨go42,0,none⟩) Ab.length co47) ∧ w'.cell? ⟨go42,(x12_2).toNat,none⟩ = some (.int .i64 (rd Ab x12_2))) (ds:=[9]) #[F,F,F,F,F,F,F,F,F,F] (by kernel_rfl) rfl rfl ⟨blk_cell Ad.1 0,blk_cell Ad.1 1,Ca⟩ (fun hHeld=>?_);refine with_tabW Aab.tab20 Aab.bits20 (fun HT_ HW_=>?_)
                   generalize w43.drew = w46 at HO_8 HO_9 Aa Ac Ad HI0 HK HB GG42 HQ48 hf42_0 Ca hx42_0 hHeld ⊢
                   refine pu_ (i:=0) (N:=87) #[T,F,F,F,F,F,F,F,F,F] HT_.1 rfl rfl (fun _ _ _ h=>h) rfl (h:=?_)
                   refine pu_ (i:=2) (N:=89) #[T,F,T,F,F,F,F,F,F,F] HT_.1 rfl rfl (fun _ _ _ h=>h) rfl (h:=?_)
                   refine pu_ (i:=5) (N:=92) #[T,F,T,F,F,T,F,F,F,F] HT_.1 rfl rfl (fun _ _ _ h=>h) rfl (h:=?_)
                   refine pu_ (i:=6) (N:=93) #[T,F,T,F,F,T,T,F,F,F] HT_.1 rfl rfl (fun _ _ _ h=>h) rfl (h:=?_)
                   refine take_ (i:=1) (N:=some 88) (v:=?_) (a':=?_) #[T,T,T,F,F,T,T,F,F,F] rfl rfl (take_ofW HT_.1 HW_.1 (by kernel_rfl)) (fun _ _ _ h=>h) (Or.inl ⟨by rfl,?_⟩) hHeld ?_ ?_
                   rotate_left
                   ·rintro w' ⟨s0,s1,s2⟩
                    go_simp
                    with_reducible rfl
                   rotate_left;·simp only [Act.put,L_,M_,N_,i64_w,i32_w];rfl
                   refine pu_ (i:=3) (N:=90) #[T,T,T,T,F,T,T,F,F,F] HT_.1 rfl rfl (fun _ _ _ h=>h) rfl (h:=?_)
                   refine take_ (i:=4) (N:=some 91) (v:=?_) (a':=?_) #[T,T,T,T,T,T,T,F,F,F] rfl rfl (take_ofW HT_.1 HW_.1 (by kernel_rfl)) (fun _ _ _ h=>h) (Or.inl ⟨by rfl,?_⟩) hHeld ?_ ?_
                   rotate_left
                   ·rintro w' ⟨s0,s1,s2⟩
                    go_simp
                    with_reducible rfl
                   rotate_left;·simp only [Act.put,L_,M_,N_,i64_w,i32_w];rfl
                   refine pu_ (i:=7) (N:=94) #[T,T,T,T,T,T,T,T,F,F] HT_.1 rfl rfl (fun _ _ _ h=>h) rfl (h:=?_)
                   refine pu_ (i:=8) (N:=95) #[T,T,T,T,T,T,T,T,T,F] HT_.1 rfl rfl (fun _ _ _ h=>h) rfl (h:=?_)
                   refine last_ (i:=9) (N:=none) #[T,T,T,T,T,T,T,T,T,T] rfl rfl (one_of HT_.1 (by kernel_rfl)) (by decide) (fun K hK=>?_)
                   refine skip_ (w1:=?_) (by rfl) rfl ?_ ?_
                   rotate_left
                   ·go_simp
                    rfl
                   refine hK.out _ _ ?_
                   clear hK K;refine done_ (done_of HT_.1 (by kernel_rfl)) ?_
                   try go_wp2
                   go_roundg k3
                   case measure=>have:=HK1.1;have:=HK2.1;have:=HK3.1;omega
                   case rel=>exact ⟨(x8_3),(x9_3),(wrap64 (x13_3 + 1)),(Ah),(Ai),(C5),(.slice (some ⟨go42,0,none⟩) Ab.length co47),(by first|rfl|(simp;done)|(simp [*];done)),H',⟨by have:=HK1.1;have:=HK2.1;have:=HK3.1;omega⟩,⟨rq_ (Kd.R_mono (Kd.R_far (p:=⟨go42,(x12_2 : Int).toNat,none⟩) (Kd.R_mono HO_8.1 (fun k_ hk=>(⟨hk,fun e_=>hk.2 (by rw [e_];rfl)⟩ : _ ∧ k_ ≠ go42))) (fun _ hk=>hk.2) (.int .i64 (Go.bits .or .i64 (rd Ab x12_2) (ji41)))) (fun _ hk=>⟨hk.1.1,hk.1.2⟩))⟩,⟨rq_ (Kd.R_mono (Kd.R_far (p:=⟨go42,(x12_2 : Int).toNat,none⟩) (Kd.R_mono HO_9.1 (fun k_ hk=>(⟨hk,fun e_=>hk.2 (by rw [e_];rfl)⟩ : _ ∧ k_ ≠ go42))) (fun _ hk=>hk.2) (.int .i64 (Go.bits .or .i64 (rd Ab x12_2) (ji41)))) (fun _ hk=>⟨hk.1.1,hk.1.2⟩))⟩,⟨rl_ HQ48⟩,⟨by (with_reducible repeat (first|refine blk_drewN ?_ _|refine blk_drew ?_|refine blk_alloc ?_ _));refine blk_far ?_ (by have h_:=Kd.R_ne Aa.1 Ac.1 (by decide);intro e_;exact h_ (by rw [e_];rfl)) _;(with_reducible repeat (first|refine blk_drewN ?_ _|refine blk_drew ?_|refine blk_alloc ?_ _));exact Ac.1⟩,⟨by (with_reducible repeat (first|refine blk_drewN ?_ _|refine blk_drew ?_|refine blk_alloc ?_ _));refine blk_far ?_ (by have h_:=Kd.R_ne Aa.1 Ad.1 (by decide);intro e_;exact h_ (by rw [e_];rfl)) _;(with_reducible repeat (first|refine blk_drewN ?_ _|refine blk_drew ?_|refine blk_alloc ?_ _));exact Ad.1⟩,⟨by repeat (first|(with_reducible first|exact HI0.1|apply Aaa.alloc|apply Aaa.drewN|apply Aaa.drew|apply Aaa.set_1|apply Aaa.set_2|refine Aaa.far ?_ HN0_go42.1 _|refine Aaa.far ?_ (Aside0.out (by assumption)) _)|exact HI0.1)⟩,⟨by repeat (first|(with_reducible first|exact HK.1|apply KeepBut.set_|apply keep_drewN|apply keep_drew|apply keep_alloc|refine keep_far ?_ GB42.1 _|refine keep_far ?_ Af.1 _|refine keep_far ?_ Aj.1 _)|exact HK.1)⟩,⟨by repeat (first|(with_reducible first|exact HB.1|apply below_alloc|apply pw_below_drewN|apply below_drew1|refine below_set ?_ (Nat.le_trans HL.1 GB42.1)|refine below_set ?_ (Aaa.ge HI0.1)|refine below_set ?_ (Aside0.out (by assumption)))|exact HB.1)⟩⟩
                  ·rw [if_neg c39] at H;exact absurd H (by simp)
                 ·rw [if_neg c38] at H;have c38b0 : decide ((rd x9_3 x12_2) < (rd x8_3 x13_3)) = false:=decide_eq_false c38;clear c38;by_cases c49 : Ag = 0
                  ·rw [if_pos c49] at H;have c49b0 : (Ag == 0) = true:=beq_iff_eq.mpr c49;have c49b1 : (Ag != 0) = false:=bne_eq_false_iff_eq.mpr c49;clear c49;by_cases c50 : x12_2 < x13_3
                   ·rw [if_pos c50] at H;have c50b0 : decide (x12_2 < x13_3) = true:=decide_eq_true c50;clear c50;replace H:=Option.bind_eq_some_iff.mp H;obtain ⟨⟨C6,Bk,Bl⟩,C7,H⟩:=H;replace H : (if C6 = true then (if x12_2 < (Ab.length : Int) then (Aab.l2 k3 Ae Ag x8_3 x9_3 x12_2 (wrap64 (x13_3 + 1)) s0_0 Bk Bl Ae (Ab.set (x12_2 : Int).toNat (Go.bits .or .i64 (rd Ab x12_2) (shl .i64 1 x13_3)))) else (none)) else (Aab.l2 k3 Ae Ag x8_3 x9_3 x12_2 (wrap64 (x13_3 + 1)) s0_0 Bk Bl Ae Ab)) = some (r1,r2,r3,r4):=H;have A51:=A_ C7;clear C7;by_cases c52 : C6 = true
                    ·subst c52;have H1 : (if x12_2 < (Ab.length : Int) then (Aab.l2 k3 Ae Ag x8_3 x9_3 x12_2 (wrap64 (x13_3 + 1)) s0_0 Bk Bl Ae (Ab.set (x12_2 : Int).toNat (Go.bits .or .i64 (rd Ab x12_2) (shl .i64 1 x13_3)))) else (none)) = some (r1,r2,r3,r4):=by rw [if_pos rfl] at H;exact H
                     clear H;have H:=H1;clear H1;by_cases c53 : x12_2 < (Ab.length : Int)
                     ·rw [if_pos c53] at H;have c53b0 : decide (x12_2 < (Ab.length : Int)) = true:=decide_eq_true c53;clear c53;have c54b0:=eq_true (of_decide_eq_true (by first|(with_reducible assumption)|assumption) : 0 ≤ x13_3);obtain ⟨ji55,hji55⟩ : ∃ j_ : Int,(shl .i64 1 x13_3) = j_:=⟨_,rfl⟩;replace H : (Aab.l2 k3 Ae Ag x8_3 x9_3 x12_2 (wrap64 (x13_3 + 1)) s0_0 Bk Bl Ae (Ab.set (x12_2 : Int).toNat (Go.bits .or .i64 (rd Ab x12_2) (ji55)))) = some (r1,r2,r3,r4):=by first|(rw [hji55] at H;exact H)|(simp only [hji55] at H ⊢;exact H)
                      (try rw [hji55] at A51);have hji55_ : (IntKind.i64.wrap (1 * 2 ^ min x13_3.toNat 64)) = ji55:=hji55;have hji55z : x13_3 ≤ 64 → (IntKind.i64.wrap (1 * 2 ^ x13_3.toNat)) = ji55:=shl_small hji55;have hji55u : (IntKind.i64.wrap (2 ^ min x13_3.toNat 64)) = ji55:=by have h_:=hji55_;rw [Int.one_mul] at h_;exact h_
                      have hji55v : x13_3 ≤ 64 → (IntKind.i64.wrap (2 ^ x13_3.toNat)) = ji55:=fun hle_=>by have h_:=hji55z hle_;rw [Int.one_mul] at h_;exact h_
                      have hji55y : (wrap64 (1 * 2 ^ min x13_3.toNat 64)) = ji55:=(i64_w _).symm.trans hji55_;have hji55x : x13_3 ≤ 64 → (wrap64 (1 * 2 ^ x13_3.toNat)) = ji55:=fun h_=>(i64_w _).symm.trans (hji55z h_)
                      obtain ⟨C8,B7⟩ : ∃ y_ : List Int,y_ = (Ab.set (x12_2 : Int).toNat (Go.bits .or .i64 (rd Ab x12_2) (ji55))):=⟨_,rfl⟩;replace H : (Aab.l2 k3 Ae Ag x8_3 x9_3 x12_2 (wrap64 (x13_3 + 1)) s0_0 Bk Bl Ae C8) = some (r1,r2,r3,r4):=by first|(rw [B7];with_reducible exact H)|(have H2_:=(Option.bind_some _ _).symm.trans H;rw [B7];with_reducible exact H2_)|(have H2_:=(Option.bind_some _ _).symm.trans H;with_reducible exact H2_)|with_reducible exact H|(rw [B7];exact H)|exact H
                      have Di:=A_ B7;clear B7;have H':=A_ H;clear H;try go_wp2
                      replace HO_8:=A_ (Kd.R_drew HO_8.1);replace HO_9:=A_ (Kd.R_drew HO_9.1);replace Aa:=A_ (Kd.R_drew Aa.1);replace Ac:=A_ (blk_drew Ac.1);replace Ad:=A_ (blk_drew Ad.1);replace HI0:=A_ (Aaa.drew HI0.1);replace HK:=A_ (keep_drew HK.1);replace HB:=A_ (below_drew1 HB.1);obtain ⟨Ao58,co58,eo58⟩:=Kd.R_slice HO_9.1;(first|subst eo58|(injection eo58 with f1_ f2_ f3_;have f4_:=f1_.symm;have f5_:=f3_.symm;clear f1_ f2_ f3_;subst f4_;subst f5_))
                      have Aw : 0 ≤ (x12_2 : Int):=of_decide_eq_true (by first|(with_reducible assumption)|assumption);have Ax : x12_2 < (x9_3.length : Int):=of_decide_eq_true (by first|(with_reducible assumption)|assumption);obtain ⟨Bh,Bq,Ao⟩:=Kd.at_int (Kd.R_reads' HO_9.1).2.2 x12_2 Aw Ax;cases Bq
                      replace Aw:=eq_true Aw;replace Ax:=eq_true Ax;obtain ⟨Ao59,co59,eo59⟩:=Kd.R_slice HO_8.1;(first|subst eo59|(injection eo59 with f1_ f2_ f3_;have f4_:=f1_.symm;have f5_:=f3_.symm;clear f1_ f2_ f3_;subst f4_;subst f5_))
                      have Ay : 0 ≤ (x13_3 : Int):=of_decide_eq_true (by first|(with_reducible assumption)|assumption);have Az : x13_3 < (x8_3.length : Int):=of_decide_eq_true (by first|(with_reducible assumption)|assumption);obtain ⟨Bi,Br,Ap⟩:=Kd.at_int (Kd.R_reads' HO_8.1).2.2 x13_3 Ay Az;cases Br
                      replace Ay:=eq_true Ay;replace Az:=eq_true Az;refine start_ (n:=26) (S:=fun w'=>w'.cell? (Bh.add (x12_2).toNat) = some (.int .i64 (rd x9_3 x12_2)) ∧ w'.cell? (Bi.add (x13_3).toNat) = some (.int .i64 (rd x8_3 x13_3))) (ds:=[]) #[F,F,F,F,F,F,F,F,F,F,F,F,F,F,F,F,F,F,F,F,F,F,F,F,F,F] (by kernel_rfl) rfl rfl ⟨Ao,Ap⟩ (fun hHeld=>?_);refine with_tabW Aab.tab19 Aab.bits19 (fun HT_ HW_=>?_)
                      generalize wr.drew = w57 at HO_8 HO_9 Aa Ac Ad HI0 HK HB Ao Ap hHeld ⊢
                      refine pu_ (i:=0) (N:=61) #[T,F,F,F,F,F,F,F,F,F,F,F,F,F,F,F,F,F,F,F,F,F,F,F,F,F] HT_.1 rfl rfl (fun _ _ _ h=>h) rfl (h:=?_)
                      refine pu_ (i:=1) (N:=62) #[T,T,F,F,F,F,F,F,F,F,F,F,F,F,F,F,F,F,F,F,F,F,F,F,F,F] HT_.1 rfl rfl (fun _ _ _ h=>h) rfl (h:=?_)
                      refine pu_ (i:=2) (N:=63) #[T,T,T,F,F,F,F,F,F,F,F,F,F,F,F,F,F,F,F,F,F,F,F,F,F,F] HT_.1 rfl rfl (fun _ _ _ h=>h) rfl (h:=?_)
                      refine pu_ (i:=3) (N:=64) #[T,T,T,T,F,F,F,F,F,F,F,F,F,F,F,F,F,F,F,F,F,F,F,F,F,F] HT_.1 rfl rfl (fun _ _ _ h=>h) rfl (h:=?_)
                      refine pu_ (i:=4) (N:=65) #[T,T,T,T,T,F,F,F,F,F,F,F,F,F,F,F,F,F,F,F,F,F,F,F,F,F] HT_.1 rfl rfl (fun _ _ _ h=>h) rfl (h:=?_)
                      refine pu_ (i:=5) (N:=66) #[T,T,T,T,T,T,F,F,F,F,F,F,F,F,F,F,F,F,F,F,F,F,F,F,F,F] HT_.1 rfl rfl (fun _ _ _ h=>h) rfl (h:=?_)
                      refine pu_ (i:=7) (N:=68) #[T,T,T,T,T,T,F,T,F,F,F,F,F,F,F,F,F,F,F,F,F,F,F,F,F,F] HT_.1 rfl rfl (fun _ _ _ h=>h) rfl (h:=?_)
                      refine pu_ (i:=8) (N:=69) #[T,T,T,T,T,T,F,T,T,F,F,F,F,F,F,F,F,F,F,F,F,F,F,F,F,F] HT_.1 rfl rfl (fun _ _ _ h=>h) rfl (h:=?_)
                      refine pu_ (i:=9) (N:=70) #[T,T,T,T,T,T,F,T,T,T,F,F,F,F,F,F,F,F,F,F,F,F,F,F,F,F] HT_.1 rfl rfl (fun _ _ _ h=>h) rfl (h:=?_)
                      refine take_ (i:=6) (N:=some 67) (v:=?_) (a':=?_) #[T,T,T,T,T,T,T,T,T,T,F,F,F,F,F,F,F,F,F,F,F,F,F,F,F,F] rfl rfl (take_ofW HT_.1 HW_.1 (by kernel_rfl)) (fun _ _ _ h=>h) (Or.inl ⟨by rfl,?_⟩) hHeld ?_ ?_
                      rotate_left
                      ·rintro w' ⟨s0,s1⟩
                       go_simp
                       with_reducible rfl
                      rotate_left;·simp only [Act.put,L_,M_,N_,i64_w,i32_w];rfl
                      refine take_ (i:=10) (N:=some 71) (v:=?_) (a':=?_) #[T,T,T,T,T,T,T,T,T,T,T,F,F,F,F,F,F,F,F,F,F,F,F,F,F,F] rfl rfl (take_ofW HT_.1 HW_.1 (by kernel_rfl)) (fun _ _ _ h=>h) (Or.inl ⟨by rfl,?_⟩) hHeld ?_ ?_
                      rotate_left
                      ·rintro w' ⟨s0,s1⟩
                       go_simp
                       with_reducible rfl
                      rotate_left;·simp only [Act.put,L_,M_,N_,i64_w,i32_w];rfl
                      refine pu_ (i:=11) (N:=72) #[T,T,T,T,T,T,T,T,T,T,T,T,F,F,F,F,F,F,F,F,F,F,F,F,F,F] HT_.1 rfl rfl (fun _ _ _ h=>h) rfl (h:=?_)
                      refine pu_ (i:=12) (N:=73) #[T,T,T,T,T,T,T,T,T,T,T,T,T,F,F,F,F,F,F,F,F,F,F,F,F,F] HT_.1 rfl rfl (fun _ _ _ h=>h) rfl (h:=?_)
                      refine pu_ (i:=13) (N:=74) #[T,T,T,T,T,T,T,T,T,T,T,T,T,T,F,F,F,F,F,F,F,F,F,F,F,F] HT_.1 rfl rfl (fun _ _ _ h=>h) rfl (h:=?_)
                      refine pu_ (i:=14) (N:=75) #[T,T,T,T,T,T,T,T,T,T,T,T,T,T,T,F,F,F,F,F,F,F,F,F,F,F] HT_.1 rfl rfl (fun _ _ _ h=>h) rfl (h:=?_)
                      refine pu_ (i:=15) (N:=76) #[T,T,T,T,T,T,T,T,T,T,T,T,T,T,T,T,F,F,F,F,F,F,F,F,F,F] HT_.1 rfl rfl (fun _ _ _ h=>h) rfl (h:=?_)
                      refine pu_ (i:=16) (N:=77) #[T,T,T,T,T,T,T,T,T,T,T,T,T,T,T,T,T,F,F,F,F,F,F,F,F,F] HT_.1 rfl rfl (fun _ _ _ h=>h) rfl (h:=?_)
                      refine pu_ (i:=17) (N:=78) #[T,T,T,T,T,T,T,T,T,T,T,T,T,T,T,T,T,T,F,F,F,F,F,F,F,F] HT_.1 rfl rfl (fun _ _ _ h=>h) rfl (h:=?_)
                      refine pu_ (i:=18) (N:=79) #[T,T,T,T,T,T,T,T,T,T,T,T,T,T,T,T,T,T,T,F,F,F,F,F,F,F] HT_.1 rfl rfl (fun _ _ _ h=>h) rfl (h:=?_)
                      refine pu_ (i:=19) (N:=80) #[T,T,T,T,T,T,T,T,T,T,T,T,T,T,T,T,T,T,T,T,F,F,F,F,F,F] HT_.1 rfl rfl (fun _ _ _ h=>h) rfl (h:=?_)
                      refine pu_ (i:=20) (N:=81) #[T,T,T,T,T,T,T,T,T,T,T,T,T,T,T,T,T,T,T,T,T,F,F,F,F,F] HT_.1 rfl rfl (fun _ _ _ h=>h) rfl (h:=?_)
                      refine pu_ (i:=21) (N:=82) #[T,T,T,T,T,T,T,T,T,T,T,T,T,T,T,T,T,T,T,T,T,T,F,F,F,F] HT_.1 rfl rfl (fun _ _ _ h=>h) rfl (h:=?_)
                      refine pu_ (i:=22) (N:=83) #[T,T,T,T,T,T,T,T,T,T,T,T,T,T,T,T,T,T,T,T,T,T,T,F,F,F] HT_.1 rfl rfl (fun _ _ _ h=>h) rfl (h:=?_)
                      refine one_ (i:=23) (N:=some 84) #[T,T,T,T,T,T,T,T,T,T,T,T,T,T,T,T,T,T,T,T,T,T,T,T,F,F] rfl rfl (one_of HT_.1 (by kernel_rfl)) (by decide) (fun K hK=>?_)
                      refine goes_ Tryd.func58 (by kernel_rfl) rfl #[.pointer (some ⟨g,0,none⟩),.int .i64 3] (by rfl) rfl rfl au_ ?_
                      with_reducible refine (Abc.calls g s0_0 Ah Ai 3 true Bk Bl w0 _ ?side1 ?side2 A51.1).mono ?_
                      (case side1=>exact is_)
                      (case side2=>repeat (first|(with_reducible first|exact HB.1|apply below_alloc|apply pw_below_drewN|apply below_drew1|refine below_set ?_ (Aaa.ge HI0.1)|refine below_set ?_ (Aside0.out (by assumption)))|exact HB.1))
                      rintro e w60 ⟨rfl,hi,hb,hk⟩
                      have HS0_:=keep_cell hk (hHeld.1) (by first|(rw [add_block];exact Kd.own_blk (Aaa.own_ne HI0.1 HO_9.1 (by decide)))|(show (Addr.add _ _).block ≠ _;rw [add_block];exact Kd.own_blk (Aaa.own_ne HI0.1 HO_9.1 (by decide)))|exact Kd.own_blk (Aaa.own_ne HI0.1 HO_9.1 (by decide)));have HS1_:=keep_cell hk (hHeld.2) (by first|(rw [add_block];exact Kd.own_blk (Aaa.own_ne HI0.1 HO_8.1 (by decide)))|(show (Addr.add _ _).block ≠ _;rw [add_block];exact Kd.own_blk (Aaa.own_ne HI0.1 HO_8.1 (by decide)))|exact Kd.own_blk (Aaa.own_ne HI0.1 HO_8.1 (by decide)));refine ⟨_,rfl,?_⟩
                      replace HO_8:=A_ (Kd.R_mono (Kd.R_keep (Aaa.apart (show Aaa w0 _ g s0_0 Ah Ai from is_) (rl_ HO_8) (by decide)) hk (fun _ h=>h.2)) (fun _ h=>h.1));replace HO_9:=A_ (Kd.R_mono (Kd.R_keep (Aaa.apart (show Aaa w0 _ g s0_0 Ah Ai from is_) (rl_ HO_9) (by decide)) hk (fun _ h=>h.2)) (fun _ h=>h.1));replace Aa:=A_ (Kd.R_mono (Kd.R_keep (Aaa.apart (show Aaa w0 _ g s0_0 Ah Ai from is_) (rl_ Aa) (by decide)) hk (fun _ h=>h.2)) (fun _ h=>h.1));replace Ac:=A_ (KeepBut.blk hk (g':=Am) (o:=.cells #[.int .i64 0,.slice none 0 0] 26 (0,0)) (bl_ Ac) As.1 (by simp));replace Ad:=A_ (KeepBut.blk hk (g':=An) (o:=.cells #[.int .i64 Ae,Ak] 26 (0,0)) (bl_ Ad) At.1 (by simp));replace HK:=A_ (KeepBut.trans (by repeat (with_reducible first|exact HK.1|apply KeepBut.set_|apply keep_drewN|apply keep_drew|apply keep_alloc|refine keep_far ?_ Af.1 _|refine keep_far ?_ Aj.1 _)) hk (.inl rfl));replace HB:=A_ (hb);replace HI0:=A_ (hi);(try clear hb);(try clear hb2);(try clear hk);(try clear hi);refine hK.out _ _ ⟨HS0_,HS1_⟩ (fun hHeld=>?_)
                      clear hK K;refine norm_ (a':=?_) ?_ ?_
                      rotate_left
                      ·show Act.put _ (some 84) _ = _
                       simp only [Act.put,L_,M_,N_,i64_w,i32_w]
                       rfl
                      refine pu_ (i:=24) (N:=85) #[T,T,T,T,T,T,T,T,T,T,T,T,T,T,T,T,T,T,T,T,T,T,T,T,T,F] HT_.1 rfl rfl (fun _ _ _ h=>h) rfl (h:=?_)
                      refine pu_ (i:=25) (N:=86) #[T,T,T,T,T,T,T,T,T,T,T,T,T,T,T,T,T,T,T,T,T,T,T,T,T,T] HT_.1 rfl rfl (fun _ _ _ h=>h) rfl (h:=?_)
                      refine done_ (done_of HT_.1 (by kernel_rfl)) ?_
                      try go_wp2
                      replace HO_8:=A_ (Kd.R_drew HO_8.1);replace HO_9:=A_ (Kd.R_drew HO_9.1);replace Aa:=A_ (Kd.R_drew Aa.1);replace Ac:=A_ (blk_drew Ac.1);replace Ad:=A_ (blk_drew Ad.1);replace HI0:=A_ (Aaa.drew HI0.1);replace HK:=A_ (keep_drew HK.1);replace HB:=A_ (below_drew1 HB.1);obtain ⟨Ao62,co62,eo62⟩:=Kd.R_slice Aa.1;(first|subst eo62|(injection eo62 with f1_ f2_ f3_;have f4_:=f1_.symm;have f5_:=f3_.symm;clear f1_ f2_ f3_;subst f4_;subst f5_))
                      have Ct : 0 ≤ (x12_2 : Int):=of_decide_eq_true (by first|(with_reducible assumption)|assumption);have Cu : x12_2 < (Ab.length : Int):=of_decide_eq_true (by first|(with_reducible assumption)|assumption);obtain ⟨Dw,Dq,Cb⟩:=Kd.at_int (Kd.R_reads' Aa.1).2.2 x12_2 Ct Cu;cases Dq
                      replace Ct:=eq_true Ct;replace Cu:=eq_true Cu;have p56 : 0 ≤ (x12_2 : Int):=of_decide_eq_true (by first|(with_reducible assumption)|assumption);have q56 : (x12_2 : Int) < ((Ab.length : Int) : Int):=of_decide_eq_true (by first|(with_reducible assumption)|assumption);obtain ⟨go56,co56,eo56,gb56,gl56,cl56,HG56⟩:=Kd.R_form Aa.1 (by omega);(first|cases eo56|(injection eo56 with ea_ en_ ec_;(first|subst ea_|(injection ea_ with ea_;subst ea_));subst ec_;clear en_))
                      have GB56:=A_ gb56;have GG56:=A_ HG56;clear gb56 gl56 HG56;(first|simp only [add_plain] at Cb|skip)
                      obtain ⟨hx56_0,hf56_0⟩:=Kd.R_celln 0 Aa.1 (x12_2 : Int) p56 q56;replace p56:=eq_true p56;replace q56:=eq_true q56;have HN0_go56:=A_ (show g ≠ go56 from by have h_:=Aaa.own_ne HI0.1 Aa.1 (by decide);intro e_;exact h_ (by rw [e_];rfl));have HP63:=Kd.R_putn Aa.1 (x12_2 : Int) (Go.bits .or .i64 (rd Ab x12_2) (ji55));rw [← Di.1] at HP63;have HQ63:=A_ HP63;clear HP63;refine start_ (n:=10) (S:=fun w'=>w'.cell? ⟨An,0,none⟩ = some (.int .i64 Ae) ∧ w'.cell? ⟨An,1,none⟩ = some (.slice (some ⟨go56,0,none⟩) Ab.length co62) ∧ w'.cell? ⟨go56,(x12_2).toNat,none⟩ = some (.int .i64 (rd Ab x12_2))) (ds:=[9]) #[F,F,F,F,F,F,F,F,F,F] (by kernel_rfl) rfl rfl ⟨blk_cell Ad.1 0,blk_cell Ad.1 1,Cb⟩ (fun hHeld=>?_);refine with_tabW Aab.tab20 Aab.bits20 (fun HT_ HW_=>?_)
                      generalize w60.drew = w61 at HO_8 HO_9 Aa Ac Ad HI0 HK HB GG56 HQ63 hf56_0 Cb hx56_0 hHeld ⊢
                      refine pu_ (i:=0) (N:=87) #[T,F,F,F,F,F,F,F,F,F] HT_.1 rfl rfl (fun _ _ _ h=>h) rfl (h:=?_)
                      refine pu_ (i:=2) (N:=89) #[T,F,T,F,F,F,F,F,F,F] HT_.1 rfl rfl (fun _ _ _ h=>h) rfl (h:=?_)
                      refine pu_ (i:=5) (N:=92) #[T,F,T,F,F,T,F,F,F,F] HT_.1 rfl rfl (fun _ _ _ h=>h) rfl (h:=?_)
                      refine pu_ (i:=6) (N:=93) #[T,F,T,F,F,T,T,F,F,F] HT_.1 rfl rfl (fun _ _ _ h=>h) rfl (h:=?_)
                      refine take_ (i:=1) (N:=some 88) (v:=?_) (a':=?_) #[T,T,T,F,F,T,T,F,F,F] rfl rfl (take_ofW HT_.1 HW_.1 (by kernel_rfl)) (fun _ _ _ h=>h) (Or.inl ⟨by rfl,?_⟩) hHeld ?_ ?_
                      rotate_left
                      ·rintro w' ⟨s0,s1,s2⟩
                       go_simp
                       with_reducible rfl
                      rotate_left;·simp only [Act.put,L_,M_,N_,i64_w,i32_w];rfl
                      refine pu_ (i:=3) (N:=90) #[T,T,T,T,F,T,T,F,F,F] HT_.1 rfl rfl (fun _ _ _ h=>h) rfl (h:=?_)
                      refine take_ (i:=4) (N:=some 91) (v:=?_) (a':=?_) #[T,T,T,T,T,T,T,F,F,F] rfl rfl (take_ofW HT_.1 HW_.1 (by kernel_rfl)) (fun _ _ _ h=>h) (Or.inl ⟨by rfl,?_⟩) hHeld ?_ ?_
                      rotate_left
                      ·rintro w' ⟨s0,s1,s2⟩
                       go_simp
                       with_reducible rfl
                      rotate_left;·simp only [Act.put,L_,M_,N_,i64_w,i32_w];rfl
                      refine pu_ (i:=7) (N:=94) #[T,T,T,T,T,T,T,T,F,F] HT_.1 rfl rfl (fun _ _ _ h=>h) rfl (h:=?_)
                      refine pu_ (i:=8) (N:=95) #[T,T,T,T,T,T,T,T,T,F] HT_.1 rfl rfl (fun _ _ _ h=>h) rfl (h:=?_)
                      refine last_ (i:=9) (N:=none) #[T,T,T,T,T,T,T,T,T,T] rfl rfl (one_of HT_.1 (by kernel_rfl)) (by decide) (fun K hK=>?_)
                      refine skip_ (w1:=?_) (by rfl) rfl ?_ ?_
                      rotate_left
                      ·go_simp
                       rfl
                      refine hK.out _ _ ?_
                      clear hK K;refine done_ (done_of HT_.1 (by kernel_rfl)) ?_
                      try go_wp2
                      go_roundg k3
                      case measure=>have:=HK1.1;have:=HK2.1;have:=HK3.1;omega
                      case rel=>exact ⟨(x8_3),(x9_3),(wrap64 (x13_3 + 1)),(Bk),(Bl),(C8),(.slice (some ⟨go56,0,none⟩) Ab.length co62),(by first|rfl|(simp;done)|(simp [*];done)),H',⟨by have:=HK1.1;have:=HK2.1;have:=HK3.1;omega⟩,⟨rq_ (Kd.R_mono (Kd.R_far (p:=⟨go56,(x12_2 : Int).toNat,none⟩) (Kd.R_mono HO_8.1 (fun k_ hk=>(⟨hk,fun e_=>hk.2 (by rw [e_];rfl)⟩ : _ ∧ k_ ≠ go56))) (fun _ hk=>hk.2) (.int .i64 (Go.bits .or .i64 (rd Ab x12_2) (ji55)))) (fun _ hk=>⟨hk.1.1,hk.1.2⟩))⟩,⟨rq_ (Kd.R_mono (Kd.R_far (p:=⟨go56,(x12_2 : Int).toNat,none⟩) (Kd.R_mono HO_9.1 (fun k_ hk=>(⟨hk,fun e_=>hk.2 (by rw [e_];rfl)⟩ : _ ∧ k_ ≠ go56))) (fun _ hk=>hk.2) (.int .i64 (Go.bits .or .i64 (rd Ab x12_2) (ji55)))) (fun _ hk=>⟨hk.1.1,hk.1.2⟩))⟩,⟨rl_ HQ63⟩,⟨by (with_reducible repeat (first|refine blk_drewN ?_ _|refine blk_drew ?_|refine blk_alloc ?_ _));refine blk_far ?_ (by have h_:=Kd.R_ne Aa.1 Ac.1 (by decide);intro e_;exact h_ (by rw [e_];rfl)) _;(with_reducible repeat (first|refine blk_drewN ?_ _|refine blk_drew ?_|refine blk_alloc ?_ _));exact Ac.1⟩,⟨by (with_reducible repeat (first|refine blk_drewN ?_ _|refine blk_drew ?_|refine blk_alloc ?_ _));refine blk_far ?_ (by have h_:=Kd.R_ne Aa.1 Ad.1 (by decide);intro e_;exact h_ (by rw [e_];rfl)) _;(with_reducible repeat (first|refine blk_drewN ?_ _|refine blk_drew ?_|refine blk_alloc ?_ _));exact Ad.1⟩,⟨by repeat (first|(with_reducible first|exact HI0.1|apply Aaa.alloc|apply Aaa.drewN|apply Aaa.drew|apply Aaa.set_1|apply Aaa.set_2|refine Aaa.far ?_ HN0_go56.1 _|refine Aaa.far ?_ (Aside0.out (by assumption)) _)|exact HI0.1)⟩,⟨by repeat (first|(with_reducible first|exact HK.1|apply KeepBut.set_|apply keep_drewN|apply keep_drew|apply keep_alloc|refine keep_far ?_ GB56.1 _|refine keep_far ?_ Af.1 _|refine keep_far ?_ Aj.1 _)|exact HK.1)⟩,⟨by repeat (first|(with_reducible first|exact HB.1|apply below_alloc|apply pw_below_drewN|apply below_drew1|refine below_set ?_ (Nat.le_trans HL.1 GB56.1)|refine below_set ?_ (Aaa.ge HI0.1)|refine below_set ?_ (Aside0.out (by assumption)))|exact HB.1)⟩⟩
                     ·rw [if_neg c53] at H;exact absurd H (by simp)
                    ·replace c52:=Bool.eq_false_iff.mpr c52;subst c52;have H1 : (Aab.l2 k3 Ae Ag x8_3 x9_3 x12_2 (wrap64 (x13_3 + 1)) s0_0 Bk Bl Ae Ab) = some (r1,r2,r3,r4):=by rw [if_neg (show ¬ (false = true) by decide)] at H;exact H
                     clear H;have H:=H1;clear H1;have H':=A_ H;clear H;try go_wp2
                     replace HO_8:=A_ (Kd.R_drew HO_8.1);replace HO_9:=A_ (Kd.R_drew HO_9.1);replace Aa:=A_ (Kd.R_drew Aa.1);replace Ac:=A_ (blk_drew Ac.1);replace Ad:=A_ (blk_drew Ad.1);replace HI0:=A_ (Aaa.drew HI0.1);replace HK:=A_ (keep_drew HK.1);replace HB:=A_ (below_drew1 HB.1);obtain ⟨Ao65,co65,eo65⟩:=Kd.R_slice HO_9.1;(first|subst eo65|(injection eo65 with f1_ f2_ f3_;have f4_:=f1_.symm;have f5_:=f3_.symm;clear f1_ f2_ f3_;subst f4_;subst f5_))
                     have Aw : 0 ≤ (x12_2 : Int):=of_decide_eq_true (by first|(with_reducible assumption)|assumption);have Ax : x12_2 < (x9_3.length : Int):=of_decide_eq_true (by first|(with_reducible assumption)|assumption);obtain ⟨Bh,Bq,Ao⟩:=Kd.at_int (Kd.R_reads' HO_9.1).2.2 x12_2 Aw Ax;cases Bq
                     replace Aw:=eq_true Aw;replace Ax:=eq_true Ax;obtain ⟨Ao66,co66,eo66⟩:=Kd.R_slice HO_8.1;(first|subst eo66|(injection eo66 with f1_ f2_ f3_;have f4_:=f1_.symm;have f5_:=f3_.symm;clear f1_ f2_ f3_;subst f4_;subst f5_))
                     have Ay : 0 ≤ (x13_3 : Int):=of_decide_eq_true (by first|(with_reducible assumption)|assumption);have Az : x13_3 < (x8_3.length : Int):=of_decide_eq_true (by first|(with_reducible assumption)|assumption);obtain ⟨Bi,Br,Ap⟩:=Kd.at_int (Kd.R_reads' HO_8.1).2.2 x13_3 Ay Az;cases Br
                     replace Ay:=eq_true Ay;replace Az:=eq_true Az;refine start_ (n:=26) (S:=fun w'=>w'.cell? (Bh.add (x12_2).toNat) = some (.int .i64 (rd x9_3 x12_2)) ∧ w'.cell? (Bi.add (x13_3).toNat) = some (.int .i64 (rd x8_3 x13_3))) (ds:=[]) #[F,F,F,F,F,F,F,F,F,F,F,F,F,F,F,F,F,F,F,F,F,F,F,F,F,F] (by kernel_rfl) rfl rfl ⟨Ao,Ap⟩ (fun hHeld=>?_);refine with_tabW Aab.tab19 Aab.bits19 (fun HT_ HW_=>?_)
                     generalize wr.drew = w64 at HO_8 HO_9 Aa Ac Ad HI0 HK HB Ao Ap hHeld ⊢
                     refine pu_ (i:=0) (N:=61) #[T,F,F,F,F,F,F,F,F,F,F,F,F,F,F,F,F,F,F,F,F,F,F,F,F,F] HT_.1 rfl rfl (fun _ _ _ h=>h) rfl (h:=?_)
                     refine pu_ (i:=1) (N:=62) #[T,T,F,F,F,F,F,F,F,F,F,F,F,F,F,F,F,F,F,F,F,F,F,F,F,F] HT_.1 rfl rfl (fun _ _ _ h=>h) rfl (h:=?_)
                     refine pu_ (i:=2) (N:=63) #[T,T,T,F,F,F,F,F,F,F,F,F,F,F,F,F,F,F,F,F,F,F,F,F,F,F] HT_.1 rfl rfl (fun _ _ _ h=>h) rfl (h:=?_)
                     refine pu_ (i:=3) (N:=64) #[T,T,T,T,F,F,F,F,F,F,F,F,F,F,F,F,F,F,F,F,F,F,F,F,F,F] HT_.1 rfl rfl (fun _ _ _ h=>h) rfl (h:=?_)
                     refine pu_ (i:=4) (N:=65) #[T,T,T,T,T,F,F,F,F,F,F,F,F,F,F,F,F,F,F,F,F,F,F,F,F,F] HT_.1 rfl rfl (fun _ _ _ h=>h) rfl (h:=?_)
                     refine pu_ (i:=5) (N:=66) #[T,T,T,T,T,T,F,F,F,F,F,F,F,F,F,F,F,F,F,F,F,F,F,F,F,F] HT_.1 rfl rfl (fun _ _ _ h=>h) rfl (h:=?_)
                     refine pu_ (i:=7) (N:=68) #[T,T,T,T,T,T,F,T,F,F,F,F,F,F,F,F,F,F,F,F,F,F,F,F,F,F] HT_.1 rfl rfl (fun _ _ _ h=>h) rfl (h:=?_)
                     refine pu_ (i:=8) (N:=69) #[T,T,T,T,T,T,F,T,T,F,F,F,F,F,F,F,F,F,F,F,F,F,F,F,F,F] HT_.1 rfl rfl (fun _ _ _ h=>h) rfl (h:=?_)
                     refine pu_ (i:=9) (N:=70) #[T,T,T,T,T,T,F,T,T,T,F,F,F,F,F,F,F,F,F,F,F,F,F,F,F,F] HT_.1 rfl rfl (fun _ _ _ h=>h) rfl (h:=?_)
                     refine take_ (i:=6) (N:=some 67) (v:=?_) (a':=?_) #[T,T,T,T,T,T,T,T,T,T,F,F,F,F,F,F,F,F,F,F,F,F,F,F,F,F] rfl rfl (take_ofW HT_.1 HW_.1 (by kernel_rfl)) (fun _ _ _ h=>h) (Or.inl ⟨by rfl,?_⟩) hHeld ?_ ?_
                     rotate_left
                     ·rintro w' ⟨s0,s1⟩
                      go_simp
                      with_reducible rfl
                     rotate_left;·simp only [Act.put,L_,M_,N_,i64_w,i32_w];rfl
                     refine take_ (i:=10) (N:=some 71) (v:=?_) (a':=?_) #[T,T,T,T,T,T,T,T,T,T,T,F,F,F,F,F,F,F,F,F,F,F,F,F,F,F] rfl rfl (take_ofW HT_.1 HW_.1 (by kernel_rfl)) (fun _ _ _ h=>h) (Or.inl ⟨by rfl,?_⟩) hHeld ?_ ?_
                     rotate_left
                     ·rintro w' ⟨s0,s1⟩
                      go_simp
                      with_reducible rfl
                     rotate_left;·simp only [Act.put,L_,M_,N_,i64_w,i32_w];rfl
                     refine pu_ (i:=11) (N:=72) #[T,T,T,T,T,T,T,T,T,T,T,T,F,F,F,F,F,F,F,F,F,F,F,F,F,F] HT_.1 rfl rfl (fun _ _ _ h=>h) rfl (h:=?_)
                     refine pu_ (i:=12) (N:=73) #[T,T,T,T,T,T,T,T,T,T,T,T,T,F,F,F,F,F,F,F,F,F,F,F,F,F] HT_.1 rfl rfl (fun _ _ _ h=>h) rfl (h:=?_)
                     refine pu_ (i:=13) (N:=74) #[T,T,T,T,T,T,T,T,T,T,T,T,T,T,F,F,F,F,F,F,F,F,F,F,F,F] HT_.1 rfl rfl (fun _ _ _ h=>h) rfl (h:=?_)
                     refine pu_ (i:=14) (N:=75) #[T,T,T,T,T,T,T,T,T,T,T,T,T,T,T,F,F,F,F,F,F,F,F,F,F,F] HT_.1 rfl rfl (fun _ _ _ h=>h) rfl (h:=?_)
                     refine pu_ (i:=15) (N:=76) #[T,T,T,T,T,T,T,T,T,T,T,T,T,T,T,T,F,F,F,F,F,F,F,F,F,F] HT_.1 rfl rfl (fun _ _ _ h=>h) rfl (h:=?_)
                     refine pu_ (i:=16) (N:=77) #[T,T,T,T,T,T,T,T,T,T,T,T,T,T,T,T,T,F,F,F,F,F,F,F,F,F] HT_.1 rfl rfl (fun _ _ _ h=>h) rfl (h:=?_)
                     refine pu_ (i:=17) (N:=78) #[T,T,T,T,T,T,T,T,T,T,T,T,T,T,T,T,T,T,F,F,F,F,F,F,F,F] HT_.1 rfl rfl (fun _ _ _ h=>h) rfl (h:=?_)
                     refine pu_ (i:=18) (N:=79) #[T,T,T,T,T,T,T,T,T,T,T,T,T,T,T,T,T,T,T,F,F,F,F,F,F,F] HT_.1 rfl rfl (fun _ _ _ h=>h) rfl (h:=?_)
                     refine pu_ (i:=19) (N:=80) #[T,T,T,T,T,T,T,T,T,T,T,T,T,T,T,T,T,T,T,T,F,F,F,F,F,F] HT_.1 rfl rfl (fun _ _ _ h=>h) rfl (h:=?_)
                     refine pu_ (i:=20) (N:=81) #[T,T,T,T,T,T,T,T,T,T,T,T,T,T,T,T,T,T,T,T,T,F,F,F,F,F] HT_.1 rfl rfl (fun _ _ _ h=>h) rfl (h:=?_)
                     refine pu_ (i:=21) (N:=82) #[T,T,T,T,T,T,T,T,T,T,T,T,T,T,T,T,T,T,T,T,T,T,F,F,F,F] HT_.1 rfl rfl (fun _ _ _ h=>h) rfl (h:=?_)
                     refine pu_ (i:=22) (N:=83) #[T,T,T,T,T,T,T,T,T,T,T,T,T,T,T,T,T,T,T,T,T,T,T,F,F,F] HT_.1 rfl rfl (fun _ _ _ h=>h) rfl (h:=?_)
                     refine one_ (i:=23) (N:=some 84) #[T,T,T,T,T,T,T,T,T,T,T,T,T,T,T,T,T,T,T,T,T,T,T,T,F,F] rfl rfl (one_of HT_.1 (by kernel_rfl)) (by decide) (fun K hK=>?_)
                     refine goes_ Tryd.func58 (by kernel_rfl) rfl #[.pointer (some ⟨g,0,none⟩),.int .i64 3] (by rfl) rfl rfl au_ ?_
                     with_reducible refine (Abc.calls g s0_0 Ah Ai 3 false Bk Bl w0 _ ?side1 ?side2 A51.1).mono ?_
                     (case side1=>exact is_)
                     (case side2=>repeat (first|(with_reducible first|exact HB.1|apply below_alloc|apply pw_below_drewN|apply below_drew1|refine below_set ?_ (Aaa.ge HI0.1)|refine below_set ?_ (Aside0.out (by assumption)))|exact HB.1))
                     rintro e w67 ⟨rfl,hi,hb,hk⟩
                     have HS0_:=keep_cell hk (hHeld.1) (by first|(rw [add_block];exact Kd.own_blk (Aaa.own_ne HI0.1 HO_9.1 (by decide)))|(show (Addr.add _ _).block ≠ _;rw [add_block];exact Kd.own_blk (Aaa.own_ne HI0.1 HO_9.1 (by decide)))|exact Kd.own_blk (Aaa.own_ne HI0.1 HO_9.1 (by decide)));have HS1_:=keep_cell hk (hHeld.2) (by first|(rw [add_block];exact Kd.own_blk (Aaa.own_ne HI0.1 HO_8.1 (by decide)))|(show (Addr.add _ _).block ≠ _;rw [add_block];exact Kd.own_blk (Aaa.own_ne HI0.1 HO_8.1 (by decide)))|exact Kd.own_blk (Aaa.own_ne HI0.1 HO_8.1 (by decide)));refine ⟨_,rfl,?_⟩
                     replace HO_8:=A_ (Kd.R_mono (Kd.R_keep (Aaa.apart (show Aaa w0 _ g s0_0 Ah Ai from is_) (rl_ HO_8) (by decide)) hk (fun _ h=>h.2)) (fun _ h=>h.1));replace HO_9:=A_ (Kd.R_mono (Kd.R_keep (Aaa.apart (show Aaa w0 _ g s0_0 Ah Ai from is_) (rl_ HO_9) (by decide)) hk (fun _ h=>h.2)) (fun _ h=>h.1));replace Aa:=A_ (Kd.R_mono (Kd.R_keep (Aaa.apart (show Aaa w0 _ g s0_0 Ah Ai from is_) (rl_ Aa) (by decide)) hk (fun _ h=>h.2)) (fun _ h=>h.1));replace Ac:=A_ (KeepBut.blk hk (g':=Am) (o:=.cells #[.int .i64 0,.slice none 0 0] 26 (0,0)) (bl_ Ac) As.1 (by simp));replace Ad:=A_ (KeepBut.blk hk (g':=An) (o:=.cells #[.int .i64 Ae,Ak] 26 (0,0)) (bl_ Ad) At.1 (by simp));replace HK:=A_ (KeepBut.trans (by repeat (with_reducible first|exact HK.1|apply KeepBut.set_|apply keep_drewN|apply keep_drew|apply keep_alloc|refine keep_far ?_ Af.1 _|refine keep_far ?_ Aj.1 _)) hk (.inl rfl));replace HB:=A_ (hb);replace HI0:=A_ (hi);(try clear hb);(try clear hb2);(try clear hk);(try clear hi);refine hK.out _ _ ⟨HS0_,HS1_⟩ (fun hHeld=>?_)
                     clear hK K;refine norm_ (a':=?_) ?_ ?_
                     rotate_left
                     ·show Act.put _ (some 84) _ = _
                      simp only [Act.put,L_,M_,N_,i64_w,i32_w]
                      rfl
                     refine pu_ (i:=24) (N:=85) #[T,T,T,T,T,T,T,T,T,T,T,T,T,T,T,T,T,T,T,T,T,T,T,T,T,F] HT_.1 rfl rfl (fun _ _ _ h=>h) rfl (h:=?_)
                     refine pu_ (i:=25) (N:=86) #[T,T,T,T,T,T,T,T,T,T,T,T,T,T,T,T,T,T,T,T,T,T,T,T,T,T] HT_.1 rfl rfl (fun _ _ _ h=>h) rfl (h:=?_)
                     refine done_ (done_of HT_.1 (by kernel_rfl)) ?_
                     try go_wp2
                     go_roundg k3
                     case measure=>have:=HK1.1;have:=HK2.1;have:=HK3.1;omega
                     case rel=>exact ⟨(x8_3),(x9_3),(wrap64 (x13_3 + 1)),(Bk),(Bl),(Ab),(Ak),(by first|rfl|(simp;done)|(simp [*];done)),H',⟨by have:=HK1.1;have:=HK2.1;have:=HK3.1;omega⟩,⟨rl_ HO_8⟩,⟨rl_ HO_9⟩,⟨rl_ Aa⟩,⟨bl_ Ac⟩,⟨bl_ Ad⟩,⟨is_⟩,⟨by repeat (first|(with_reducible first|exact HK.1|apply KeepBut.set_|apply keep_drewN|apply keep_drew|apply keep_alloc|refine keep_far ?_ Af.1 _|refine keep_far ?_ Aj.1 _)|exact HK.1)⟩,⟨by repeat (first|(with_reducible first|exact HB.1|apply below_alloc|apply pw_below_drewN|apply below_drew1|refine below_set ?_ (Aaa.ge HI0.1)|refine below_set ?_ (Aside0.out (by assumption)))|exact HB.1)⟩⟩
                   ·rw [if_neg c50] at H;have c50b0 : decide (x12_2 < x13_3) = false:=decide_eq_false c50;clear c50;have H':=A_ H;clear H;try go_wp2
                    replace HO_8:=A_ (Kd.R_drew HO_8.1);replace HO_9:=A_ (Kd.R_drew HO_9.1);replace Aa:=A_ (Kd.R_drew Aa.1);replace Ac:=A_ (blk_drew Ac.1);replace Ad:=A_ (blk_drew Ad.1);replace HI0:=A_ (Aaa.drew HI0.1);replace HK:=A_ (keep_drew HK.1);replace HB:=A_ (below_drew1 HB.1);obtain ⟨Ao69,co69,eo69⟩:=Kd.R_slice HO_9.1;(first|subst eo69|(injection eo69 with f1_ f2_ f3_;have f4_:=f1_.symm;have f5_:=f3_.symm;clear f1_ f2_ f3_;subst f4_;subst f5_))
                    have Aw : 0 ≤ (x12_2 : Int):=of_decide_eq_true (by first|(with_reducible assumption)|assumption);have Ax : x12_2 < (x9_3.length : Int):=of_decide_eq_true (by first|(with_reducible assumption)|assumption);obtain ⟨Bh,Bq,Ao⟩:=Kd.at_int (Kd.R_reads' HO_9.1).2.2 x12_2 Aw Ax;cases Bq
                    replace Aw:=eq_true Aw;replace Ax:=eq_true Ax;obtain ⟨Ao70,co70,eo70⟩:=Kd.R_slice HO_8.1;(first|subst eo70|(injection eo70 with f1_ f2_ f3_;have f4_:=f1_.symm;have f5_:=f3_.symm;clear f1_ f2_ f3_;subst f4_;subst f5_))
                    have Ay : 0 ≤ (x13_3 : Int):=of_decide_eq_true (by first|(with_reducible assumption)|assumption);have Az : x13_3 < (x8_3.length : Int):=of_decide_eq_true (by first|(with_reducible assumption)|assumption);obtain ⟨Bi,Br,Ap⟩:=Kd.at_int (Kd.R_reads' HO_8.1).2.2 x13_3 Ay Az;cases Br
                    replace Ay:=eq_true Ay;replace Az:=eq_true Az;refine start_ (n:=26) (S:=fun w'=>w'.cell? (Bh.add (x12_2).toNat) = some (.int .i64 (rd x9_3 x12_2)) ∧ w'.cell? (Bi.add (x13_3).toNat) = some (.int .i64 (rd x8_3 x13_3))) (ds:=[]) #[F,F,F,F,F,F,F,F,F,F,F,F,F,F,F,F,F,F,F,F,F,F,F,F,F,F] (by kernel_rfl) rfl rfl ⟨Ao,Ap⟩ (fun hHeld=>?_);refine with_tabW Aab.tab19 Aab.bits19 (fun HT_ HW_=>?_)
                    generalize wr.drew = w68 at HO_8 HO_9 Aa Ac Ad HI0 HK HB Ao Ap hHeld ⊢
                    refine pu_ (i:=0) (N:=61) #[T,F,F,F,F,F,F,F,F,F,F,F,F,F,F,F,F,F,F,F,F,F,F,F,F,F] HT_.1 rfl rfl (fun _ _ _ h=>h) rfl (h:=?_)
                    refine pu_ (i:=1) (N:=62) #[T,T,F,F,F,F,F,F,F,F,F,F,F,F,F,F,F,F,F,F,F,F,F,F,F,F] HT_.1 rfl rfl (fun _ _ _ h=>h) rfl (h:=?_)
                    refine pu_ (i:=2) (N:=63) #[T,T,T,F,F,F,F,F,F,F,F,F,F,F,F,F,F,F,F,F,F,F,F,F,F,F] HT_.1 rfl rfl (fun _ _ _ h=>h) rfl (h:=?_)
                    refine pu_ (i:=3) (N:=64) #[T,T,T,T,F,F,F,F,F,F,F,F,F,F,F,F,F,F,F,F,F,F,F,F,F,F] HT_.1 rfl rfl (fun _ _ _ h=>h) rfl (h:=?_)
                    refine pu_ (i:=4) (N:=65) #[T,T,T,T,T,F,F,F,F,F,F,F,F,F,F,F,F,F,F,F,F,F,F,F,F,F] HT_.1 rfl rfl (fun _ _ _ h=>h) rfl (h:=?_)
                    refine pu_ (i:=5) (N:=66) #[T,T,T,T,T,T,F,F,F,F,F,F,F,F,F,F,F,F,F,F,F,F,F,F,F,F] HT_.1 rfl rfl (fun _ _ _ h=>h) rfl (h:=?_)
                    refine pu_ (i:=7) (N:=68) #[T,T,T,T,T,T,F,T,F,F,F,F,F,F,F,F,F,F,F,F,F,F,F,F,F,F] HT_.1 rfl rfl (fun _ _ _ h=>h) rfl (h:=?_)
                    refine pu_ (i:=8) (N:=69) #[T,T,T,T,T,T,F,T,T,F,F,F,F,F,F,F,F,F,F,F,F,F,F,F,F,F] HT_.1 rfl rfl (fun _ _ _ h=>h) rfl (h:=?_)
                    refine pu_ (i:=9) (N:=70) #[T,T,T,T,T,T,F,T,T,T,F,F,F,F,F,F,F,F,F,F,F,F,F,F,F,F] HT_.1 rfl rfl (fun _ _ _ h=>h) rfl (h:=?_)
                    refine take_ (i:=6) (N:=some 67) (v:=?_) (a':=?_) #[T,T,T,T,T,T,T,T,T,T,F,F,F,F,F,F,F,F,F,F,F,F,F,F,F,F] rfl rfl (take_ofW HT_.1 HW_.1 (by kernel_rfl)) (fun _ _ _ h=>h) (Or.inl ⟨by rfl,?_⟩) hHeld ?_ ?_
                    rotate_left
                    ·rintro w' ⟨s0,s1⟩
                     go_simp
                     with_reducible rfl
                    rotate_left;·simp only [Act.put,L_,M_,N_,i64_w,i32_w];rfl
                    refine take_ (i:=10) (N:=some 71) (v:=?_) (a':=?_) #[T,T,T,T,T,T,T,T,T,T,T,F,F,F,F,F,F,F,F,F,F,F,F,F,F,F] rfl rfl (take_ofW HT_.1 HW_.1 (by kernel_rfl)) (fun _ _ _ h=>h) (Or.inl ⟨by rfl,?_⟩) hHeld ?_ ?_
                    rotate_left
                    ·rintro w' ⟨s0,s1⟩
                     go_simp
                     with_reducible rfl
                    rotate_left;·simp only [Act.put,L_,M_,N_,i64_w,i32_w];rfl
                    refine pu_ (i:=11) (N:=72) #[T,T,T,T,T,T,T,T,T,T,T,T,F,F,F,F,F,F,F,F,F,F,F,F,F,F] HT_.1 rfl rfl (fun _ _ _ h=>h) rfl (h:=?_)
                    refine pu_ (i:=12) (N:=73) #[T,T,T,T,T,T,T,T,T,T,T,T,T,F,F,F,F,F,F,F,F,F,F,F,F,F] HT_.1 rfl rfl (fun _ _ _ h=>h) rfl (h:=?_)
                    refine pu_ (i:=13) (N:=74) #[T,T,T,T,T,T,T,T,T,T,T,T,T,T,F,F,F,F,F,F,F,F,F,F,F,F] HT_.1 rfl rfl (fun _ _ _ h=>h) rfl (h:=?_)
                    refine pu_ (i:=14) (N:=75) #[T,T,T,T,T,T,T,T,T,T,T,T,T,T,T,F,F,F,F,F,F,F,F,F,F,F] HT_.1 rfl rfl (fun _ _ _ h=>h) rfl (h:=?_)
                    refine pu_ (i:=15) (N:=76) #[T,T,T,T,T,T,T,T,T,T,T,T,T,T,T,T,F,F,F,F,F,F,F,F,F,F] HT_.1 rfl rfl (fun _ _ _ h=>h) rfl (h:=?_)
                    refine pu_ (i:=16) (N:=77) #[T,T,T,T,T,T,T,T,T,T,T,T,T,T,T,T,T,F,F,F,F,F,F,F,F,F] HT_.1 rfl rfl (fun _ _ _ h=>h) rfl (h:=?_)
                    refine pu_ (i:=17) (N:=78) #[T,T,T,T,T,T,T,T,T,T,T,T,T,T,T,T,T,T,F,F,F,F,F,F,F,F] HT_.1 rfl rfl (fun _ _ _ h=>h) rfl (h:=?_)
                    refine pu_ (i:=18) (N:=79) #[T,T,T,T,T,T,T,T,T,T,T,T,T,T,T,T,T,T,T,F,F,F,F,F,F,F] HT_.1 rfl rfl (fun _ _ _ h=>h) rfl (h:=?_)
                    refine pu_ (i:=19) (N:=80) #[T,T,T,T,T,T,T,T,T,T,T,T,T,T,T,T,T,T,T,T,F,F,F,F,F,F] HT_.1 rfl rfl (fun _ _ _ h=>h) rfl (h:=?_)
                    refine pu_ (i:=20) (N:=81) #[T,T,T,T,T,T,T,T,T,T,T,T,T,T,T,T,T,T,T,T,T,F,F,F,F,F] HT_.1 rfl rfl (fun _ _ _ h=>h) rfl (h:=?_)
                    refine pu_ (i:=21) (N:=82) #[T,T,T,T,T,T,T,T,T,T,T,T,T,T,T,T,T,T,T,T,T,T,F,F,F,F] HT_.1 rfl rfl (fun _ _ _ h=>h) rfl (h:=?_)
                    refine pure_ (i:=22) (N:=some 83) (v:=undef) (a':=?_) #[T,T,T,T,T,T,T,T,T,T,T,T,T,T,T,T,T,T,T,T,T,T,T,F,F,F] rfl rfl (any_of HT_.1 (by kernel_rfl)) (fun _ _ _ h=>h) (Or.inr ⟨by rfl,rfl⟩) ?_ ?_
                    rotate_left;·simp only [Act.put,L_,M_,N_,i64_w,i32_w];rfl
                    refine pure_ (i:=23) (N:=some 84) (v:=undef) (a':=?_) #[T,T,T,T,T,T,T,T,T,T,T,T,T,T,T,T,T,T,T,T,T,T,T,T,F,F] rfl rfl (any_of HT_.1 (by kernel_rfl)) (fun _ _ _ h=>h) (Or.inr ⟨by rfl,rfl⟩) ?_ ?_
                    rotate_left;·simp only [Act.put,L_,M_,N_,i64_w,i32_w];rfl
                    refine pu_ (i:=24) (N:=85) #[T,T,T,T,T,T,T,T,T,T,T,T,T,T,T,T,T,T,T,T,T,T,T,T,T,F] HT_.1 rfl rfl (fun _ _ _ h=>h) rfl (h:=?_)
                    refine pu_ (i:=25) (N:=86) #[T,T,T,T,T,T,T,T,T,T,T,T,T,T,T,T,T,T,T,T,T,T,T,T,T,T] HT_.1 rfl rfl (fun _ _ _ h=>h) rfl (h:=?_)
                    refine done_ (done_of HT_.1 (by kernel_rfl)) ?_
                    try go_wp2
                    go_roundg k3
                    case measure=>have:=HK1.1;have:=HK2.1;have:=HK3.1;omega
                    case rel=>exact ⟨(x8_3),(x9_3),(wrap64 (x13_3 + 1)),(Ah),(Ai),(Ab),(Ak),(by first|rfl|(simp;done)|(simp [*];done)),H',⟨by have:=HK1.1;have:=HK2.1;have:=HK3.1;omega⟩,⟨rl_ HO_8⟩,⟨rl_ HO_9⟩,⟨rl_ Aa⟩,⟨bl_ Ac⟩,⟨bl_ Ad⟩,⟨is_⟩,⟨by repeat (first|(with_reducible first|exact HK.1|apply KeepBut.set_|apply keep_drewN|apply keep_drew|apply keep_alloc|refine keep_far ?_ Af.1 _|refine keep_far ?_ Aj.1 _)|exact HK.1)⟩,⟨by repeat (first|(with_reducible first|exact HB.1|apply below_alloc|apply pw_below_drewN|apply below_drew1|refine below_set ?_ (Aaa.ge HI0.1)|refine below_set ?_ (Aside0.out (by assumption)))|exact HB.1)⟩⟩
                  ·rw [if_neg c49] at H;have c49b0 : (Ag == 0) = false:=beq_eq_false_iff_ne.mpr c49;have c49b1 : (Ag != 0) = true:=bne_iff_ne.mpr c49;have H':=A_ H;clear H;try go_wp2
                   replace HO_8:=A_ (Kd.R_drew HO_8.1);replace HO_9:=A_ (Kd.R_drew HO_9.1);replace Aa:=A_ (Kd.R_drew Aa.1);replace Ac:=A_ (blk_drew Ac.1);replace Ad:=A_ (blk_drew Ad.1);replace HI0:=A_ (Aaa.drew HI0.1);replace HK:=A_ (keep_drew HK.1);replace HB:=A_ (below_drew1 HB.1);obtain ⟨Ao72,co72,eo72⟩:=Kd.R_slice HO_9.1;(first|subst eo72|(injection eo72 with f1_ f2_ f3_;have f4_:=f1_.symm;have f5_:=f3_.symm;clear f1_ f2_ f3_;subst f4_;subst f5_))
                   have Aw : 0 ≤ (x12_2 : Int):=of_decide_eq_true (by first|(with_reducible assumption)|assumption);have Ax : x12_2 < (x9_3.length : Int):=of_decide_eq_true (by first|(with_reducible assumption)|assumption);obtain ⟨Bh,Bq,Ao⟩:=Kd.at_int (Kd.R_reads' HO_9.1).2.2 x12_2 Aw Ax;cases Bq
                   replace Aw:=eq_true Aw;replace Ax:=eq_true Ax;obtain ⟨Ao73,co73,eo73⟩:=Kd.R_slice HO_8.1;(first|subst eo73|(injection eo73 with f1_ f2_ f3_;have f4_:=f1_.symm;have f5_:=f3_.symm;clear f1_ f2_ f3_;subst f4_;subst f5_))
                   have Ay : 0 ≤ (x13_3 : Int):=of_decide_eq_true (by first|(with_reducible assumption)|assumption);have Az : x13_3 < (x8_3.length : Int):=of_decide_eq_true (by first|(with_reducible assumption)|assumption);obtain ⟨Bi,Br,Ap⟩:=Kd.at_int (Kd.R_reads' HO_8.1).2.2 x13_3 Ay Az;cases Br
                   replace Ay:=eq_true Ay;replace Az:=eq_true Az;refine start_ (n:=26) (S:=fun w'=>w'.cell? (Bh.add (x12_2).toNat) = some (.int .i64 (rd x9_3 x12_2)) ∧ w'.cell? (Bi.add (x13_3).toNat) = some (.int .i64 (rd x8_3 x13_3))) (ds:=[]) #[F,F,F,F,F,F,F,F,F,F,F,F,F,F,F,F,F,F,F,F,F,F,F,F,F,F] (by kernel_rfl) rfl rfl ⟨Ao,Ap⟩ (fun hHeld=>?_);refine with_tabW Aab.tab19 Aab.bits19 (fun HT_ HW_=>?_)
                   generalize wr.drew = w71 at HO_8 HO_9 Aa Ac Ad HI0 HK HB Ao Ap hHeld ⊢
                   refine pu_ (i:=0) (N:=61) #[T,F,F,F,F,F,F,F,F,F,F,F,F,F,F,F,F,F,F,F,F,F,F,F,F,F] HT_.1 rfl rfl (fun _ _ _ h=>h) rfl (h:=?_)
                   refine pu_ (i:=1) (N:=62) #[T,T,F,F,F,F,F,F,F,F,F,F,F,F,F,F,F,F,F,F,F,F,F,F,F,F] HT_.1 rfl rfl (fun _ _ _ h=>h) rfl (h:=?_)
                   refine pu_ (i:=2) (N:=63) #[T,T,T,F,F,F,F,F,F,F,F,F,F,F,F,F,F,F,F,F,F,F,F,F,F,F] HT_.1 rfl rfl (fun _ _ _ h=>h) rfl (h:=?_)
                   refine pu_ (i:=3) (N:=64) #[T,T,T,T,F,F,F,F,F,F,F,F,F,F,F,F,F,F,F,F,F,F,F,F,F,F] HT_.1 rfl rfl (fun _ _ _ h=>h) rfl (h:=?_)
                   refine pu_ (i:=4) (N:=65) #[T,T,T,T,T,F,F,F,F,F,F,F,F,F,F,F,F,F,F,F,F,F,F,F,F,F] HT_.1 rfl rfl (fun _ _ _ h=>h) rfl (h:=?_)
                   refine pu_ (i:=5) (N:=66) #[T,T,T,T,T,T,F,F,F,F,F,F,F,F,F,F,F,F,F,F,F,F,F,F,F,F] HT_.1 rfl rfl (fun _ _ _ h=>h) rfl (h:=?_)
                   refine pu_ (i:=7) (N:=68) #[T,T,T,T,T,T,F,T,F,F,F,F,F,F,F,F,F,F,F,F,F,F,F,F,F,F] HT_.1 rfl rfl (fun _ _ _ h=>h) rfl (h:=?_)
                   refine pu_ (i:=8) (N:=69) #[T,T,T,T,T,T,F,T,T,F,F,F,F,F,F,F,F,F,F,F,F,F,F,F,F,F] HT_.1 rfl rfl (fun _ _ _ h=>h) rfl (h:=?_)
                   refine pu_ (i:=9) (N:=70) #[T,T,T,T,T,T,F,T,T,T,F,F,F,F,F,F,F,F,F,F,F,F,F,F,F,F] HT_.1 rfl rfl (fun _ _ _ h=>h) rfl (h:=?_)
                   refine take_ (i:=6) (N:=some 67) (v:=?_) (a':=?_) #[T,T,T,T,T,T,T,T,T,T,F,F,F,F,F,F,F,F,F,F,F,F,F,F,F,F] rfl rfl (take_ofW HT_.1 HW_.1 (by kernel_rfl)) (fun _ _ _ h=>h) (Or.inl ⟨by rfl,?_⟩) hHeld ?_ ?_
                   rotate_left
                   ·rintro w' ⟨s0,s1⟩
                    go_simp
                    with_reducible rfl
                   rotate_left;·simp only [Act.put,L_,M_,N_,i64_w,i32_w];rfl
                   refine take_ (i:=10) (N:=some 71) (v:=?_) (a':=?_) #[T,T,T,T,T,T,T,T,T,T,T,F,F,F,F,F,F,F,F,F,F,F,F,F,F,F] rfl rfl (take_ofW HT_.1 HW_.1 (by kernel_rfl)) (fun _ _ _ h=>h) (Or.inl ⟨by rfl,?_⟩) hHeld ?_ ?_
                   rotate_left
                   ·rintro w' ⟨s0,s1⟩
                    go_simp
                    with_reducible rfl
                   rotate_left;·simp only [Act.put,L_,M_,N_,i64_w,i32_w];rfl
                   refine pu_ (i:=11) (N:=72) #[T,T,T,T,T,T,T,T,T,T,T,T,F,F,F,F,F,F,F,F,F,F,F,F,F,F] HT_.1 rfl rfl (fun _ _ _ h=>h) rfl (h:=?_)
                   refine pu_ (i:=12) (N:=73) #[T,T,T,T,T,T,T,T,T,T,T,T,T,F,F,F,F,F,F,F,F,F,F,F,F,F] HT_.1 rfl rfl (fun _ _ _ h=>h) rfl (h:=?_)
                   refine pu_ (i:=13) (N:=74) #[T,T,T,T,T,T,T,T,T,T,T,T,T,T,F,F,F,F,F,F,F,F,F,F,F,F] HT_.1 rfl rfl (fun _ _ _ h=>h) rfl (h:=?_)
                   refine pu_ (i:=14) (N:=75) #[T,T,T,T,T,T,T,T,T,T,T,T,T,T,T,F,F,F,F,F,F,F,F,F,F,F] HT_.1 rfl rfl (fun _ _ _ h=>h) rfl (h:=?_)
                   refine pu_ (i:=15) (N:=76) #[T,T,T,T,T,T,T,T,T,T,T,T,T,T,T,T,F,F,F,F,F,F,F,F,F,F] HT_.1 rfl rfl (fun _ _ _ h=>h) rfl (h:=?_)
                   refine pu_ (i:=16) (N:=77) #[T,T,T,T,T,T,T,T,T,T,T,T,T,T,T,T,T,F,F,F,F,F,F,F,F,F] HT_.1 rfl rfl (fun _ _ _ h=>h) rfl (h:=?_)
                   refine pure_ (i:=17) (N:=some 78) (v:=undef) (a':=?_) #[T,T,T,T,T,T,T,T,T,T,T,T,T,T,T,T,T,T,F,F,F,F,F,F,F,F] rfl rfl (any_of HT_.1 (by kernel_rfl)) (fun _ _ _ h=>h) (Or.inr ⟨by rfl,rfl⟩) ?_ ?_
                   rotate_left;·simp only [Act.put,L_,M_,N_,i64_w,i32_w];rfl
                   refine pure_ (i:=18) (N:=some 79) (v:=undef) (a':=?_) #[T,T,T,T,T,T,T,T,T,T,T,T,T,T,T,T,T,T,T,F,F,F,F,F,F,F] rfl rfl (any_of HT_.1 (by kernel_rfl)) (fun _ _ _ h=>h) (Or.inr ⟨by rfl,rfl⟩) ?_ ?_
                   rotate_left;·simp only [Act.put,L_,M_,N_,i64_w,i32_w];rfl
                   refine pure_ (i:=19) (N:=some 80) (v:=undef) (a':=?_) #[T,T,T,T,T,T,T,T,T,T,T,T,T,T,T,T,T,T,T,T,F,F,F,F,F,F] rfl rfl (any_of HT_.1 (by kernel_rfl)) (fun _ _ _ h=>h) (Or.inr ⟨by rfl,rfl⟩) ?_ ?_
                   rotate_left;·simp only [Act.put,L_,M_,N_,i64_w,i32_w];rfl
                   refine pu_ (i:=20) (N:=81) #[T,T,T,T,T,T,T,T,T,T,T,T,T,T,T,T,T,T,T,T,T,F,F,F,F,F] HT_.1 rfl rfl (fun _ _ _ h=>h) rfl (h:=?_)
                   refine pu_ (i:=21) (N:=82) #[T,T,T,T,T,T,T,T,T,T,T,T,T,T,T,T,T,T,T,T,T,T,F,F,F,F] HT_.1 rfl rfl (fun _ _ _ h=>h) rfl (h:=?_)
                   refine pure_ (i:=22) (N:=some 83) (v:=undef) (a':=?_) #[T,T,T,T,T,T,T,T,T,T,T,T,T,T,T,T,T,T,T,T,T,T,T,F,F,F] rfl rfl (any_of HT_.1 (by kernel_rfl)) (fun _ _ _ h=>h) (Or.inr ⟨by rfl,rfl⟩) ?_ ?_
                   rotate_left;·simp only [Act.put,L_,M_,N_,i64_w,i32_w];rfl
                   refine pure_ (i:=23) (N:=some 84) (v:=undef) (a':=?_) #[T,T,T,T,T,T,T,T,T,T,T,T,T,T,T,T,T,T,T,T,T,T,T,T,F,F] rfl rfl (any_of HT_.1 (by kernel_rfl)) (fun _ _ _ h=>h) (Or.inr ⟨by rfl,rfl⟩) ?_ ?_
                   rotate_left;·simp only [Act.put,L_,M_,N_,i64_w,i32_w];rfl
                   refine pu_ (i:=24) (N:=85) #[T,T,T,T,T,T,T,T,T,T,T,T,T,T,T,T,T,T,T,T,T,T,T,T,T,F] HT_.1 rfl rfl (fun _ _ _ h=>h) rfl (h:=?_)
                   refine pu_ (i:=25) (N:=86) #[T,T,T,T,T,T,T,T,T,T,T,T,T,T,T,T,T,T,T,T,T,T,T,T,T,T] HT_.1 rfl rfl (fun _ _ _ h=>h) rfl (h:=?_)
                   refine done_ (done_of HT_.1 (by kernel_rfl)) ?_
                   try go_wp2
                   go_roundg k3
                   case measure=>have:=HK1.1;have:=HK2.1;have:=HK3.1;omega
                   case rel=>exact ⟨(x8_3),(x9_3),(wrap64 (x13_3 + 1)),(Ah),(Ai),(Ab),(Ak),(by first|rfl|(simp;done)|(simp [*];done)),H',⟨by have:=HK1.1;have:=HK2.1;have:=HK3.1;omega⟩,⟨rl_ HO_8⟩,⟨rl_ HO_9⟩,⟨rl_ Aa⟩,⟨bl_ Ac⟩,⟨bl_ Ad⟩,⟨is_⟩,⟨by repeat (first|(with_reducible first|exact HK.1|apply KeepBut.set_|apply keep_drewN|apply keep_drew|apply keep_alloc|refine keep_far ?_ Af.1 _|refine keep_far ?_ Aj.1 _)|exact HK.1)⟩,⟨by repeat (first|(with_reducible first|exact HB.1|apply below_alloc|apply pw_below_drewN|apply below_drew1|refine below_set ?_ (Aaa.ge HI0.1)|refine below_set ?_ (Aside0.out (by assumption)))|exact HB.1)⟩⟩
                ·rw [if_neg c37] at H;exact absurd H (by simp)
               ·rw [if_neg c36] at H;exact absurd H (by simp)
              ·rw [if_neg c35] at H;exact absurd H (by simp)
             ·rw [if_neg c34] at H;exact absurd H (by simp)
            ·rw [if_neg c33] at H;have c33b0 : decide (0 < Ag) = false:=decide_eq_false c33;clear c33;by_cases c74 : Ag = 0
             ·rw [if_pos c74] at H;have c74b0 : (Ag == 0) = true:=beq_iff_eq.mpr c74;have c74b1 : (Ag != 0) = false:=bne_eq_false_iff_eq.mpr c74;clear c74;by_cases c75 : x12_2 < x13_3
              ·rw [if_pos c75] at H;have c75b0 : decide (x12_2 < x13_3) = true:=decide_eq_true c75;clear c75;replace H:=Option.bind_eq_some_iff.mp H;obtain ⟨⟨C9,Bm,Bn⟩,Da,H⟩:=H;replace H : (if C9 = true then (if 0 ≤ x12_2 then (if x12_2 < (Ab.length : Int) then (if 0 ≤ x13_3 then (Aab.l2 k3 Ae Ag x8_3 x9_3 x12_2 (wrap64 (x13_3 + 1)) s0_0 Bm Bn Ae (Ab.set (x12_2 : Int).toNat (Go.bits .or .i64 (rd Ab x12_2) (shl .i64 1 x13_3)))) else (none)) else (none)) else (none)) else (Aab.l2 k3 Ae Ag x8_3 x9_3 x12_2 (wrap64 (x13_3 + 1)) s0_0 Bm Bn Ae Ab)) = some (r1,r2,r3,r4):=H;have A76:=A_ Da;clear Da;by_cases c77 : C9 = true
               ·subst c77;have H1 : (if 0 ≤ x12_2 then (if x12_2 < (Ab.length : Int) then (if 0 ≤ x13_3 then (Aab.l2 k3 Ae Ag x8_3 x9_3 x12_2 (wrap64 (x13_3 + 1)) s0_0 Bm Bn Ae (Ab.set (x12_2 : Int).toNat (Go.bits .or .i64 (rd Ab x12_2) (shl .i64 1 x13_3)))) else (none)) else (none)) else (none)) = some (r1,r2,r3,r4):=by rw [if_pos rfl] at H;exact H
                clear H;have H:=H1;clear H1;by_cases c78 : 0 ≤ x12_2
                ·rw [if_pos c78] at H;have c78b0 : decide (0 ≤ x12_2) = true:=decide_eq_true c78;clear c78;by_cases c79 : x12_2 < (Ab.length : Int)
                 ·rw [if_pos c79] at H;have c79b0 : decide (x12_2 < (Ab.length : Int)) = true:=decide_eq_true c79;clear c79;by_cases c80 : 0 ≤ x13_3
                  ·rw [if_pos c80] at H;have c80b0:=eq_true c80;have c80b1 : decide (0 ≤ x13_3) = true:=decide_eq_true c80;clear c80;obtain ⟨ji81,hji81⟩ : ∃ j_ : Int,(shl .i64 1 x13_3) = j_:=⟨_,rfl⟩;replace H : (Aab.l2 k3 Ae Ag x8_3 x9_3 x12_2 (wrap64 (x13_3 + 1)) s0_0 Bm Bn Ae (Ab.set (x12_2 : Int).toNat (Go.bits .or .i64 (rd Ab x12_2) (ji81)))) = some (r1,r2,r3,r4):=by first|(rw [hji81] at H;exact H)|(simp only [hji81] at H ⊢;exact H)
                   (try rw [hji81] at A76);have hji81_ : (IntKind.i64.wrap (1 * 2 ^ min x13_3.toNat 64)) = ji81:=hji81;have hji81z : x13_3 ≤ 64 → (IntKind.i64.wrap (1 * 2 ^ x13_3.toNat)) = ji81:=shl_small hji81;have hji81u : (IntKind.i64.wrap (2 ^ min x13_3.toNat 64)) = ji81:=by have h_:=hji81_;rw [Int.one_mul] at h_;exact h_
                   have hji81v : x13_3 ≤ 64 → (IntKind.i64.wrap (2 ^ x13_3.toNat)) = ji81:=fun hle_=>by have h_:=hji81z hle_;rw [Int.one_mul] at h_;exact h_
                   have hji81y : (wrap64 (1 * 2 ^ min x13_3.toNat 64)) = ji81:=(i64_w _).symm.trans hji81_;have hji81x : x13_3 ≤ 64 → (wrap64 (1 * 2 ^ x13_3.toNat)) = ji81:=fun h_=>(i64_w _).symm.trans (hji81z h_)
                   obtain ⟨Db,B8⟩ : ∃ y_ : List Int,y_ = (Ab.set (x12_2 : Int).toNat (Go.bits .or .i64 (rd Ab x12_2) (ji81))):=⟨_,rfl⟩;replace H : (Aab.l2 k3 Ae Ag x8_3 x9_3 x12_2 (wrap64 (x13_3 + 1)) s0_0 Bm Bn Ae Db) = some (r1,r2,r3,r4):=by first|(rw [B8];with_reducible exact H)|(have H2_:=(Option.bind_some _ _).symm.trans H;rw [B8];with_reducible exact H2_)|(have H2_:=(Option.bind_some _ _).symm.trans H;with_reducible exact H2_)|with_reducible exact H|(rw [B8];exact H)|exact H
                   have Dj:=A_ B8;clear B8;have H':=A_ H;clear H;try go_wp2
                   replace HO_8:=A_ (Kd.R_drew HO_8.1);replace HO_9:=A_ (Kd.R_drew HO_9.1);replace Aa:=A_ (Kd.R_drew Aa.1);replace Ac:=A_ (blk_drew Ac.1);replace Ad:=A_ (blk_drew Ad.1);replace HI0:=A_ (Aaa.drew HI0.1);replace HK:=A_ (keep_drew HK.1);replace HB:=A_ (below_drew1 HB.1);refine start_ (n:=26) (S:=fun w'=>True) (ds:=[]) #[F,F,F,F,F,F,F,F,F,F,F,F,F,F,F,F,F,F,F,F,F,F,F,F,F,F] (by kernel_rfl) rfl rfl trivial (fun hHeld=>?_);refine with_tabW Aab.tab19 Aab.bits19 (fun HT_ HW_=>?_)
                   generalize wr.drew = w83 at HO_8 HO_9 Aa Ac Ad HI0 HK HB hHeld ⊢
                   refine pu_ (i:=0) (N:=61) #[T,F,F,F,F,F,F,F,F,F,F,F,F,F,F,F,F,F,F,F,F,F,F,F,F,F] HT_.1 rfl rfl (fun _ _ _ h=>h) rfl (h:=?_)
                   refine pu_ (i:=1) (N:=62) #[T,T,F,F,F,F,F,F,F,F,F,F,F,F,F,F,F,F,F,F,F,F,F,F,F,F] HT_.1 rfl rfl (fun _ _ _ h=>h) rfl (h:=?_)
                   refine pu_ (i:=2) (N:=63) #[T,T,T,F,F,F,F,F,F,F,F,F,F,F,F,F,F,F,F,F,F,F,F,F,F,F] HT_.1 rfl rfl (fun _ _ _ h=>h) rfl (h:=?_)
                   refine pure_ (i:=3) (N:=some 64) (v:=undef) (a':=?_) #[T,T,T,T,F,F,F,F,F,F,F,F,F,F,F,F,F,F,F,F,F,F,F,F,F,F] rfl rfl (any_of HT_.1 (by kernel_rfl)) (fun _ _ _ h=>h) (Or.inr ⟨by rfl,rfl⟩) ?_ ?_
                   rotate_left;·simp only [Act.put,L_,M_,N_,i64_w,i32_w];rfl
                   refine pure_ (i:=4) (N:=some 65) (v:=undef) (a':=?_) #[T,T,T,T,T,F,F,F,F,F,F,F,F,F,F,F,F,F,F,F,F,F,F,F,F,F] rfl rfl (any_of HT_.1 (by kernel_rfl)) (fun _ _ _ h=>h) (Or.inr ⟨by rfl,rfl⟩) ?_ ?_
                   rotate_left;·simp only [Act.put,L_,M_,N_,i64_w,i32_w];rfl
                   refine pure_ (i:=5) (N:=some 66) (v:=undef) (a':=?_) #[T,T,T,T,T,T,F,F,F,F,F,F,F,F,F,F,F,F,F,F,F,F,F,F,F,F] rfl rfl (any_of HT_.1 (by kernel_rfl)) (fun _ _ _ h=>h) (Or.inr ⟨by rfl,rfl⟩) ?_ ?_
                   rotate_left;·simp only [Act.put,L_,M_,N_,i64_w,i32_w];rfl
                   refine pure_ (i:=6) (N:=some 67) (v:=undef) (a':=?_) #[T,T,T,T,T,T,T,F,F,F,F,F,F,F,F,F,F,F,F,F,F,F,F,F,F,F] rfl rfl (any_of HT_.1 (by kernel_rfl)) (fun _ _ _ h=>h) (Or.inr ⟨by rfl,rfl⟩) ?_ ?_
                   rotate_left;·simp only [Act.put,L_,M_,N_,i64_w,i32_w];rfl
                   refine pure_ (i:=7) (N:=some 68) (v:=undef) (a':=?_) #[T,T,T,T,T,T,T,T,F,F,F,F,F,F,F,F,F,F,F,F,F,F,F,F,F,F] rfl rfl (any_of HT_.1 (by kernel_rfl)) (fun _ _ _ h=>h) (Or.inr ⟨by rfl,rfl⟩) ?_ ?_
                   rotate_left;·simp only [Act.put,L_,M_,N_,i64_w,i32_w];rfl
                   refine pure_ (i:=8) (N:=some 69) (v:=undef) (a':=?_) #[T,T,T,T,T,T,T,T,T,F,F,F,F,F,F,F,F,F,F,F,F,F,F,F,F,F] rfl rfl (any_of HT_.1 (by kernel_rfl)) (fun _ _ _ h=>h) (Or.inr ⟨by rfl,rfl⟩) ?_ ?_
                   rotate_left;·simp only [Act.put,L_,M_,N_,i64_w,i32_w];rfl
                   refine pure_ (i:=9) (N:=some 70) (v:=undef) (a':=?_) #[T,T,T,T,T,T,T,T,T,T,F,F,F,F,F,F,F,F,F,F,F,F,F,F,F,F] rfl rfl (any_of HT_.1 (by kernel_rfl)) (fun _ _ _ h=>h) (Or.inr ⟨by rfl,rfl⟩) ?_ ?_
                   rotate_left;·simp only [Act.put,L_,M_,N_,i64_w,i32_w];rfl
                   refine pure_ (i:=10) (N:=some 71) (v:=undef) (a':=?_) #[T,T,T,T,T,T,T,T,T,T,T,F,F,F,F,F,F,F,F,F,F,F,F,F,F,F] rfl rfl (any_of HT_.1 (by kernel_rfl)) (fun _ _ _ h=>h) (Or.inr ⟨by rfl,rfl⟩) ?_ ?_
                   rotate_left;·simp only [Act.put,L_,M_,N_,i64_w,i32_w];rfl
                   refine pure_ (i:=11) (N:=some 72) (v:=undef) (a':=?_) #[T,T,T,T,T,T,T,T,T,T,T,T,F,F,F,F,F,F,F,F,F,F,F,F,F,F] rfl rfl (any_of HT_.1 (by kernel_rfl)) (fun _ _ _ h=>h) (Or.inr ⟨by rfl,rfl⟩) ?_ ?_
                   rotate_left;·simp only [Act.put,L_,M_,N_,i64_w,i32_w];rfl
                   refine pu_ (i:=12) (N:=73) #[T,T,T,T,T,T,T,T,T,T,T,T,T,F,F,F,F,F,F,F,F,F,F,F,F,F] HT_.1 rfl rfl (fun _ _ _ h=>h) rfl (h:=?_)
                   refine pu_ (i:=13) (N:=74) #[T,T,T,T,T,T,T,T,T,T,T,T,T,T,F,F,F,F,F,F,F,F,F,F,F,F] HT_.1 rfl rfl (fun _ _ _ h=>h) rfl (h:=?_)
                   refine pu_ (i:=14) (N:=75) #[T,T,T,T,T,T,T,T,T,T,T,T,T,T,T,F,F,F,F,F,F,F,F,F,F,F] HT_.1 rfl rfl (fun _ _ _ h=>h) rfl (h:=?_)
                   refine pu_ (i:=15) (N:=76) #[T,T,T,T,T,T,T,T,T,T,T,T,T,T,T,T,F,F,F,F,F,F,F,F,F,F] HT_.1 rfl rfl (fun _ _ _ h=>h) rfl (h:=?_)
                   refine pu_ (i:=16) (N:=77) #[T,T,T,T,T,T,T,T,T,T,T,T,T,T,T,T,T,F,F,F,F,F,F,F,F,F] HT_.1 rfl rfl (fun _ _ _ h=>h) rfl (h:=?_)
                   refine pu_ (i:=17) (N:=78) #[T,T,T,T,T,T,T,T,T,T,T,T,T,T,T,T,T,T,F,F,F,F,F,F,F,F] HT_.1 rfl rfl (fun _ _ _ h=>h) rfl (h:=?_)
                   refine pu_ (i:=18) (N:=79) #[T,T,T,T,T,T,T,T,T,T,T,T,T,T,T,T,T,T,T,F,F,F,F,F,F,F] HT_.1 rfl rfl (fun _ _ _ h=>h) rfl (h:=?_)
                   refine pu_ (i:=19) (N:=80) #[T,T,T,T,T,T,T,T,T,T,T,T,T,T,T,T,T,T,T,T,F,F,F,F,F,F] HT_.1 rfl rfl (fun _ _ _ h=>h) rfl (h:=?_)
                   refine pu_ (i:=20) (N:=81) #[T,T,T,T,T,T,T,T,T,T,T,T,T,T,T,T,T,T,T,T,T,F,F,F,F,F] HT_.1 rfl rfl (fun _ _ _ h=>h) rfl (h:=?_)
                   refine pu_ (i:=21) (N:=82) #[T,T,T,T,T,T,T,T,T,T,T,T,T,T,T,T,T,T,T,T,T,T,F,F,F,F] HT_.1 rfl rfl (fun _ _ _ h=>h) rfl (h:=?_)
                   refine pu_ (i:=22) (N:=83) #[T,T,T,T,T,T,T,T,T,T,T,T,T,T,T,T,T,T,T,T,T,T,T,F,F,F] HT_.1 rfl rfl (fun _ _ _ h=>h) rfl (h:=?_)
                   refine one_ (i:=23) (N:=some 84) #[T,T,T,T,T,T,T,T,T,T,T,T,T,T,T,T,T,T,T,T,T,T,T,T,F,F] rfl rfl (one_of HT_.1 (by kernel_rfl)) (by decide) (fun K hK=>?_)
                   refine goes_ Tryd.func58 (by kernel_rfl) rfl #[.pointer (some ⟨g,0,none⟩),.int .i64 3] (by rfl) rfl rfl au_ ?_
                   with_reducible refine (Abc.calls g s0_0 Ah Ai 3 true Bm Bn w0 _ ?side1 ?side2 A76.1).mono ?_
                   (case side1=>exact is_)
                   (case side2=>repeat (first|(with_reducible first|exact HB.1|apply below_alloc|apply pw_below_drewN|apply below_drew1|refine below_set ?_ (Aaa.ge HI0.1)|refine below_set ?_ (Aside0.out (by assumption)))|exact HB.1))
                   rintro e w84 ⟨rfl,hi,hb,hk⟩
                   refine ⟨_,rfl,?_⟩
                   replace HO_8:=A_ (Kd.R_mono (Kd.R_keep (Aaa.apart (show Aaa w0 _ g s0_0 Ah Ai from is_) (rl_ HO_8) (by decide)) hk (fun _ h=>h.2)) (fun _ h=>h.1));replace HO_9:=A_ (Kd.R_mono (Kd.R_keep (Aaa.apart (show Aaa w0 _ g s0_0 Ah Ai from is_) (rl_ HO_9) (by decide)) hk (fun _ h=>h.2)) (fun _ h=>h.1));replace Aa:=A_ (Kd.R_mono (Kd.R_keep (Aaa.apart (show Aaa w0 _ g s0_0 Ah Ai from is_) (rl_ Aa) (by decide)) hk (fun _ h=>h.2)) (fun _ h=>h.1));replace Ac:=A_ (KeepBut.blk hk (g':=Am) (o:=.cells #[.int .i64 0,.slice none 0 0] 26 (0,0)) (bl_ Ac) As.1 (by simp));replace Ad:=A_ (KeepBut.blk hk (g':=An) (o:=.cells #[.int .i64 Ae,Ak] 26 (0,0)) (bl_ Ad) At.1 (by simp));replace HK:=A_ (KeepBut.trans (by repeat (with_reducible first|exact HK.1|apply KeepBut.set_|apply keep_drewN|apply keep_drew|apply keep_alloc|refine keep_far ?_ Af.1 _|refine keep_far ?_ Aj.1 _)) hk (.inl rfl));replace HB:=A_ (hb);replace HI0:=A_ (hi);(try clear hb);(try clear hb2);(try clear hk);(try clear hi);refine hK.out _ _ trivial (fun hHeld=>?_)
                   clear hK K;refine norm_ (a':=?_) ?_ ?_
                   rotate_left
                   ·show Act.put _ (some 84) _ = _
                    simp only [Act.put,L_,M_,N_,i64_w,i32_w]
                    rfl
                   refine pu_ (i:=24) (N:=85) #[T,T,T,T,T,T,T,T,T,T,T,T,T,T,T,T,T,T,T,T,T,T,T,T,T,F] HT_.1 rfl rfl (fun _ _ _ h=>h) rfl (h:=?_)
                   refine pu_ (i:=25) (N:=86) #[T,T,T,T,T,T,T,T,T,T,T,T,T,T,T,T,T,T,T,T,T,T,T,T,T,T] HT_.1 rfl rfl (fun _ _ _ h=>h) rfl (h:=?_)
                   refine done_ (done_of HT_.1 (by kernel_rfl)) ?_
                   try go_wp2
                   replace HO_8:=A_ (Kd.R_drew HO_8.1);replace HO_9:=A_ (Kd.R_drew HO_9.1);replace Aa:=A_ (Kd.R_drew Aa.1);replace Ac:=A_ (blk_drew Ac.1);replace Ad:=A_ (blk_drew Ad.1);replace HI0:=A_ (Aaa.drew HI0.1);replace HK:=A_ (keep_drew HK.1);replace HB:=A_ (below_drew1 HB.1);obtain ⟨Ao86,co86,eo86⟩:=Kd.R_slice Aa.1;(first|subst eo86|(injection eo86 with f1_ f2_ f3_;have f4_:=f1_.symm;have f5_:=f3_.symm;clear f1_ f2_ f3_;subst f4_;subst f5_))
                   have Cv : 0 ≤ (x12_2 : Int):=of_decide_eq_true (by first|(with_reducible assumption)|assumption);have Cw : x12_2 < (Ab.length : Int):=of_decide_eq_true (by first|(with_reducible assumption)|assumption);obtain ⟨Dx,Dr,Cc⟩:=Kd.at_int (Kd.R_reads' Aa.1).2.2 x12_2 Cv Cw;cases Dr
                   replace Cv:=eq_true Cv;replace Cw:=eq_true Cw;have p82 : 0 ≤ (x12_2 : Int):=of_decide_eq_true (by first|(with_reducible assumption)|assumption);have q82 : (x12_2 : Int) < ((Ab.length : Int) : Int):=of_decide_eq_true (by first|(with_reducible assumption)|assumption);obtain ⟨go82,co82,eo82,gb82,gl82,cl82,HG82⟩:=Kd.R_form Aa.1 (by omega);(first|cases eo82|(injection eo82 with ea_ en_ ec_;(first|subst ea_|(injection ea_ with ea_;subst ea_));subst ec_;clear en_))
                   have GB82:=A_ gb82;have GG82:=A_ HG82;clear gb82 gl82 HG82;(first|simp only [add_plain] at Cc|skip)
                   obtain ⟨hx82_0,hf82_0⟩:=Kd.R_celln 0 Aa.1 (x12_2 : Int) p82 q82;replace p82:=eq_true p82;replace q82:=eq_true q82;have HN0_go82:=A_ (show g ≠ go82 from by have h_:=Aaa.own_ne HI0.1 Aa.1 (by decide);intro e_;exact h_ (by rw [e_];rfl));have HP87:=Kd.R_putn Aa.1 (x12_2 : Int) (Go.bits .or .i64 (rd Ab x12_2) (ji81));rw [← Dj.1] at HP87;have HQ87:=A_ HP87;clear HP87;refine start_ (n:=10) (S:=fun w'=>w'.cell? ⟨An,0,none⟩ = some (.int .i64 Ae) ∧ w'.cell? ⟨An,1,none⟩ = some (.slice (some ⟨go82,0,none⟩) Ab.length co86) ∧ w'.cell? ⟨go82,(x12_2).toNat,none⟩ = some (.int .i64 (rd Ab x12_2))) (ds:=[9]) #[F,F,F,F,F,F,F,F,F,F] (by kernel_rfl) rfl rfl ⟨blk_cell Ad.1 0,blk_cell Ad.1 1,Cc⟩ (fun hHeld=>?_);refine with_tabW Aab.tab20 Aab.bits20 (fun HT_ HW_=>?_)
                   generalize w84.drew = w85 at HO_8 HO_9 Aa Ac Ad HI0 HK HB GG82 HQ87 hf82_0 Cc hx82_0 hHeld ⊢
                   refine pu_ (i:=0) (N:=87) #[T,F,F,F,F,F,F,F,F,F] HT_.1 rfl rfl (fun _ _ _ h=>h) rfl (h:=?_)
                   refine pu_ (i:=2) (N:=89) #[T,F,T,F,F,F,F,F,F,F] HT_.1 rfl rfl (fun _ _ _ h=>h) rfl (h:=?_)
                   refine pu_ (i:=5) (N:=92) #[T,F,T,F,F,T,F,F,F,F] HT_.1 rfl rfl (fun _ _ _ h=>h) rfl (h:=?_)
                   refine pu_ (i:=6) (N:=93) #[T,F,T,F,F,T,T,F,F,F] HT_.1 rfl rfl (fun _ _ _ h=>h) rfl (h:=?_)
                   refine take_ (i:=1) (N:=some 88) (v:=?_) (a':=?_) #[T,T,T,F,F,T,T,F,F,F] rfl rfl (take_ofW HT_.1 HW_.1 (by kernel_rfl)) (fun _ _ _ h=>h) (Or.inl ⟨by rfl,?_⟩) hHeld ?_ ?_
                   rotate_left
                   ·rintro w' ⟨s0,s1,s2⟩
                    go_simp
                    with_reducible rfl
                   rotate_left;·simp only [Act.put,L_,M_,N_,i64_w,i32_w];rfl
                   refine pu_ (i:=3) (N:=90) #[T,T,T,T,F,T,T,F,F,F] HT_.1 rfl rfl (fun _ _ _ h=>h) rfl (h:=?_)
                   refine take_ (i:=4) (N:=some 91) (v:=?_) (a':=?_) #[T,T,T,T,T,T,T,F,F,F] rfl rfl (take_ofW HT_.1 HW_.1 (by kernel_rfl)) (fun _ _ _ h=>h) (Or.inl ⟨by rfl,?_⟩) hHeld ?_ ?_
                   rotate_left
                   ·rintro w' ⟨s0,s1,s2⟩
                    go_simp
                    with_reducible rfl
                   rotate_left;·simp only [Act.put,L_,M_,N_,i64_w,i32_w];rfl
                   refine pu_ (i:=7) (N:=94) #[T,T,T,T,T,T,T,T,F,F] HT_.1 rfl rfl (fun _ _ _ h=>h) rfl (h:=?_)
                   refine pu_ (i:=8) (N:=95) #[T,T,T,T,T,T,T,T,T,F] HT_.1 rfl rfl (fun _ _ _ h=>h) rfl (h:=?_)
                   refine last_ (i:=9) (N:=none) #[T,T,T,T,T,T,T,T,T,T] rfl rfl (one_of HT_.1 (by kernel_rfl)) (by decide) (fun K hK=>?_)
                   refine skip_ (w1:=?_) (by rfl) rfl ?_ ?_
                   rotate_left
                   ·go_simp
                    rfl
                   refine hK.out _ _ ?_
                   clear hK K;refine done_ (done_of HT_.1 (by kernel_rfl)) ?_
                   try go_wp2
                   go_roundg k3
                   case measure=>have:=HK1.1;have:=HK2.1;have:=HK3.1;omega
                   case rel=>exact ⟨(x8_3),(x9_3),(wrap64 (x13_3 + 1)),(Bm),(Bn),(Db),(.slice (some ⟨go82,0,none⟩) Ab.length co86),(by first|rfl|(simp;done)|(simp [*];done)),H',⟨by have:=HK1.1;have:=HK2.1;have:=HK3.1;omega⟩,⟨rq_ (Kd.R_mono (Kd.R_far (p:=⟨go82,(x12_2 : Int).toNat,none⟩) (Kd.R_mono HO_8.1 (fun k_ hk=>(⟨hk,fun e_=>hk.2 (by rw [e_];rfl)⟩ : _ ∧ k_ ≠ go82))) (fun _ hk=>hk.2) (.int .i64 (Go.bits .or .i64 (rd Ab x12_2) (ji81)))) (fun _ hk=>⟨hk.1.1,hk.1.2⟩))⟩,⟨rq_ (Kd.R_mono (Kd.R_far (p:=⟨go82,(x12_2 : Int).toNat,none⟩) (Kd.R_mono HO_9.1 (fun k_ hk=>(⟨hk,fun e_=>hk.2 (by rw [e_];rfl)⟩ : _ ∧ k_ ≠ go82))) (fun _ hk=>hk.2) (.int .i64 (Go.bits .or .i64 (rd Ab x12_2) (ji81)))) (fun _ hk=>⟨hk.1.1,hk.1.2⟩))⟩,⟨rl_ HQ87⟩,⟨by (with_reducible repeat (first|refine blk_drewN ?_ _|refine blk_drew ?_|refine blk_alloc ?_ _));refine blk_far ?_ (by have h_:=Kd.R_ne Aa.1 Ac.1 (by decide);intro e_;exact h_ (by rw [e_];rfl)) _;(with_reducible repeat (first|refine blk_drewN ?_ _|refine blk_drew ?_|refine blk_alloc ?_ _));exact Ac.1⟩,⟨by (with_reducible repeat (first|refine blk_drewN ?_ _|refine blk_drew ?_|refine blk_alloc ?_ _));refine blk_far ?_ (by have h_:=Kd.R_ne Aa.1 Ad.1 (by decide);intro e_;exact h_ (by rw [e_];rfl)) _;(with_reducible repeat (first|refine blk_drewN ?_ _|refine blk_drew ?_|refine blk_alloc ?_ _));exact Ad.1⟩,⟨by repeat (first|(with_reducible first|exact HI0.1|apply Aaa.alloc|apply Aaa.drewN|apply Aaa.drew|apply Aaa.set_1|apply Aaa.set_2|refine Aaa.far ?_ HN0_go82.1 _|refine Aaa.far ?_ (Aside0.out (by assumption)) _)|exact HI0.1)⟩,⟨by repeat (first|(with_reducible first|exact HK.1|apply KeepBut.set_|apply keep_drewN|apply keep_drew|apply keep_alloc|refine keep_far ?_ GB82.1 _|refine keep_far ?_ Af.1 _|refine keep_far ?_ Aj.1 _)|exact HK.1)⟩,⟨by repeat (first|(with_reducible first|exact HB.1|apply below_alloc|apply pw_below_drewN|apply below_drew1|refine below_set ?_ (Nat.le_trans HL.1 GB82.1)|refine below_set ?_ (Aaa.ge HI0.1)|refine below_set ?_ (Aside0.out (by assumption)))|exact HB.1)⟩⟩
                  ·rw [if_neg c80] at H;exact absurd H (by simp)
                 ·rw [if_neg c79] at H;exact absurd H (by simp)
                ·rw [if_neg c78] at H;exact absurd H (by simp)
               ·replace c77:=Bool.eq_false_iff.mpr c77;subst c77;have H1 : (Aab.l2 k3 Ae Ag x8_3 x9_3 x12_2 (wrap64 (x13_3 + 1)) s0_0 Bm Bn Ae Ab) = some (r1,r2,r3,r4):=by rw [if_neg (show ¬ (false = true) by decide)] at H;exact H
                clear H;have H:=H1;clear H1;have H':=A_ H;clear H;try go_wp2
                replace HO_8:=A_ (Kd.R_drew HO_8.1);replace HO_9:=A_ (Kd.R_drew HO_9.1);replace Aa:=A_ (Kd.R_drew Aa.1);replace Ac:=A_ (blk_drew Ac.1);replace Ad:=A_ (blk_drew Ad.1);replace HI0:=A_ (Aaa.drew HI0.1);replace HK:=A_ (keep_drew HK.1);replace HB:=A_ (below_drew1 HB.1);refine start_ (n:=26) (S:=fun w'=>True) (ds:=[]) #[F,F,F,F,F,F,F,F,F,F,F,F,F,F,F,F,F,F,F,F,F,F,F,F,F,F] (by kernel_rfl) rfl rfl trivial (fun hHeld=>?_);refine with_tabW Aab.tab19 Aab.bits19 (fun HT_ HW_=>?_)
                generalize wr.drew = w88 at HO_8 HO_9 Aa Ac Ad HI0 HK HB hHeld ⊢
                refine pu_ (i:=0) (N:=61) #[T,F,F,F,F,F,F,F,F,F,F,F,F,F,F,F,F,F,F,F,F,F,F,F,F,F] HT_.1 rfl rfl (fun _ _ _ h=>h) rfl (h:=?_)
                refine pu_ (i:=1) (N:=62) #[T,T,F,F,F,F,F,F,F,F,F,F,F,F,F,F,F,F,F,F,F,F,F,F,F,F] HT_.1 rfl rfl (fun _ _ _ h=>h) rfl (h:=?_)
                refine pu_ (i:=2) (N:=63) #[T,T,T,F,F,F,F,F,F,F,F,F,F,F,F,F,F,F,F,F,F,F,F,F,F,F] HT_.1 rfl rfl (fun _ _ _ h=>h) rfl (h:=?_)
                refine pure_ (i:=3) (N:=some 64) (v:=undef) (a':=?_) #[T,T,T,T,F,F,F,F,F,F,F,F,F,F,F,F,F,F,F,F,F,F,F,F,F,F] rfl rfl (any_of HT_.1 (by kernel_rfl)) (fun _ _ _ h=>h) (Or.inr ⟨by rfl,rfl⟩) ?_ ?_
                rotate_left;·simp only [Act.put,L_,M_,N_,i64_w,i32_w];rfl
                refine pure_ (i:=4) (N:=some 65) (v:=undef) (a':=?_) #[T,T,T,T,T,F,F,F,F,F,F,F,F,F,F,F,F,F,F,F,F,F,F,F,F,F] rfl rfl (any_of HT_.1 (by kernel_rfl)) (fun _ _ _ h=>h) (Or.inr ⟨by rfl,rfl⟩) ?_ ?_
                rotate_left;·simp only [Act.put,L_,M_,N_,i64_w,i32_w];rfl
                refine pure_ (i:=5) (N:=some 66) (v:=undef) (a':=?_) #[T,T,T,T,T,T,F,F,F,F,F,F,F,F,F,F,F,F,F,F,F,F,F,F,F,F] rfl rfl (any_of HT_.1 (by kernel_rfl)) (fun _ _ _ h=>h) (Or.inr ⟨by rfl,rfl⟩) ?_ ?_
                rotate_left;·simp only [Act.put,L_,M_,N_,i64_w,i32_w];rfl
                refine pure_ (i:=6) (N:=some 67) (v:=undef) (a':=?_) #[T,T,T,T,T,T,T,F,F,F,F,F,F,F,F,F,F,F,F,F,F,F,F,F,F,F] rfl rfl (any_of HT_.1 (by kernel_rfl)) (fun _ _ _ h=>h) (Or.inr ⟨by rfl,rfl⟩) ?_ ?_
                rotate_left;·simp only [Act.put,L_,M_,N_,i64_w,i32_w];rfl
                refine pure_ (i:=7) (N:=some 68) (v:=undef) (a':=?_) #[T,T,T,T,T,T,T,T,F,F,F,F,F,F,F,F,F,F,F,F,F,F,F,F,F,F] rfl rfl (any_of HT_.1 (by kernel_rfl)) (fun _ _ _ h=>h) (Or.inr ⟨by rfl,rfl⟩) ?_ ?_
                rotate_left;·simp only [Act.put,L_,M_,N_,i64_w,i32_w];rfl
                refine pure_ (i:=8) (N:=some 69) (v:=undef) (a':=?_) #[T,T,T,T,T,T,T,T,T,F,F,F,F,F,F,F,F,F,F,F,F,F,F,F,F,F] rfl rfl (any_of HT_.1 (by kernel_rfl)) (fun _ _ _ h=>h) (Or.inr ⟨by rfl,rfl⟩) ?_ ?_
                rotate_left;·simp only [Act.put,L_,M_,N_,i64_w,i32_w];rfl
                refine pure_ (i:=9) (N:=some 70) (v:=undef) (a':=?_) #[T,T,T,T,T,T,T,T,T,T,F,F,F,F,F,F,F,F,F,F,F,F,F,F,F,F] rfl rfl (any_of HT_.1 (by kernel_rfl)) (fun _ _ _ h=>h) (Or.inr ⟨by rfl,rfl⟩) ?_ ?_
                rotate_left;·simp only [Act.put,L_,M_,N_,i64_w,i32_w];rfl
                refine pure_ (i:=10) (N:=some 71) (v:=undef) (a':=?_) #[T,T,T,T,T,T,T,T,T,T,T,F,F,F,F,F,F,F,F,F,F,F,F,F,F,F] rfl rfl (any_of HT_.1 (by kernel_rfl)) (fun _ _ _ h=>h) (Or.inr ⟨by rfl,rfl⟩) ?_ ?_
                rotate_left;·simp only [Act.put,L_,M_,N_,i64_w,i32_w];rfl
                refine pure_ (i:=11) (N:=some 72) (v:=undef) (a':=?_) #[T,T,T,T,T,T,T,T,T,T,T,T,F,F,F,F,F,F,F,F,F,F,F,F,F,F] rfl rfl (any_of HT_.1 (by kernel_rfl)) (fun _ _ _ h=>h) (Or.inr ⟨by rfl,rfl⟩) ?_ ?_
                rotate_left;·simp only [Act.put,L_,M_,N_,i64_w,i32_w];rfl
                refine pu_ (i:=12) (N:=73) #[T,T,T,T,T,T,T,T,T,T,T,T,T,F,F,F,F,F,F,F,F,F,F,F,F,F] HT_.1 rfl rfl (fun _ _ _ h=>h) rfl (h:=?_)
                refine pu_ (i:=13) (N:=74) #[T,T,T,T,T,T,T,T,T,T,T,T,T,T,F,F,F,F,F,F,F,F,F,F,F,F] HT_.1 rfl rfl (fun _ _ _ h=>h) rfl (h:=?_)
                refine pu_ (i:=14) (N:=75) #[T,T,T,T,T,T,T,T,T,T,T,T,T,T,T,F,F,F,F,F,F,F,F,F,F,F] HT_.1 rfl rfl (fun _ _ _ h=>h) rfl (h:=?_)
                refine pu_ (i:=15) (N:=76) #[T,T,T,T,T,T,T,T,T,T,T,T,T,T,T,T,F,F,F,F,F,F,F,F,F,F] HT_.1 rfl rfl (fun _ _ _ h=>h) rfl (h:=?_)
                refine pu_ (i:=16) (N:=77) #[T,T,T,T,T,T,T,T,T,T,T,T,T,T,T,T,T,F,F,F,F,F,F,F,F,F] HT_.1 rfl rfl (fun _ _ _ h=>h) rfl (h:=?_)
                refine pu_ (i:=17) (N:=78) #[T,T,T,T,T,T,T,T,T,T,T,T,T,T,T,T,T,T,F,F,F,F,F,F,F,F] HT_.1 rfl rfl (fun _ _ _ h=>h) rfl (h:=?_)
                refine pu_ (i:=18) (N:=79) #[T,T,T,T,T,T,T,T,T,T,T,T,T,T,T,T,T,T,T,F,F,F,F,F,F,F] HT_.1 rfl rfl (fun _ _ _ h=>h) rfl (h:=?_)
                refine pu_ (i:=19) (N:=80) #[T,T,T,T,T,T,T,T,T,T,T,T,T,T,T,T,T,T,T,T,F,F,F,F,F,F] HT_.1 rfl rfl (fun _ _ _ h=>h) rfl (h:=?_)
                refine pu_ (i:=20) (N:=81) #[T,T,T,T,T,T,T,T,T,T,T,T,T,T,T,T,T,T,T,T,T,F,F,F,F,F] HT_.1 rfl rfl (fun _ _ _ h=>h) rfl (h:=?_)
                refine pu_ (i:=21) (N:=82) #[T,T,T,T,T,T,T,T,T,T,T,T,T,T,T,T,T,T,T,T,T,T,F,F,F,F] HT_.1 rfl rfl (fun _ _ _ h=>h) rfl (h:=?_)
                refine pu_ (i:=22) (N:=83) #[T,T,T,T,T,T,T,T,T,T,T,T,T,T,T,T,T,T,T,T,T,T,T,F,F,F] HT_.1 rfl rfl (fun _ _ _ h=>h) rfl (h:=?_)
                refine one_ (i:=23) (N:=some 84) #[T,T,T,T,T,T,T,T,T,T,T,T,T,T,T,T,T,T,T,T,T,T,T,T,F,F] rfl rfl (one_of HT_.1 (by kernel_rfl)) (by decide) (fun K hK=>?_)
                refine goes_ Tryd.func58 (by kernel_rfl) rfl #[.pointer (some ⟨g,0,none⟩),.int .i64 3] (by rfl) rfl rfl au_ ?_
                with_reducible refine (Abc.calls g s0_0 Ah Ai 3 false Bm Bn w0 _ ?side1 ?side2 A76.1).mono ?_
                (case side1=>exact is_)
                (case side2=>repeat (first|(with_reducible first|exact HB.1|apply below_alloc|apply pw_below_drewN|apply below_drew1|refine below_set ?_ (Aaa.ge HI0.1)|refine below_set ?_ (Aside0.out (by assumption)))|exact HB.1))
                rintro e w89 ⟨rfl,hi,hb,hk⟩
                refine ⟨_,rfl,?_⟩
                replace HO_8:=A_ (Kd.R_mono (Kd.R_keep (Aaa.apart (show Aaa w0 _ g s0_0 Ah Ai from is_) (rl_ HO_8) (by decide)) hk (fun _ h=>h.2)) (fun _ h=>h.1));replace HO_9:=A_ (Kd.R_mono (Kd.R_keep (Aaa.apart (show Aaa w0 _ g s0_0 Ah Ai from is_) (rl_ HO_9) (by decide)) hk (fun _ h=>h.2)) (fun _ h=>h.1));replace Aa:=A_ (Kd.R_mono (Kd.R_keep (Aaa.apart (show Aaa w0 _ g s0_0 Ah Ai from is_) (rl_ Aa) (by decide)) hk (fun _ h=>h.2)) (fun _ h=>h.1));replace Ac:=A_ (KeepBut.blk hk (g':=Am) (o:=.cells #[.int .i64 0,.slice none 0 0] 26 (0,0)) (bl_ Ac) As.1 (by simp));replace Ad:=A_ (KeepBut.blk hk (g':=An) (o:=.cells #[.int .i64 Ae,Ak] 26 (0,0)) (bl_ Ad) At.1 (by simp));replace HK:=A_ (KeepBut.trans (by repeat (with_reducible first|exact HK.1|apply KeepBut.set_|apply keep_drewN|apply keep_drew|apply keep_alloc|refine keep_far ?_ Af.1 _|refine keep_far ?_ Aj.1 _)) hk (.inl rfl));replace HB:=A_ (hb);replace HI0:=A_ (hi);(try clear hb);(try clear hb2);(try clear hk);(try clear hi);refine hK.out _ _ trivial (fun hHeld=>?_)
                clear hK K;refine norm_ (a':=?_) ?_ ?_
                rotate_left
                ·show Act.put _ (some 84) _ = _
                 simp only [Act.put,L_,M_,N_,i64_w,i32_w]
                 rfl
                refine pu_ (i:=24) (N:=85) #[T,T,T,T,T,T,T,T,T,T,T,T,T,T,T,T,T,T,T,T,T,T,T,T,T,F] HT_.1 rfl rfl (fun _ _ _ h=>h) rfl (h:=?_)
                refine pu_ (i:=25) (N:=86) #[T,T,T,T,T,T,T,T,T,T,T,T,T,T,T,T,T,T,T,T,T,T,T,T,T,T] HT_.1 rfl rfl (fun _ _ _ h=>h) rfl (h:=?_)
                refine done_ (done_of HT_.1 (by kernel_rfl)) ?_
                try go_wp2
                go_roundg k3
                case measure=>have:=HK1.1;have:=HK2.1;have:=HK3.1;omega
                case rel=>exact ⟨(x8_3),(x9_3),(wrap64 (x13_3 + 1)),(Bm),(Bn),(Ab),(Ak),(by first|rfl|(simp;done)|(simp [*];done)),H',⟨by have:=HK1.1;have:=HK2.1;have:=HK3.1;omega⟩,⟨rl_ HO_8⟩,⟨rl_ HO_9⟩,⟨rl_ Aa⟩,⟨bl_ Ac⟩,⟨bl_ Ad⟩,⟨is_⟩,⟨by repeat (first|(with_reducible first|exact HK.1|apply KeepBut.set_|apply keep_drewN|apply keep_drew|apply keep_alloc|refine keep_far ?_ Af.1 _|refine keep_far ?_ Aj.1 _)|exact HK.1)⟩,⟨by repeat (first|(with_reducible first|exact HB.1|apply below_alloc|apply pw_below_drewN|apply below_drew1|refine below_set ?_ (Aaa.ge HI0.1)|refine below_set ?_ (Aside0.out (by assumption)))|exact HB.1)⟩⟩
              ·rw [if_neg c75] at H;have c75b0 : decide (x12_2 < x13_3) = false:=decide_eq_false c75;clear c75;have H':=A_ H;clear H;try go_wp2
               replace HO_8:=A_ (Kd.R_drew HO_8.1);replace HO_9:=A_ (Kd.R_drew HO_9.1);replace Aa:=A_ (Kd.R_drew Aa.1);replace Ac:=A_ (blk_drew Ac.1);replace Ad:=A_ (blk_drew Ad.1);replace HI0:=A_ (Aaa.drew HI0.1);replace HK:=A_ (keep_drew HK.1);replace HB:=A_ (below_drew1 HB.1);refine start_ (n:=26) (S:=fun w'=>True) (ds:=[]) #[F,F,F,F,F,F,F,F,F,F,F,F,F,F,F,F,F,F,F,F,F,F,F,F,F,F] (by kernel_rfl) rfl rfl trivial (fun hHeld=>?_);refine with_tabW Aab.tab19 Aab.bits19 (fun HT_ HW_=>?_)
               generalize wr.drew = w90 at HO_8 HO_9 Aa Ac Ad HI0 HK HB hHeld ⊢
               refine pu_ (i:=0) (N:=61) #[T,F,F,F,F,F,F,F,F,F,F,F,F,F,F,F,F,F,F,F,F,F,F,F,F,F] HT_.1 rfl rfl (fun _ _ _ h=>h) rfl (h:=?_)
               refine pu_ (i:=1) (N:=62) #[T,T,F,F,F,F,F,F,F,F,F,F,F,F,F,F,F,F,F,F,F,F,F,F,F,F] HT_.1 rfl rfl (fun _ _ _ h=>h) rfl (h:=?_)
               refine pu_ (i:=2) (N:=63) #[T,T,T,F,F,F,F,F,F,F,F,F,F,F,F,F,F,F,F,F,F,F,F,F,F,F] HT_.1 rfl rfl (fun _ _ _ h=>h) rfl (h:=?_)
               refine pure_ (i:=3) (N:=some 64) (v:=undef) (a':=?_) #[T,T,T,T,F,F,F,F,F,F,F,F,F,F,F,F,F,F,F,F,F,F,F,F,F,F] rfl rfl (any_of HT_.1 (by kernel_rfl)) (fun _ _ _ h=>h) (Or.inr ⟨by rfl,rfl⟩) ?_ ?_
               rotate_left;·simp only [Act.put,L_,M_,N_,i64_w,i32_w];rfl
               refine pure_ (i:=4) (N:=some 65) (v:=undef) (a':=?_) #[T,T,T,T,T,F,F,F,F,F,F,F,F,F,F,F,F,F,F,F,F,F,F,F,F,F] rfl rfl (any_of HT_.1 (by kernel_rfl)) (fun _ _ _ h=>h) (Or.inr ⟨by rfl,rfl⟩) ?_ ?_
               rotate_left;·simp only [Act.put,L_,M_,N_,i64_w,i32_w];rfl
               refine pure_ (i:=5) (N:=some 66) (v:=undef) (a':=?_) #[T,T,T,T,T,T,F,F,F,F,F,F,F,F,F,F,F,F,F,F,F,F,F,F,F,F] rfl rfl (any_of HT_.1 (by kernel_rfl)) (fun _ _ _ h=>h) (Or.inr ⟨by rfl,rfl⟩) ?_ ?_
               rotate_left;·simp only [Act.put,L_,M_,N_,i64_w,i32_w];rfl
               refine pure_ (i:=6) (N:=some 67) (v:=undef) (a':=?_) #[T,T,T,T,T,T,T,F,F,F,F,F,F,F,F,F,F,F,F,F,F,F,F,F,F,F] rfl rfl (any_of HT_.1 (by kernel_rfl)) (fun _ _ _ h=>h) (Or.inr ⟨by rfl,rfl⟩) ?_ ?_
               rotate_left;·simp only [Act.put,L_,M_,N_,i64_w,i32_w];rfl
               refine pure_ (i:=7) (N:=some 68) (v:=undef) (a':=?_) #[T,T,T,T,T,T,T,T,F,F,F,F,F,F,F,F,F,F,F,F,F,F,F,F,F,F] rfl rfl (any_of HT_.1 (by kernel_rfl)) (fun _ _ _ h=>h) (Or.inr ⟨by rfl,rfl⟩) ?_ ?_
               rotate_left;·simp only [Act.put,L_,M_,N_,i64_w,i32_w];rfl
               refine pure_ (i:=8) (N:=some 69) (v:=undef) (a':=?_) #[T,T,T,T,T,T,T,T,T,F,F,F,F,F,F,F,F,F,F,F,F,F,F,F,F,F] rfl rfl (any_of HT_.1 (by kernel_rfl)) (fun _ _ _ h=>h) (Or.inr ⟨by rfl,rfl⟩) ?_ ?_
               rotate_left;·simp only [Act.put,L_,M_,N_,i64_w,i32_w];rfl
               refine pure_ (i:=9) (N:=some 70) (v:=undef) (a':=?_) #[T,T,T,T,T,T,T,T,T,T,F,F,F,F,F,F,F,F,F,F,F,F,F,F,F,F] rfl rfl (any_of HT_.1 (by kernel_rfl)) (fun _ _ _ h=>h) (Or.inr ⟨by rfl,rfl⟩) ?_ ?_
               rotate_left;·simp only [Act.put,L_,M_,N_,i64_w,i32_w];rfl
               refine pure_ (i:=10) (N:=some 71) (v:=undef) (a':=?_) #[T,T,T,T,T,T,T,T,T,T,T,F,F,F,F,F,F,F,F,F,F,F,F,F,F,F] rfl rfl (any_of HT_.1 (by kernel_rfl)) (fun _ _ _ h=>h) (Or.inr ⟨by rfl,rfl⟩) ?_ ?_
               rotate_left;·simp only [Act.put,L_,M_,N_,i64_w,i32_w];rfl
               refine pure_ (i:=11) (N:=some 72) (v:=undef) (a':=?_) #[T,T,T,T,T,T,T,T,T,T,T,T,F,F,F,F,F,F,F,F,F,F,F,F,F,F] rfl rfl (any_of HT_.1 (by kernel_rfl)) (fun _ _ _ h=>h) (Or.inr ⟨by rfl,rfl⟩) ?_ ?_
               rotate_left;·simp only [Act.put,L_,M_,N_,i64_w,i32_w];rfl
               refine pu_ (i:=12) (N:=73) #[T,T,T,T,T,T,T,T,T,T,T,T,T,F,F,F,F,F,F,F,F,F,F,F,F,F] HT_.1 rfl rfl (fun _ _ _ h=>h) rfl (h:=?_)
               refine pu_ (i:=13) (N:=74) #[T,T,T,T,T,T,T,T,T,T,T,T,T,T,F,F,F,F,F,F,F,F,F,F,F,F] HT_.1 rfl rfl (fun _ _ _ h=>h) rfl (h:=?_)
               refine pu_ (i:=14) (N:=75) #[T,T,T,T,T,T,T,T,T,T,T,T,T,T,T,F,F,F,F,F,F,F,F,F,F,F] HT_.1 rfl rfl (fun _ _ _ h=>h) rfl (h:=?_)
               refine pu_ (i:=15) (N:=76) #[T,T,T,T,T,T,T,T,T,T,T,T,T,T,T,T,F,F,F,F,F,F,F,F,F,F] HT_.1 rfl rfl (fun _ _ _ h=>h) rfl (h:=?_)
               refine pu_ (i:=16) (N:=77) #[T,T,T,T,T,T,T,T,T,T,T,T,T,T,T,T,T,F,F,F,F,F,F,F,F,F] HT_.1 rfl rfl (fun _ _ _ h=>h) rfl (h:=?_)
               refine pu_ (i:=17) (N:=78) #[T,T,T,T,T,T,T,T,T,T,T,T,T,T,T,T,T,T,F,F,F,F,F,F,F,F] HT_.1 rfl rfl (fun _ _ _ h=>h) rfl (h:=?_)
               refine pu_ (i:=18) (N:=79) #[T,T,T,T,T,T,T,T,T,T,T,T,T,T,T,T,T,T,T,F,F,F,F,F,F,F] HT_.1 rfl rfl (fun _ _ _ h=>h) rfl (h:=?_)
               refine pu_ (i:=19) (N:=80) #[T,T,T,T,T,T,T,T,T,T,T,T,T,T,T,T,T,T,T,T,F,F,F,F,F,F] HT_.1 rfl rfl (fun _ _ _ h=>h) rfl (h:=?_)
               refine pu_ (i:=20) (N:=81) #[T,T,T,T,T,T,T,T,T,T,T,T,T,T,T,T,T,T,T,T,T,F,F,F,F,F] HT_.1 rfl rfl (fun _ _ _ h=>h) rfl (h:=?_)
               refine pu_ (i:=21) (N:=82) #[T,T,T,T,T,T,T,T,T,T,T,T,T,T,T,T,T,T,T,T,T,T,F,F,F,F] HT_.1 rfl rfl (fun _ _ _ h=>h) rfl (h:=?_)
               refine pure_ (i:=22) (N:=some 83) (v:=undef) (a':=?_) #[T,T,T,T,T,T,T,T,T,T,T,T,T,T,T,T,T,T,T,T,T,T,T,F,F,F] rfl rfl (any_of HT_.1 (by kernel_rfl)) (fun _ _ _ h=>h) (Or.inr ⟨by rfl,rfl⟩) ?_ ?_
               rotate_left;·simp only [Act.put,L_,M_,N_,i64_w,i32_w];rfl
               refine pure_ (i:=23) (N:=some 84) (v:=undef) (a':=?_) #[T,T,T,T,T,T,T,T,T,T,T,T,T,T,T,T,T,T,T,T,T,T,T,T,F,F] rfl rfl (any_of HT_.1 (by kernel_rfl)) (fun _ _ _ h=>h) (Or.inr ⟨by rfl,rfl⟩) ?_ ?_
               rotate_left;·simp only [Act.put,L_,M_,N_,i64_w,i32_w];rfl
               refine pu_ (i:=24) (N:=85) #[T,T,T,T,T,T,T,T,T,T,T,T,T,T,T,T,T,T,T,T,T,T,T,T,T,F] HT_.1 rfl rfl (fun _ _ _ h=>h) rfl (h:=?_)
               refine pu_ (i:=25) (N:=86) #[T,T,T,T,T,T,T,T,T,T,T,T,T,T,T,T,T,T,T,T,T,T,T,T,T,T] HT_.1 rfl rfl (fun _ _ _ h=>h) rfl (h:=?_)
               refine done_ (done_of HT_.1 (by kernel_rfl)) ?_
               try go_wp2
               go_roundg k3
               case measure=>have:=HK1.1;have:=HK2.1;have:=HK3.1;omega
               case rel=>exact ⟨(x8_3),(x9_3),(wrap64 (x13_3 + 1)),(Ah),(Ai),(Ab),(Ak),(by first|rfl|(simp;done)|(simp [*];done)),H',⟨by have:=HK1.1;have:=HK2.1;have:=HK3.1;omega⟩,⟨rl_ HO_8⟩,⟨rl_ HO_9⟩,⟨rl_ Aa⟩,⟨bl_ Ac⟩,⟨bl_ Ad⟩,⟨is_⟩,⟨by repeat (first|(with_reducible first|exact HK.1|apply KeepBut.set_|apply keep_drewN|apply keep_drew|apply keep_alloc|refine keep_far ?_ Af.1 _|refine keep_far ?_ Aj.1 _)|exact HK.1)⟩,⟨by repeat (first|(with_reducible first|exact HB.1|apply below_alloc|apply pw_below_drewN|apply below_drew1|refine below_set ?_ (Aaa.ge HI0.1)|refine below_set ?_ (Aside0.out (by assumption)))|exact HB.1)⟩⟩
             ·rw [if_neg c74] at H;have c74b0 : (Ag == 0) = false:=beq_eq_false_iff_ne.mpr c74;have c74b1 : (Ag != 0) = true:=bne_iff_ne.mpr c74;have H':=A_ H;clear H;try go_wp2
              replace HO_8:=A_ (Kd.R_drew HO_8.1);replace HO_9:=A_ (Kd.R_drew HO_9.1);replace Aa:=A_ (Kd.R_drew Aa.1);replace Ac:=A_ (blk_drew Ac.1);replace Ad:=A_ (blk_drew Ad.1);replace HI0:=A_ (Aaa.drew HI0.1);replace HK:=A_ (keep_drew HK.1);replace HB:=A_ (below_drew1 HB.1);refine start_ (n:=26) (S:=fun w'=>True) (ds:=[]) #[F,F,F,F,F,F,F,F,F,F,F,F,F,F,F,F,F,F,F,F,F,F,F,F,F,F] (by kernel_rfl) rfl rfl trivial (fun hHeld=>?_);refine with_tabW Aab.tab19 Aab.bits19 (fun HT_ HW_=>?_)
              generalize wr.drew = w91 at HO_8 HO_9 Aa Ac Ad HI0 HK HB hHeld ⊢
              refine pu_ (i:=0) (N:=61) #[T,F,F,F,F,F,F,F,F,F,F,F,F,F,F,F,F,F,F,F,F,F,F,F,F,F] HT_.1 rfl rfl (fun _ _ _ h=>h) rfl (h:=?_)
              refine pu_ (i:=1) (N:=62) #[T,T,F,F,F,F,F,F,F,F,F,F,F,F,F,F,F,F,F,F,F,F,F,F,F,F] HT_.1 rfl rfl (fun _ _ _ h=>h) rfl (h:=?_)
              refine pu_ (i:=2) (N:=63) #[T,T,T,F,F,F,F,F,F,F,F,F,F,F,F,F,F,F,F,F,F,F,F,F,F,F] HT_.1 rfl rfl (fun _ _ _ h=>h) rfl (h:=?_)
              refine pure_ (i:=3) (N:=some 64) (v:=undef) (a':=?_) #[T,T,T,T,F,F,F,F,F,F,F,F,F,F,F,F,F,F,F,F,F,F,F,F,F,F] rfl rfl (any_of HT_.1 (by kernel_rfl)) (fun _ _ _ h=>h) (Or.inr ⟨by rfl,rfl⟩) ?_ ?_
              rotate_left;·simp only [Act.put,L_,M_,N_,i64_w,i32_w];rfl
              refine pure_ (i:=4) (N:=some 65) (v:=undef) (a':=?_) #[T,T,T,T,T,F,F,F,F,F,F,F,F,F,F,F,F,F,F,F,F,F,F,F,F,F] rfl rfl (any_of HT_.1 (by kernel_rfl)) (fun _ _ _ h=>h) (Or.inr ⟨by rfl,rfl⟩) ?_ ?_
              rotate_left;·simp only [Act.put,L_,M_,N_,i64_w,i32_w];rfl
              refine pure_ (i:=5) (N:=some 66) (v:=undef) (a':=?_) #[T,T,T,T,T,T,F,F,F,F,F,F,F,F,F,F,F,F,F,F,F,F,F,F,F,F] rfl rfl (any_of HT_.1 (by kernel_rfl)) (fun _ _ _ h=>h) (Or.inr ⟨by rfl,rfl⟩) ?_ ?_
              rotate_left;·simp only [Act.put,L_,M_,N_,i64_w,i32_w];rfl
              refine pure_ (i:=6) (N:=some 67) (v:=undef) (a':=?_) #[T,T,T,T,T,T,T,F,F,F,F,F,F,F,F,F,F,F,F,F,F,F,F,F,F,F] rfl rfl (any_of HT_.1 (by kernel_rfl)) (fun _ _ _ h=>h) (Or.inr ⟨by rfl,rfl⟩) ?_ ?_
              rotate_left;·simp only [Act.put,L_,M_,N_,i64_w,i32_w];rfl
              refine pure_ (i:=7) (N:=some 68) (v:=undef) (a':=?_) #[T,T,T,T,T,T,T,T,F,F,F,F,F,F,F,F,F,F,F,F,F,F,F,F,F,F] rfl rfl (any_of HT_.1 (by kernel_rfl)) (fun _ _ _ h=>h) (Or.inr ⟨by rfl,rfl⟩) ?_ ?_
              rotate_left;·simp only [Act.put,L_,M_,N_,i64_w,i32_w];rfl
              refine pure_ (i:=8) (N:=some 69) (v:=undef) (a':=?_) #[T,T,T,T,T,T,T,T,T,F,F,F,F,F,F,F,F,F,F,F,F,F,F,F,F,F] rfl rfl (any_of HT_.1 (by kernel_rfl)) (fun _ _ _ h=>h) (Or.inr ⟨by rfl,rfl⟩) ?_ ?_
              rotate_left;·simp only [Act.put,L_,M_,N_,i64_w,i32_w];rfl
              refine pure_ (i:=9) (N:=some 70) (v:=undef) (a':=?_) #[T,T,T,T,T,T,T,T,T,T,F,F,F,F,F,F,F,F,F,F,F,F,F,F,F,F] rfl rfl (any_of HT_.1 (by kernel_rfl)) (fun _ _ _ h=>h) (Or.inr ⟨by rfl,rfl⟩) ?_ ?_
              rotate_left;·simp only [Act.put,L_,M_,N_,i64_w,i32_w];rfl
              refine pure_ (i:=10) (N:=some 71) (v:=undef) (a':=?_) #[T,T,T,T,T,T,T,T,T,T,T,F,F,F,F,F,F,F,F,F,F,F,F,F,F,F] rfl rfl (any_of HT_.1 (by kernel_rfl)) (fun _ _ _ h=>h) (Or.inr ⟨by rfl,rfl⟩) ?_ ?_
              rotate_left;·simp only [Act.put,L_,M_,N_,i64_w,i32_w];rfl
              refine pure_ (i:=11) (N:=some 72) (v:=undef) (a':=?_) #[T,T,T,T,T,T,T,T,T,T,T,T,F,F,F,F,F,F,F,F,F,F,F,F,F,F] rfl rfl (any_of HT_.1 (by kernel_rfl)) (fun _ _ _ h=>h) (Or.inr ⟨by rfl,rfl⟩) ?_ ?_
              rotate_left;·simp only [Act.put,L_,M_,N_,i64_w,i32_w];rfl
              refine pu_ (i:=12) (N:=73) #[T,T,T,T,T,T,T,T,T,T,T,T,T,F,F,F,F,F,F,F,F,F,F,F,F,F] HT_.1 rfl rfl (fun _ _ _ h=>h) rfl (h:=?_)
              refine pu_ (i:=13) (N:=74) #[T,T,T,T,T,T,T,T,T,T,T,T,T,T,F,F,F,F,F,F,F,F,F,F,F,F] HT_.1 rfl rfl (fun _ _ _ h=>h) rfl (h:=?_)
              refine pu_ (i:=14) (N:=75) #[T,T,T,T,T,T,T,T,T,T,T,T,T,T,T,F,F,F,F,F,F,F,F,F,F,F] HT_.1 rfl rfl (fun _ _ _ h=>h) rfl (h:=?_)
              refine pu_ (i:=15) (N:=76) #[T,T,T,T,T,T,T,T,T,T,T,T,T,T,T,T,F,F,F,F,F,F,F,F,F,F] HT_.1 rfl rfl (fun _ _ _ h=>h) rfl (h:=?_)
              refine pu_ (i:=16) (N:=77) #[T,T,T,T,T,T,T,T,T,T,T,T,T,T,T,T,T,F,F,F,F,F,F,F,F,F] HT_.1 rfl rfl (fun _ _ _ h=>h) rfl (h:=?_)
              refine pure_ (i:=17) (N:=some 78) (v:=undef) (a':=?_) #[T,T,T,T,T,T,T,T,T,T,T,T,T,T,T,T,T,T,F,F,F,F,F,F,F,F] rfl rfl (any_of HT_.1 (by kernel_rfl)) (fun _ _ _ h=>h) (Or.inr ⟨by rfl,rfl⟩) ?_ ?_
              rotate_left;·simp only [Act.put,L_,M_,N_,i64_w,i32_w];rfl
              refine pure_ (i:=18) (N:=some 79) (v:=undef) (a':=?_) #[T,T,T,T,T,T,T,T,T,T,T,T,T,T,T,T,T,T,T,F,F,F,F,F,F,F] rfl rfl (any_of HT_.1 (by kernel_rfl)) (fun _ _ _ h=>h) (Or.inr ⟨by rfl,rfl⟩) ?_ ?_
              rotate_left;·simp only [Act.put,L_,M_,N_,i64_w,i32_w];rfl
              refine pure_ (i:=19) (N:=some 80) (v:=undef) (a':=?_) #[T,T,T,T,T,T,T,T,T,T,T,T,T,T,T,T,T,T,T,T,F,F,F,F,F,F] rfl rfl (any_of HT_.1 (by kernel_rfl)) (fun _ _ _ h=>h) (Or.inr ⟨by rfl,rfl⟩) ?_ ?_
              rotate_left;·simp only [Act.put,L_,M_,N_,i64_w,i32_w];rfl
              refine pu_ (i:=20) (N:=81) #[T,T,T,T,T,T,T,T,T,T,T,T,T,T,T,T,T,T,T,T,T,F,F,F,F,F] HT_.1 rfl rfl (fun _ _ _ h=>h) rfl (h:=?_)
              refine pu_ (i:=21) (N:=82) #[T,T,T,T,T,T,T,T,T,T,T,T,T,T,T,T,T,T,T,T,T,T,F,F,F,F] HT_.1 rfl rfl (fun _ _ _ h=>h) rfl (h:=?_)
              refine pure_ (i:=22) (N:=some 83) (v:=undef) (a':=?_) #[T,T,T,T,T,T,T,T,T,T,T,T,T,T,T,T,T,T,T,T,T,T,T,F,F,F] rfl rfl (any_of HT_.1 (by kernel_rfl)) (fun _ _ _ h=>h) (Or.inr ⟨by rfl,rfl⟩) ?_ ?_
              rotate_left;·simp only [Act.put,L_,M_,N_,i64_w,i32_w];rfl
              refine pure_ (i:=23) (N:=some 84) (v:=undef) (a':=?_) #[T,T,T,T,T,T,T,T,T,T,T,T,T,T,T,T,T,T,T,T,T,T,T,T,F,F] rfl rfl (any_of HT_.1 (by kernel_rfl)) (fun _ _ _ h=>h) (Or.inr ⟨by rfl,rfl⟩) ?_ ?_
              rotate_left;·simp only [Act.put,L_,M_,N_,i64_w,i32_w];rfl
              refine pu_ (i:=24) (N:=85) #[T,T,T,T,T,T,T,T,T,T,T,T,T,T,T,T,T,T,T,T,T,T,T,T,T,F] HT_.1 rfl rfl (fun _ _ _ h=>h) rfl (h:=?_)
              refine pu_ (i:=25) (N:=86) #[T,T,T,T,T,T,T,T,T,T,T,T,T,T,T,T,T,T,T,T,T,T,T,T,T,T] HT_.1 rfl rfl (fun _ _ _ h=>h) rfl (h:=?_)
              refine done_ (done_of HT_.1 (by kernel_rfl)) ?_
              try go_wp2
              go_roundg k3
              case measure=>have:=HK1.1;have:=HK2.1;have:=HK3.1;omega
              case rel=>exact ⟨(x8_3),(x9_3),(wrap64 (x13_3 + 1)),(Ah),(Ai),(Ab),(Ak),(by first|rfl|(simp;done)|(simp [*];done)),H',⟨by have:=HK1.1;have:=HK2.1;have:=HK3.1;omega⟩,⟨rl_ HO_8⟩,⟨rl_ HO_9⟩,⟨rl_ Aa⟩,⟨bl_ Ac⟩,⟨bl_ Ad⟩,⟨is_⟩,⟨by repeat (first|(with_reducible first|exact HK.1|apply KeepBut.set_|apply keep_drewN|apply keep_drew|apply keep_alloc|refine keep_far ?_ Af.1 _|refine keep_far ?_ Aj.1 _)|exact HK.1)⟩,⟨by repeat (first|(with_reducible first|exact HB.1|apply below_alloc|apply pw_below_drewN|apply below_drew1|refine below_set ?_ (Aaa.ge HI0.1)|refine below_set ?_ (Aside0.out (by assumption)))|exact HB.1)⟩⟩
           ·rw [if_neg c32] at H;have c32b0 : decide (x13_3 < Ae) = false:=decide_eq_false c32;clear c32;have H':=A_ H;clear H;go_wp2
            go_roundg k3
            case measure=>have:=HK1.1;have:=HK2.1;have:=HK3.1;omega
            case rel=>exact ⟨(x8_3),(x9_3),(wrap64 (x12_2 + 1)),(Ah),(Ai),(Ab),(Ak),(by first|rfl|(simp;done)|(simp [*];done)),H',⟨by have:=HK1.1;have:=HK2.1;have:=HK3.1;omega⟩,⟨rl_ HO_8⟩,⟨rl_ HO_9⟩,⟨rl_ Aa⟩,⟨bl_ Ac⟩,⟨bl_ Ad⟩,⟨is_⟩,⟨by repeat (first|(with_reducible first|exact HK.1|apply KeepBut.set_|apply keep_drewN|apply keep_drew|apply keep_alloc|refine keep_far ?_ Af.1 _|refine keep_far ?_ Aj.1 _)|exact HK.1)⟩,⟨by repeat (first|(with_reducible first|exact HB.1|apply below_alloc|apply pw_below_drewN|apply below_drew1|refine below_set ?_ (Aaa.ge HI0.1)|refine below_set ?_ (Aside0.out (by assumption)))|exact HB.1)⟩⟩
        ·rw [if_neg c31] at H;have c31b0 : decide (x12_2 < Ae) = false:=decide_eq_false c31;clear c31;by_cases c92 : Ag > 0
         ·rw [if_pos c92] at H;have c92b0 : decide (0 < Ag) = true:=decide_eq_true c92;clear c92;simp only [Option.some.injEq,Prod.mk.injEq] at H
          obtain ⟨rfl,rfl,rfl,rfl⟩:=H;have Z:=Bt.1;have Z:=Be.1;have Z:=At.1;have Z:=NB0_152.1;obtain ⟨Z,Z,Z,Z⟩:=o2_ Ad.1;have Z:=As.1;have Z:=NB0_145.1;obtain ⟨Z,Z,Z,Z⟩:=o2_ Ac.1;obtain ⟨Ao98,co98,eo98⟩:=Kd.R_slice Aa.1;subst eo98;go_wp2
          refine bodyPost_ret (results_cell_row rfl _ _ Am 26 #[.int .i64 Ae,.slice Ao98 Au.length co98] (0,0) _ rfl (by (with_reducible repeat (first|refine blk_drewN ?_ _|refine blk_drew ?_|refine blk_alloc ?_ _));refine blk_put (cs:=#[.int .i64 Ae,.slice none 0 0]) ?_ 1 _ rfl;(with_reducible repeat (first|refine blk_drewN ?_ _|refine blk_drew ?_|refine blk_alloc ?_ _));refine blk_put (cs:=#[.int .i64 0,.slice none 0 0]) ?_ 0 _ rfl;(with_reducible repeat (first|refine blk_drewN ?_ _|refine blk_drew ?_|refine blk_alloc ?_ _));exact Ac.1) Tryd.underlying26 rfl (by kernel_rfl)) rfl ?_
          exact ⟨_,by first|rfl|(simp [errW_none,errW_some] <;> rfl)|(simp [*,errW_none,errW_some] <;> rfl),rq_ (Kd.R_mono (Kd.R_far (p:=⟨Am,1,none⟩) (Kd.R_far (p:=⟨Am,0,none⟩) (Kd.R_types Aa.1 Ac.1 (by decide)) (fun _ hk=>hk.2) (.int .i64 Ae)) (fun _ hk=>hk.2) (.slice Ao98 Au.length co98)) (fun _ hk=>trivial)),is_,by repeat (first|(with_reducible first|exact HB.1|apply below_alloc|apply pw_below_drewN|apply below_drew1|refine below_set ?_ (Aaa.ge HI0.1)|refine below_set ?_ (Aside0.out (by assumption)))|exact HB.1),by repeat (first|(with_reducible first|exact HK.1|apply KeepBut.set_|apply keep_drewN|apply keep_drew|apply keep_alloc|refine keep_far ?_ Af.1 _|refine keep_far ?_ Aj.1 _)|exact HK.1)⟩
         ·rw [if_neg c92] at H;have c92b0 : decide (0 < Ag) = false:=decide_eq_false c92;clear c92;replace H:=Option.bind_eq_some_iff.mp H;obtain ⟨⟨Cd,Ch,Ds⟩,Dc,H⟩:=H;replace H : (some (Cd,Ch,Bc,Bd)) = some (r1,r2,r3,r4):=H;have A99:=A_ Dc;clear Dc;simp only [Option.some.injEq,Prod.mk.injEq] at H
          obtain ⟨rfl,rfl,rfl,rfl⟩:=H;have Z:=Bt.1;have Z:=Be.1;have Z:=At.1;have Z:=NB0_152.1;obtain ⟨Z,Z,Z,Z⟩:=o2_ Ad.1;obtain ⟨Dk,Dl,Dm⟩:=Kd.R_slice Aa.1;subst Dm;go_wp2_with (first|((with_reducible refine gate_callee (f:=12) rfl ?_);refine goesL_ (some 101) rfl rfl Tryd.func12 (by kernel_rfl) rfl #[.agg #[.int .i64 Ae,.slice Dk Au.length Dl]] rfl au_ ?_;(with_reducible refine (Aag.calls k2 Ae _ _ Au Cd Ch Ds _ ?side1 ?side2 A99.1).mono ?_);(case side1=>exact cl_ (Kd.R_reads' Aa.1).2.2);(case side2=>exact (Kd.R_reads' Aa.1).2.1);rintro e D2 ⟨D3,rfl,ho0,hb⟩;refine ⟨_,rfl,?_⟩;have Ce:=A_ (Kd.R_lower (Kd.R_new' (Kd.R_new' (Kd.R_new' ho0 (Kd.R_lt (rl_ HO_8))) (Kd.R_lt (rl_ HO_9))) (Kd.R_lt (rl_ Aa))) (keep_size (w:=w) (g:=g) (row:=none) (by repeat (with_reducible first|exact HK.1|apply KeepBut.set_|apply keep_drewN|apply keep_drew|apply keep_alloc|refine keep_far ?_ Af.1 _|refine keep_far ?_ Aj.1 _))));replace HO_8:=A_ (Kd.R_elder' (rl_ HO_8) (Kd.R_base ho0) hb);replace HO_9:=A_ (Kd.R_elder' (rl_ HO_9) (Kd.R_base ho0) hb);replace Aa:=A_ (Kd.R_elder' (rl_ Aa) (Kd.R_base ho0) hb);replace Ac:=bz Ac hb;replace Ad:=bz Ad hb;replace HK:=A_ (KeepBut.trans (by repeat (with_reducible first|exact HK.1|apply KeepBut.set_|apply keep_drewN|apply keep_drew|apply keep_alloc|refine keep_far ?_ Af.1 _|refine keep_far ?_ Aj.1 _)) (KeepBut.of_below hb g none) (.inl rfl));replace HB:=A_ (below_step (by repeat (with_reducible first|exact HB.1|apply below_alloc|apply pw_below_drewN|apply below_drew1|refine below_set ?_ (Aaa.ge HI0.1)|refine below_set ?_ (Aside0.out (by assumption)))) hb);replace HI0:=A_ (Aaa.below (is_) hb);(try clear hb);(try clear hb2);(try clear hk);(try clear hi);(try clear ho0))|((with_reducible refine gate_dst (N:=14) rfl ?_);refine box_event ?hg (N:=14) ?hd (cs:=#[.int .i64 0,.slice none 0 0]) (t:=26) ?hr ?_;(case hd=>rfl);(case hg=>rfl);(case hr=>go_simp;try rfl);intro Bs hg D4 hbox hb;replace HO_8:=rb_ HO_8 hb;replace HO_9:=rb_ HO_9 hb;replace Aa:=rb_ Aa hb;replace Ce:=rb_ Ce hb;replace HB:=A_ (below_step (by repeat (with_reducible first|exact HB.1|apply below_alloc|apply pw_below_drewN|apply below_drew1|refine below_set ?_ (Aaa.ge HI0.1)|refine below_set ?_ (Aside0.out (by assumption)))) hb);have Cz:=A_ (hbox);have Dn:=A_ ((by rw [hg];exact (keep_size (w:=w) (g:=g) (row:=none) (by repeat (with_reducible first|exact HK.1|apply KeepBut.set_|apply keep_drewN|apply keep_drew|apply keep_alloc|refine keep_far ?_ Af.1 _|refine keep_far ?_ Aj.1 _))) : w.heap.size ≤ Bs));have Dy:=A_ ((Nat.le_trans HW0.1 (by rw [hg];exact (keep_size (w:=w) (g:=g) (row:=none) (by repeat (with_reducible first|exact HK.1|apply KeepBut.set_|apply keep_drewN|apply keep_drew|apply keep_alloc|refine keep_far ?_ Af.1 _|refine keep_far ?_ Aj.1 _))) : w.heap.size ≤ Bs) : w0.heap.size ≤ Bs));replace HK:=A_ (KeepBut.trans (by repeat (with_reducible first|exact HK.1|apply KeepBut.set_|apply keep_drewN|apply keep_drew|apply keep_alloc|refine keep_far ?_ Af.1 _|refine keep_far ?_ Aj.1 _)) (KeepBut.of_below hb g none) (.inl rfl));have Bu:=A_ (nl_ hg Ac);have Cm:=A_ (ng_ hg Ac);replace Ac:=bz Ac hb;have Cn:=A_ (nl_ hg Ad);have Co:=A_ (ng_ hg Ad);replace Ad:=bz Ad hb;have NB0_176:=A_ ((by rw [hg];exact Nat.ne_of_lt (Aaa.lt (show Aaa w0 _ g s0_0 Bc Bd from is_)) : g ≠ Bs));have C0:=A_ ((by rw [hg];exact Nat.ne_of_gt (Aaa.lt (show Aaa w0 _ g s0_0 Bc Bd from is_)) : Bs ≠ g));replace HI0:=A_ (Aaa.below (is_) hb);clear hb hbox hg;have Z:=Cm.1;have Z:=Bu.1;have Z:=Co.1;have Z:=Cn.1;have Z:=C0.1;have Z:=NB0_176.1;obtain ⟨Z,Z,Z,Z⟩:=o2_ Cz.1;obtain ⟨Ck,Cl,Do⟩:=Kd.R_slice Ce.1;subst Do;have Z:=As.1;have Z:=NB0_145.1;obtain ⟨Z,Z,Z,Z⟩:=o2_ Ac.1))
          refine bodyPost_ret (results_cell_row rfl _ _ Am 26 #[.int .i64 Cd,.slice Ck Ch.length Cl] (0,0) _ rfl (by (with_reducible repeat (first|refine blk_drewN ?_ _|refine blk_drew ?_|refine blk_alloc ?_ _));refine blk_put (cs:=#[.int .i64 Cd,.slice none 0 0]) ?_ 1 _ rfl;(with_reducible repeat (first|refine blk_drewN ?_ _|refine blk_drew ?_|refine blk_alloc ?_ _));refine blk_put (cs:=#[.int .i64 0,.slice none 0 0]) ?_ 0 _ rfl;(with_reducible repeat (first|refine blk_drewN ?_ _|refine blk_drew ?_|refine blk_alloc ?_ _));refine blk_far ?_ Bu.1 _;(with_reducible repeat (first|refine blk_drewN ?_ _|refine blk_drew ?_|refine blk_alloc ?_ _));refine blk_far ?_ Bu.1 _;(with_reducible repeat (first|refine blk_drewN ?_ _|refine blk_drew ?_|refine blk_alloc ?_ _));exact Ac.1) Tryd.underlying26 rfl (by kernel_rfl)) rfl ?_
          exact ⟨_,by first|rfl|(simp [errW_none,errW_some] <;> rfl)|(simp [*,errW_none,errW_some] <;> rfl),rq_ (Kd.R_mono (Kd.R_far (p:=⟨Am,1,none⟩) (Kd.R_far (p:=⟨Am,0,none⟩) (Kd.R_far (p:=⟨Bs,1,none⟩) (Kd.R_far (p:=⟨Bs,0,none⟩) (Kd.R_types (Kd.R_types Ce.1 Cz.1 (by decide)) Ac.1 (by decide)) (fun _ hk=>hk.1.2) (.int .i64 Cd)) (fun _ hk=>hk.1.2) (.slice Ck Ch.length Cl)) (fun _ hk=>hk.2) (.int .i64 Cd)) (fun _ hk=>hk.2) (.slice Ck Ch.length Cl)) (fun _ hk=>trivial)),is_,by repeat (first|(with_reducible first|exact HB.1|apply below_alloc|apply pw_below_drewN|apply below_drew1|refine below_set ?_ (Aaa.ge HI0.1)|refine below_set ?_ (Aside0.out (by assumption)))|exact HB.1),by repeat (first|(with_reducible first|exact HK.1|apply KeepBut.set_|apply keep_drewN|apply keep_drew|apply keep_alloc|refine keep_far ?_ Af.1 _|refine keep_far ?_ Aj.1 _|refine keep_far ?_ Dn.1 _)|exact HK.1)⟩
  ·rw [if_neg c5] at H;exact absurd H (by simp)
 ·rw [if_neg c4] at H;exact absurd H (by simp)
end Go.Proofs.YtfjpilcmjabikaaDoor.P

