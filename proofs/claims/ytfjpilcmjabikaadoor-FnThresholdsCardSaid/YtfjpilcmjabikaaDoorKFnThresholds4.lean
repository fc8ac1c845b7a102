/- A part of the proof that the law FnThresholds holds at every input. Written by wip/pack.py: the kit's printed words that are used, the functions' walks as wip/gen.py prints them, and hand proofs. -/
import Derived.Test.YtfjpilcmjabikaaDoorKFnThresholds3
namespace Go.Proofs.YtfjpilcmjabikaaDoor.P
open Go.RowKit Go.Proofs.YtfjpilcmjabikaaDoorW.PrintWords Go.Proofs.YtfjpilcmjabikaaDoorW.PrintLast Go.Proofs.YtfjpilcmjabikaaDoorW.PrintMore
open Bool renaming true → T, false → F
open List renaming setIfInBounds_toArray → L_, set_cons_zero → M_, set_cons_succ → N_, map_toArray → P_, map_cons → Q_, map_nil → R_, length_drop → S_, length_take → U_
open Aside0 renaming mk → A_
attribute [local go_sem] max2_int min2_int max_two min_two max_three min_three max_four min_four
set_option linter.unusedVariables false
set_option linter.unusedSimpArgs false
attribute [local go_sem] fldOrder_0 fldOrder_1
mutual
def Aal.l0 : Nat → Int → Int → Int → List Int → Option (List Int)
 | 0,_,_,_,_=>none
 | k + 1,x8,x9,x892000,x892001=>if x9 < x8 then (Aal.l1 k x9 x8 x9 x892000 0 x892000 x892001) else (some ([] : List Int))
def Aal.l1 : Nat → Int → Int → Int → Int → Int → Int → List Int → Option (List Int)
 | 0,_,_,_,_,_,_,_=>none
 | k + 1,x3,x8,x9,x13,x14,x892000,x892001=>if x14 < x13 then (Aal.l2 k x3 x14 x8 x9 x13 x14 x892000 0 x892000 x892001) else (Aal.l0 k x8 (wrap64 (x9 + 1)) x892000 x892001)
def Aal.l2 : Nat → Int → Int → Int → Int → Int → Int → Int → Int → Int → List Int → Option (List Int)
 | 0,_,_,_,_,_,_,_,_,_,_=>none
 | k + 1,x3,x4,x8,x9,x13,x14,x18,x19,x892000,x892001=>if x19 < x18 then (Aal.l3 k x3 x4 x19 x8 x9 x13 x14 x18 x19 x892000 0 x892000 x892001) else (Aal.l1 k x3 x8 x9 x13 (wrap64 (x14 + 1)) x892000 x892001)
def Aal.l3 : Nat → Int → Int → Int → Int → Int → Int → Int → Int → Int → Int → Int → Int → List Int → Option (List Int)
 | 0,_,_,_,_,_,_,_,_,_,_,_,_,_=>none
 | k + 1,x3,x4,x5,x8,x9,x13,x14,x18,x19,x23,x24,x892000,x892001=>if x24 < x23 then ((Aaj.f x892000 x892001 x3 x4).bind fun t892=>(if t892 = true then ((Aaj.f x892000 x892001 x5 x24).bind fun t893=>(if t893 = true then ((Aaj.f x892000 x892001 x5 x4).bind fun t894=>(if t894 = true then (Aal.l3 k x3 x4 x5 x8 x9 x13 x14 x18 x19 x23 (wrap64 (x24 + 1)) x892000 x892001) else ((Aaj.f x892000 x892001 x3 x24).bind fun t895=>(if t895 = true then (Aal.l3 k x3 x4 x5 x8 x9 x13 x14 x18 x19 x23 (wrap64 (x24 + 1)) x892000 x892001) else (some (([x3,x4,x5,x24] : List Int))))))) else (Aal.l3 k x3 x4 x5 x8 x9 x13 x14 x18 x19 x23 (wrap64 (x24 + 1)) x892000 x892001))) else (Aal.l3 k x3 x4 x5 x8 x9 x13 x14 x18 x19 x23 (wrap64 (x24 + 1)) x892000 x892001))) else (Aal.l2 k x3 x4 x8 x9 x13 x14 x18 (wrap64 (x19 + 1)) x892000 x892001)
end
def Aal.f (k : Nat) (a0_0 : Int) (l0_1 : List Int) : Option (List Int) := Aal.l0 k a0_0 0 a0_0 l0_1
set_option maxHeartbeats 8000000 in
set_option maxRecDepth 100000 in
theorem Aal.calls (k : Nat) (a0_0 : Int) (A0_1 : Option Addr) (c0_1 : Nat) (l0_1 : List Int) (r : List Int) (w : World) (hr0_1 : Kd.C (Kd.int .i64) w A0_1 l0_1.length l0_1) (hc0_1 : l0_1.length ≤ c0_1) (h : Aal.f k a0_0 l0_1 = some r) :
 Calls Tryd.prog 105 #[.agg #[.int .i64 a0_0,.slice A0_1 l0_1.length c0_1]] w fun e w'=>∃ v0_ : Value,e = .returned (v0_) ∧ Kd.R (Kd.int .i64) 3 w' w.heap.size (fun _=>True) v0_ r ∧ Below w.heap.size w w' ∧ (r = [] → v0_ = .slice none 0 0):=by
 have hu26:=Tryd.underlying26;have HR0_1:=A_ hr0_1;have HC0_1:=A_ hc0_1;clear hr0_1 hc0_1;have HB:=A_ (Below.refl w.heap.size w);have H : (Aal.l0 k a0_0 0 a0_0 l0_1) = some r:=h;clear h;have H':=A_ H;clear H;go_enter Tryd.func105,Tryd.ntmps105
 go_wp2_with (first|((with_reducible refine gate_dst (N:=1) rfl ?_);refine box_event ?hg (N:=1) ?hd (cs:=#[.int .i64 a0_0,.slice A0_1 l0_1.length c0_1]) (t:=26) ?hr ?_;(case hd=>rfl);(case hg=>rfl);(case hr=>go_simp;try rfl);intro Ac hg w2 hbox hb;have Aa:=A_ (hbox);have Ao:=A_ (gw_ (w:=w) hg bb_);have Ap:=A_ (gw_ (w:=w) hg bb_);replace HB:=A_ (below_step bb_ hb);clear hb hbox hg;obtain ⟨Z,Z,Z,Z⟩:=o2_ Aa.1))
 go_loopg [9] k (fun kq v9 w'=>∃ (x9_1 : Int),v9 = .int .i64 x9_1 ∧ Aside0 (Aal.l0 kq a0_0 x9_1 a0_0 l0_1 = some r) ∧ Aside0 (kq ≤ k) ∧ Aside0 (w'.heap[Ac]? = some (.cells #[.int .i64 a0_0,(.slice A0_1 l0_1.length c0_1)] 26 (0,0))) ∧ Aside0 (Below w.heap.size w w'))
 case atStart=>exact ⟨(0),(by first|rfl|(simp;done)|(simp [*];done)),H',⟨Nat.le_refl _⟩,⟨bl_ Aa⟩,⟨bb_⟩⟩
 case round =>
  clear H';try clear c1
  try clear p2
  repeat clear Z
  obtain ⟨x9_1,rfl,HA,HK1,Aa,HB⟩:=hrel;cases gk with
  | zero => exact absurd HA.1 (by simp [Aal.l0])
  | succ k1 =>
   have H:=HA.1;clear HA;simp only [Aal.l0] at H
   by_cases c4 : x9_1 < a0_0
   ·rw [if_pos c4] at H;have c4b0 : decide (x9_1 < a0_0) = true:=decide_eq_true c4;clear c4;have H':=A_ H;clear H;obtain ⟨Z,Z,Z,Z⟩:=o2_ Aa.1;go_wp2
    go_loopg [14] k1 (fun kq v14 w'=>∃ (x14_2 : Int),v14 = .int .i64 x14_2 ∧ Aside0 (Aal.l1 kq x9_1 a0_0 x9_1 a0_0 x14_2 a0_0 l0_1 = some r) ∧ Aside0 (kq ≤ k1) ∧ Aside0 (w'.heap[Ac]? = some (.cells #[.int .i64 a0_0,(.slice A0_1 l0_1.length c0_1)] 26 (0,0))) ∧ Aside0 (Below w.heap.size w w'))
    case atStart=>exact ⟨(0),(by first|rfl|(simp;done)|(simp [*];done)),H',⟨Nat.le_refl _⟩,⟨bl_ Aa⟩,⟨bb_⟩⟩
    case round =>
     clear H';try clear c1
     try clear p2
     try clear c4
     try clear c4b0
     repeat clear Z
     try clear p2
     obtain ⟨x14_2,rfl,HA,HK2,Aa,HB⟩:=hrel;cases gk with
     | zero=>exact absurd HA.1 (by simp [Aal.l1])
     | succ k2 =>
      have H:=HA.1;clear HA;simp only [Aal.l1] at H
      by_cases c6 : x14_2 < a0_0
      ·rw [if_pos c6] at H;have c6b0 : decide (x14_2 < a0_0) = true:=decide_eq_true c6;clear c6;have H':=A_ H;clear H;obtain ⟨Z,Z,Z,Z⟩:=o2_ Aa.1;go_wp2
       go_loopg [19] k2 (fun kq v19 w'=>∃ (x19_3 : Int),v19 = .int .i64 x19_3 ∧ Aside0 (Aal.l2 kq x9_1 x14_2 a0_0 x9_1 a0_0 x14_2 a0_0 x19_3 a0_0 l0_1 = some r) ∧ Aside0 (kq ≤ k2) ∧ Aside0 (w'.heap[Ac]? = some (.cells #[.int .i64 a0_0,(.slice A0_1 l0_1.length c0_1)] 26 (0,0))) ∧ Aside0 (Below w.heap.size w w'))
       case atStart=>exact ⟨(0),(by first|rfl|(simp;done)|(simp [*];done)),H',⟨Nat.le_refl _⟩,⟨bl_ Aa⟩,⟨bb_⟩⟩
       case round =>
        clear H';try clear c1
        try clear p2
        try clear c4
        try clear c4b0
        try clear c6
        try clear c6b0
        repeat clear Z
        try clear p2
        obtain ⟨x19_3,rfl,HA,HK3,Aa,HB⟩:=hrel;cases gk with
        | zero=>exact absurd HA.1 (by simp [Aal.l2])
        | succ k3 =>
         have H:=HA.1;clear HA;simp only [Aal.l2] at H
         by_cases c8 : x19_3 < a0_0
         ·rw [if_pos c8] at H;have c8b0 : decide (x19_3 < a0_0) = true:=decide_eq_true c8;clear c8;have H':=A_ H;clear H;obtain ⟨Z,Z,Z,Z⟩:=o2_ Aa.1;go_wp2
          go_loopg [24] k3 (fun kq v24 w'=>∃ (x24_4 : Int),v24 = .int .i64 x24_4 ∧ Aside0 (Aal.l3 kq x9_1 x14_2 x19_3 a0_0 x9_1 a0_0 x14_2 a0_0 x19_3 a0_0 x24_4 a0_0 l0_1 = some r) ∧ Aside0 (kq ≤ k3) ∧ Aside0 (w'.heap[Ac]? = some (.cells #[.int .i64 a0_0,(.slice A0_1 l0_1.length c0_1)] 26 (0,0))) ∧ Aside0 (Below w.heap.size w w'))
          case atStart=>exact ⟨(0),(by first|rfl|(simp;done)|(simp [*];done)),H',⟨Nat.le_refl _⟩,⟨bl_ Aa⟩,⟨bb_⟩⟩
          case round =>
           clear H';try clear c1
           try clear p2
           try clear c4
           try clear c4b0
           try clear c6
           try clear c6b0
           try clear c8
           try clear c8b0
           repeat clear Z
           try clear p2
           obtain ⟨x24_4,rfl,HA,HK4,Aa,HB⟩:=hrel;cases gk with
           | zero=>exact absurd HA.1 (by simp [Aal.l3])
           | succ k4 =>
            have H:=HA.1;clear HA;simp only [Aal.l3] at H
            by_cases c10 : x24_4 < a0_0
            ·rw [if_pos c10] at H;have c10b0 : decide (x24_4 < a0_0) = true:=decide_eq_true c10;clear c10;replace H:=Option.bind_eq_some_iff.mp H;obtain ⟨Aj,Ae,H⟩:=H;(try dsimp only at H);have A11:=A_ Ae;clear Ae;by_cases c12 : Aj = true
             ·subst c12;rw [if_pos rfl] at H;replace H:=Option.bind_eq_some_iff.mp H;obtain ⟨Ak,Af,H⟩:=H;(try dsimp only at H);have A13:=A_ Af;clear Af;by_cases c14 : Ak = true
              ·subst c14;rw [if_pos rfl] at H;replace H:=Option.bind_eq_some_iff.mp H;obtain ⟨Al,Ag,H⟩:=H;(try dsimp only at H);have A15:=A_ Ag;clear Ag;by_cases c16 : Al = true
               ·subst c16;rw [if_pos rfl] at H;have H':=A_ H;clear H;obtain ⟨Z,Z,Z,Z⟩:=o2_ Aa.1;go_wp2_with (first|((with_reducible refine gate_callee (f:=69) rfl ?_);refine goesL_ (some 30) rfl rfl Tryd.func69 (by kernel_rfl) rfl #[.agg #[.int .i64 a0_0,.slice A0_1 l0_1.length c0_1],.int .i64 x9_1,.int .i64 x14_2] rfl au_ ?_;(with_reducible refine (Aaj.calls a0_0 _ _ l0_1 x9_1 x14_2 true _ ?side1 ?side2 A11.1).mono ?_);(case side1=>exact cl_ (Kd.C_below HR0_1.1 HB.1));(case side2=>exact HC0_1.1);rintro e w18 ⟨rfl,hb⟩;refine ⟨_,rfl,?_⟩;replace Aa:=bz Aa hb;replace HB:=A_ (below_step bb_ hb);(try clear hb);(try clear hb2);(try clear hk);(try clear hi);obtain ⟨Z,Z,Z,Z⟩:=o2_ Aa.1)|(go_at_call 69;(with_reducible refine (Aaj.calls a0_0 _ _ l0_1 x19_3 x24_4 true _ ?side1 ?side2 A13.1).mono ?_);(case side1=>exact cl_ (Kd.C_below HR0_1.1 HB.1));(case side2=>exact HC0_1.1);rintro e w20 ⟨rfl,hb⟩;replace Aa:=bz Aa hb;replace HB:=A_ (below_step bb_ hb);(try clear hb);(try clear hb2);(try clear hk);(try clear hi);obtain ⟨Z,Z,Z,Z⟩:=o2_ Aa.1)|(go_at_call 69;(with_reducible refine (Aaj.calls a0_0 _ _ l0_1 x19_3 x14_2 true _ ?side1 ?side2 A15.1).mono ?_);(case side1=>exact cl_ (Kd.C_below HR0_1.1 HB.1));(case side2=>exact HC0_1.1);rintro e w22 ⟨rfl,hb⟩;replace Aa:=bz Aa hb;replace HB:=A_ (below_step bb_ hb);(try clear hb);(try clear hb2);(try clear hk);(try clear hi)))
                go_roundg k4
                case measure=>have:=HK1.1;have:=HK2.1;have:=HK3.1;have:=HK4.1;omega
                case rel=>exact ⟨(wrap64 (x24_4 + 1)),(by first|rfl|(simp;done)|(simp [*];done)),H',⟨by have:=HK1.1;have:=HK2.1;have:=HK3.1;have:=HK4.1;omega⟩,⟨bl_ Aa⟩,⟨bb_⟩⟩
               ·replace c16:=Bool.eq_false_iff.mpr c16;subst c16;rw [if_neg nf_] at H;replace H:=Option.bind_eq_some_iff.mp H;obtain ⟨Am,Ah,H⟩:=H;(try dsimp only at H);have A23:=A_ Ah;clear Ah;by_cases c24 : Am = true
                ·subst c24;rw [if_pos rfl] at H;have H':=A_ H;clear H;obtain ⟨Z,Z,Z,Z⟩:=o2_ Aa.1;go_wp2_with (first|((with_reducible refine gate_callee (f:=69) rfl ?_);refine goesL_ (some 30) rfl rfl Tryd.func69 (by kernel_rfl) rfl #[.agg #[.int .i64 a0_0,.slice A0_1 l0_1.length c0_1],.int .i64 x9_1,.int .i64 x14_2] rfl au_ ?_;(with_reducible refine (Aaj.calls a0_0 _ _ l0_1 x9_1 x14_2 true _ ?side1 ?side2 A11.1).mono ?_);(case side1=>exact cl_ (Kd.C_below HR0_1.1 HB.1));(case side2=>exact HC0_1.1);rintro e w26 ⟨rfl,hb⟩;refine ⟨_,rfl,?_⟩;replace Aa:=bz Aa hb;replace HB:=A_ (below_step bb_ hb);(try clear hb);(try clear hb2);(try clear hk);(try clear hi);obtain ⟨Z,Z,Z,Z⟩:=o2_ Aa.1)|(go_at_call 69;(with_reducible refine (Aaj.calls a0_0 _ _ l0_1 x19_3 x24_4 true _ ?side1 ?side2 A13.1).mono ?_);(case side1=>exact cl_ (Kd.C_below HR0_1.1 HB.1));(case side2=>exact HC0_1.1);rintro e w28 ⟨rfl,hb⟩;replace Aa:=bz Aa hb;replace HB:=A_ (below_step bb_ hb);(try clear hb);(try clear hb2);(try clear hk);(try clear hi);obtain ⟨Z,Z,Z,Z⟩:=o2_ Aa.1)|(go_at_call 69;(with_reducible refine (Aaj.calls a0_0 _ _ l0_1 x19_3 x14_2 false _ ?side1 ?side2 A15.1).mono ?_);(case side1=>exact cl_ (Kd.C_below HR0_1.1 HB.1));(case side2=>exact HC0_1.1);rintro e w30 ⟨rfl,hb⟩;replace Aa:=bz Aa hb;replace HB:=A_ (below_step bb_ hb);(try clear hb);(try clear hb2);(try clear hk);(try clear hi);obtain ⟨Z,Z,Z,Z⟩:=o2_ Aa.1)|(go_at_call 69;(with_reducible refine (Aaj.calls a0_0 _ _ l0_1 x9_1 x24_4 true _ ?side1 ?side2 A23.1).mono ?_);(case side1=>exact cl_ (Kd.C_below HR0_1.1 HB.1));(case side2=>exact HC0_1.1);rintro e w32 ⟨rfl,hb⟩;replace Aa:=bz Aa hb;replace HB:=A_ (below_step bb_ hb);(try clear hb);(try clear hb2);(try clear hk);(try clear hi)))
                 go_roundg k4
                 case measure=>have:=HK1.1;have:=HK2.1;have:=HK3.1;have:=HK4.1;omega
                 case rel=>exact ⟨(wrap64 (x24_4 + 1)),(by first|rfl|(simp;done)|(simp [*];done)),H',⟨by have:=HK1.1;have:=HK2.1;have:=HK3.1;have:=HK4.1;omega⟩,⟨bl_ Aa⟩,⟨bb_⟩⟩
                ·replace c24:=Bool.eq_false_iff.mpr c24;subst c24;rw [if_neg nf_] at H;obtain ⟨An,Ab⟩ : ∃ y_ : List Int,y_ = (([x9_1,x14_2,x19_3,x24_4] : List Int)):=⟨_,rfl⟩;replace H : (some An) = some r:=by first|(rw [Ab];with_reducible exact H)|(have H2_:=(Option.bind_some _ _).symm.trans H;rw [Ab];with_reducible exact H2_)|(have H2_:=(Option.bind_some _ _).symm.trans H;with_reducible exact H2_)|with_reducible exact H|(rw [Ab];exact H)|exact H
                 have Ad:=A_ Ab;clear Ab;obtain rfl:=Option.some.inj H;obtain ⟨Z,Z,Z,Z⟩:=o2_ Aa.1;go_wp2_with (first|((with_reducible refine gate_callee (f:=69) rfl ?_);refine goesL_ (some 30) rfl rfl Tryd.func69 (by kernel_rfl) rfl #[.agg #[.int .i64 a0_0,.slice A0_1 l0_1.length c0_1],.int .i64 x9_1,.int .i64 x14_2] rfl au_ ?_;(with_reducible refine (Aaj.calls a0_0 _ _ l0_1 x9_1 x14_2 true _ ?side1 ?side2 A11.1).mono ?_);(case side1=>exact cl_ (Kd.C_below HR0_1.1 HB.1));(case side2=>exact HC0_1.1);rintro e w34 ⟨rfl,hb⟩;refine ⟨_,rfl,?_⟩;replace Aa:=bz Aa hb;replace HB:=A_ (below_step bb_ hb);(try clear hb);(try clear hb2);(try clear hk);(try clear hi);obtain ⟨Z,Z,Z,Z⟩:=o2_ Aa.1)|(go_at_call 69;(with_reducible refine (Aaj.calls a0_0 _ _ l0_1 x19_3 x24_4 true _ ?side1 ?side2 A13.1).mono ?_);(case side1=>exact cl_ (Kd.C_below HR0_1.1 HB.1));(case side2=>exact HC0_1.1);rintro e w36 ⟨rfl,hb⟩;replace Aa:=bz Aa hb;replace HB:=A_ (below_step bb_ hb);(try clear hb);(try clear hb2);(try clear hk);(try clear hi);obtain ⟨Z,Z,Z,Z⟩:=o2_ Aa.1)|(go_at_call 69;(with_reducible refine (Aaj.calls a0_0 _ _ l0_1 x19_3 x14_2 false _ ?side1 ?side2 A15.1).mono ?_);(case side1=>exact cl_ (Kd.C_below HR0_1.1 HB.1));(case side2=>exact HC0_1.1);rintro e w38 ⟨rfl,hb⟩;replace Aa:=bz Aa hb;replace HB:=A_ (below_step bb_ hb);(try clear hb);(try clear hb2);(try clear hk);(try clear hi);obtain ⟨Z,Z,Z,Z⟩:=o2_ Aa.1)|(go_at_call 69;(with_reducible refine (Aaj.calls a0_0 _ _ l0_1 x9_1 x24_4 false _ ?side1 ?side2 A23.1).mono ?_);(case side1=>exact cl_ (Kd.C_below HR0_1.1 HB.1));(case side2=>exact HC0_1.1);rintro e w40 ⟨rfl,hb⟩;replace Aa:=bz Aa hb;replace HB:=A_ (below_step bb_ hb);(try clear hb);(try clear hb2);(try clear hk);(try clear hi))|((with_reducible refine gate_dst (N:=55) rfl ?_);refine Kd.R_lit (Kd.int .i64) _ 3 ?hg (N:=55) ?hd (xs:=([x9_1,x14_2,x19_3,x24_4] : List Int)) (inner:=[.int .i64 x9_1,.int .i64 x14_2,.int .i64 x19_3,.int .i64 x24_4]) (ok:=fun _=>True) (okp:=fun _=>True) ?hr ?hp (fun _ hk=>hk) trivial (Below.refl _ _) (Nat.le_refl _) (by simp) ?_;(case hd=>rfl);(case hg=>rfl);(case hr=>go_simp;try rfl);(case hp=>exact (Reps.one (show Kd.M (Kd.int .i64) _ _ _ x9_1 [.int .i64 x9_1] from rfl) (Reps.one (show Kd.M (Kd.int .i64) _ _ _ x14_2 [.int .i64 x14_2] from rfl) (Reps.one (show Kd.M (Kd.int .i64) _ _ _ x19_3 [.int .i64 x19_3] from rfl) (Reps.one (show Kd.M (Kd.int .i64) _ _ _ x24_4 [.int .i64 x24_4] from rfl) (Reps.none _ _))))));intro Aq w41 ho42 hb hg_ hnew_;clear hg_ hnew_;(first|rw [← Ad.1] at ho42|(simp only [Int.reduceToNat] at ho42;rw [← Ad.1] at ho42));have Ai:=A_ (Kd.R_lower ho42 (below_size bb_));replace Aa:=bz Aa hb;replace HB:=A_ (below_step bb_ hb);clear hb ho42))
                 go_ret
                 exact ⟨_,by first|rfl|(simp [errW_none,errW_some] <;> rfl)|(simp [*,errW_none,errW_some] <;> rfl),rl_ Ai,bb_,by first|trivial|rfl|(intro he_;first|rfl|(rw [Ad.1] at he_;cases he_)|(cases he_))⟩
              ·replace c14:=Bool.eq_false_iff.mpr c14;subst c14;rw [if_neg nf_] at H;have H':=A_ H;clear H;obtain ⟨Z,Z,Z,Z⟩:=o2_ Aa.1;go_wp2_with (first|((with_reducible refine gate_callee (f:=69) rfl ?_);refine goesL_ (some 30) rfl rfl Tryd.func69 (by kernel_rfl) rfl #[.agg #[.int .i64 a0_0,.slice A0_1 l0_1.length c0_1],.int .i64 x9_1,.int .i64 x14_2] rfl au_ ?_;(with_reducible refine (Aaj.calls a0_0 _ _ l0_1 x9_1 x14_2 true _ ?side1 ?side2 A11.1).mono ?_);(case side1=>exact cl_ (Kd.C_below HR0_1.1 HB.1));(case side2=>exact HC0_1.1);rintro e w44 ⟨rfl,hb⟩;refine ⟨_,rfl,?_⟩;replace Aa:=bz Aa hb;replace HB:=A_ (below_step bb_ hb);(try clear hb);(try clear hb2);(try clear hk);(try clear hi);obtain ⟨Z,Z,Z,Z⟩:=o2_ Aa.1)|(go_at_call 69;(with_reducible refine (Aaj.calls a0_0 _ _ l0_1 x19_3 x24_4 false _ ?side1 ?side2 A13.1).mono ?_);(case side1=>exact cl_ (Kd.C_below HR0_1.1 HB.1));(case side2=>exact HC0_1.1);rintro e w46 ⟨rfl,hb⟩;replace Aa:=bz Aa hb;replace HB:=A_ (below_step bb_ hb);(try clear hb);(try clear hb2);(try clear hk);(try clear hi)))
               go_roundg k4
               case measure=>have:=HK1.1;have:=HK2.1;have:=HK3.1;have:=HK4.1;omega
               case rel=>exact ⟨(wrap64 (x24_4 + 1)),(by first|rfl|(simp;done)|(simp [*];done)),H',⟨by have:=HK1.1;have:=HK2.1;have:=HK3.1;have:=HK4.1;omega⟩,⟨bl_ Aa⟩,⟨bb_⟩⟩
             ·replace c12:=Bool.eq_false_iff.mpr c12;subst c12;rw [if_neg nf_] at H;have H':=A_ H;clear H;obtain ⟨Z,Z,Z,Z⟩:=o2_ Aa.1;go_wp2_with (first|((with_reducible refine gate_callee (f:=69) rfl ?_);refine goesL_ (some 30) rfl rfl Tryd.func69 (by kernel_rfl) rfl #[.agg #[.int .i64 a0_0,.slice A0_1 l0_1.length c0_1],.int .i64 x9_1,.int .i64 x14_2] rfl au_ ?_;(with_reducible refine (Aaj.calls a0_0 _ _ l0_1 x9_1 x14_2 false _ ?side1 ?side2 A11.1).mono ?_);(case side1=>exact cl_ (Kd.C_below HR0_1.1 HB.1));(case side2=>exact HC0_1.1);rintro e w48 ⟨rfl,hb⟩;refine ⟨_,rfl,?_⟩;replace Aa:=bz Aa hb;replace HB:=A_ (below_step bb_ hb);(try clear hb);(try clear hb2);(try clear hk);(try clear hi)))
              go_roundg k4
              case measure=>have:=HK1.1;have:=HK2.1;have:=HK3.1;have:=HK4.1;omega
              case rel=>exact ⟨(wrap64 (x24_4 + 1)),(by first|rfl|(simp;done)|(simp [*];done)),H',⟨by have:=HK1.1;have:=HK2.1;have:=HK3.1;have:=HK4.1;omega⟩,⟨bl_ Aa⟩,⟨bb_⟩⟩
            ·rw [if_neg c10] at H;have c10b0 : decide (x24_4 < a0_0) = false:=decide_eq_false c10;clear c10;have H':=A_ H;clear H;go_wp2
             go_roundg k4
             case measure=>have:=HK1.1;have:=HK2.1;have:=HK3.1;have:=HK4.1;omega
             case rel=>exact ⟨(wrap64 (x19_3 + 1)),(by first|rfl|(simp;done)|(simp [*];done)),H',⟨by have:=HK1.1;have:=HK2.1;have:=HK3.1;have:=HK4.1;omega⟩,⟨bl_ Aa⟩,⟨bb_⟩⟩
         ·rw [if_neg c8] at H;have c8b0 : decide (x19_3 < a0_0) = false:=decide_eq_false c8;clear c8;have H':=A_ H;clear H;go_wp2
          go_roundg k3
          case measure=>have:=HK1.1;have:=HK2.1;have:=HK3.1;omega
          case rel=>exact ⟨(wrap64 (x14_2 + 1)),(by first|rfl|(simp;done)|(simp [*];done)),H',⟨by have:=HK1.1;have:=HK2.1;have:=HK3.1;omega⟩,⟨bl_ Aa⟩,⟨bb_⟩⟩
      ·rw [if_neg c6] at H;have c6b0 : decide (x14_2 < a0_0) = false:=decide_eq_false c6;clear c6;have H':=A_ H;clear H;go_wp2
       go_roundg k2
       case measure=>have:=HK1.1;have:=HK2.1;omega
       case rel=>exact ⟨(wrap64 (x9_1 + 1)),(by first|rfl|(simp;done)|(simp [*];done)),H',⟨by have:=HK1.1;have:=HK2.1;omega⟩,⟨bl_ Aa⟩,⟨bb_⟩⟩
   ·rw [if_neg c4] at H;have c4b0 : decide (x9_1 < a0_0) = false:=decide_eq_false c4;clear c4;obtain rfl:=Option.some.inj H;go_wp2
    go_ret
    exact ⟨_,by first|rfl|(simp [errW_none,errW_some] <;> rfl)|(simp [*,errW_none,errW_some] <;> rfl),by first|exact Kd.R_nil _ _ _ _ _|exact Kd.N_nil _ _ _ _ _|exact Kd.V_nil _ _ _ _ _|exact Kd.Q_nil _ _ _ _ _|exact Kd.S_nil _ _ _ _ _,bb_,by first|trivial|rfl|(intro he_;first|rfl|(rw [Ad.1] at he_;cases he_)|(cases he_))⟩
theorem Aav.nilAt {P : Program} (w : World) (d : Nat) (t e : TypeId) (a : Option Addr) (l c : Nat) (h : P.underlying t = some (.slice e)) : (Op.equalIn (d + 1) t (.slice a l c) (.slice none 0 0)).run P w = .ok a.isNone w:=by
 cases a <;> simp [Op.equalIn,run_underlying h]
theorem Aav.nilOf {P : Program} (w : World) (t e : TypeId) (a : Option Addr) (l c : Nat) (h : P.underlying t = some (.slice e)) : (binOp .eql t (.slice a l c) (.slice none 0 0)).run P w = .ok (.bool a.isNone) w:=by
 have h1 : (Op.equal t (.slice a l c) (.slice none 0 0)).run P w = .ok a.isNone w:=Aav.nilAt w 9999 t e a l c h;simp [binOp,h1]
theorem Aav.nilNo {P : Program} (w : World) (t e : TypeId) (a : Option Addr) (l c : Nat) (h : P.underlying t = some (.slice e)) : (binOp .neq t (.slice a l c) (.slice none 0 0)).run P w = .ok (.bool (!a.isNone)) w:=by
 have h1 : (Op.equal t (.slice a l c) (.slice none 0 0)).run P w = .ok a.isNone w:=Aav.nilAt w 9999 t e a l c h;simp [binOp,h1]
theorem Aav.nilE (w : World) (a : Option Addr) (l c : Nat) : (binOp .eql 24 (.slice a l c) (.slice none 0 0)).run Tryd.prog w = .ok (.bool a.isNone) w:=Aav.nilOf w _ _ a l c Tryd.underlying24
theorem Aav.nilN (w : World) (a : Option Addr) (l c : Nat) : (binOp .neq 24 (.slice a l c) (.slice none 0 0)).run Tryd.prog w = .ok (.bool (!a.isNone)) w:=Aav.nilNo w _ _ a l c Tryd.underlying24
theorem Aav.nilFact {w : World} {base e : Nat} {ok : Nat → Prop} {A : Option Addr} {n c : Nat} {xs : List Int} (h : Kd.R (Kd.int .i64) e w base ok (.slice A n c) xs) (hz : xs = [] → (.slice A n c : Value) = .slice none 0 0) : A.isNone = (xs == ([] : List Int)):=by
 by_cases hx : xs = []
 ·have:=hz hx;injection this with h1;rw [h1,hx];rfl
 ·obtain ⟨hn,_,hC⟩:=Kd.R_reads' h;have hpos : 0 < xs.length:=List.length_pos_iff.2 hx;obtain ⟨ad,e1,_⟩:=hC.2.2 hpos;rw [e1];cases xs with
  | nil => exact absurd rfl hx
  | cons x l => rfl
attribute [local go_sem] Aav.nilE Aav.nilN
def Aav.f (k : Nat) (a0_0 : Int) (l0_1 : List Int) : Option (Bool) := (Aap.f k a0_0 l0_1).bind fun t900 => (if t900 = true then ((Aal.f k a0_0 l0_1).bind fun t901 => (some (t901 == ([] : List Int)))) else (some false))
set_option maxHeartbeats 8000000 in
set_option maxRecDepth 100000 in
theorem Aav.calls (k : Nat) (a0_0 : Int) (A0_1 : Option Addr) (c0_1 : Nat) (l0_1 : List Int) (r : Bool) (w : World) (hr0_1 : Kd.C (Kd.int .i64) w A0_1 l0_1.length l0_1) (hc0_1 : l0_1.length ≤ c0_1) (hT : TabOK w) (h : Aav.f k a0_0 l0_1 = some r) :
 Calls Tryd.prog 107 #[.agg #[.int .i64 a0_0,.slice A0_1 l0_1.length c0_1]] w fun e w'=>e = .returned (.bool r) ∧ Below w.heap.size w w':=by
 have hu26:=Tryd.underlying26;have HT:=A_ hT;clear hT;have HR0_1:=A_ hr0_1;have HC0_1:=A_ hc0_1;clear hr0_1 hc0_1;have HB:=A_ (Below.refl w.heap.size w);have H : ((Aap.f k a0_0 l0_1).bind fun Ab=>(if Ab = true then ((Aal.f k a0_0 l0_1).bind fun Ac=>(some (Ac == ([] : List Int)))) else (some false))) = some r:=h;clear h;replace H:=Option.bind_eq_some_iff.mp H;obtain ⟨Ab,A20,H⟩:=H;(try dsimp only at H);have A2:=A_ A20;clear A20;by_cases c3 : Ab = true
 ·subst c3;rw [if_pos rfl] at H;replace H:=Option.bind_eq_some_iff.mp H;obtain ⟨Ac,A40,H⟩:=H;(try dsimp only at H);have A4:=A_ A40;clear A40;obtain rfl:=Option.some.inj H;go_enter Tryd.func107,Tryd.ntmps107
  go_wp2_with (first|((with_reducible refine gate_dst (N:=1) rfl ?_);refine box_event ?hg (N:=1) ?hd (cs:=#[.int .i64 a0_0,.slice A0_1 l0_1.length c0_1]) (t:=26) ?hr ?_;(case hd=>rfl);(case hg=>rfl);(case hr=>go_simp;try rfl);intro Ae hg w5 hbox hb;have Aa:=A_ (hbox);have Af:=A_ (gw_ (w:=w) hg bb_);have Ag:=A_ (gw_ (w:=w) hg bb_);replace HB:=A_ (below_step bb_ hb);clear hb hbox hg;obtain ⟨Z,Z,Z,Z⟩:=o2_ Aa.1)|((with_reducible refine gate_callee (f:=16) rfl ?_);refine goesL_ (some 4) rfl rfl Tryd.func16 (by kernel_rfl) rfl #[.agg #[.int .i64 a0_0,.slice A0_1 l0_1.length c0_1]] rfl au_ ?_;(with_reducible refine (Aap.calls k a0_0 _ _ l0_1 true _ ?side1 ?side2 ?side3 A2.1).mono ?_);(case side1=>exact cl_ (Kd.C_below HR0_1.1 HB.1));(case side2=>exact HC0_1.1);(case side3=>first|exact HT.1|exact HT.1.below bb_|(repeat (first|exact HT.1|apply TabOK.drewN|apply TabOK.drew|apply TabOK.alloc)));rintro e w7 ⟨rfl,hb⟩;refine ⟨_,rfl,?_⟩;replace Aa:=bz Aa hb;replace HB:=A_ (below_step bb_ hb);(try clear hb);(try clear hb2);(try clear hk);(try clear hi);obtain ⟨Z,Z,Z,Z⟩:=o2_ Aa.1)|(go_at_call 105;(with_reducible refine (Aal.calls k a0_0 _ _ l0_1 Ac _ ?side1 ?side2 A4.1).mono ?_);(case side1=>exact cl_ (Kd.C_below HR0_1.1 HB.1));(case side2=>exact HC0_1.1);rintro e w9 ⟨Ah,rfl,ho0,hb,hz_⟩;have Ad:=A_ (Kd.R_lower ho0 (below_size bb_));replace Aa:=bz Aa hb;replace HB:=A_ (below_step bb_ hb);(try clear hb);(try clear hb2);(try clear hk);(try clear hi);(try clear ho0);obtain ⟨Ao10,co10,eo10⟩:=Kd.R_slice Ad.1;subst eo10;(try have hnl10:=Aav.nilFact Ad.1 hz_);(try clear hz_)))
  go_ret
  exact ⟨by first|rfl|(rw [hnl10] <;> rfl)|(simp [*,errW_none,errW_some] <;> first|exact ⟨rfl,Aav.nilB _⟩|exact Aav.nilB _)|(simp [errW_none,errW_some] <;> rfl)|(simp [*,errW_none,errW_some] <;> rfl),bb_⟩
 ·replace c3:=Bool.eq_false_iff.mpr c3;subst c3;rw [if_neg nf_] at H;obtain rfl:=Option.some.inj H;go_enter Tryd.func107,Tryd.ntmps107
  go_wp2_with (first|((with_reducible refine gate_dst (N:=1) rfl ?_);refine box_event ?hg (N:=1) ?hd (cs:=#[.int .i64 a0_0,.slice A0_1 l0_1.length c0_1]) (t:=26) ?hr ?_;(case hd=>rfl);(case hg=>rfl);(case hr=>go_simp;try rfl);intro Ae hg w11 hbox hb;have Aa:=A_ (hbox);have Af:=A_ (gw_ (w:=w) hg bb_);have Ag:=A_ (gw_ (w:=w) hg bb_);replace HB:=A_ (below_step bb_ hb);clear hb hbox hg;obtain ⟨Z,Z,Z,Z⟩:=o2_ Aa.1)|((with_reducible refine gate_callee (f:=16) rfl ?_);refine goesL_ (some 4) rfl rfl Tryd.func16 (by kernel_rfl) rfl #[.agg #[.int .i64 a0_0,.slice A0_1 l0_1.length c0_1]] rfl au_ ?_;(with_reducible refine (Aap.calls k a0_0 _ _ l0_1 false _ ?side1 ?side2 ?side3 A2.1).mono ?_);(case side1=>exact cl_ (Kd.C_below HR0_1.1 HB.1));(case side2=>exact HC0_1.1);(case side3=>first|exact HT.1|exact HT.1.below bb_|(repeat (first|exact HT.1|apply TabOK.drewN|apply TabOK.drew|apply TabOK.alloc)));rintro e w13 ⟨rfl,hb⟩;refine ⟨_,rfl,?_⟩;replace Aa:=bz Aa hb;replace HB:=A_ (below_step bb_ hb);(try clear hb);(try clear hb2);(try clear hk);(try clear hi)))
  go_ret
  exact ⟨by first|rfl|(rw [hnl10] <;> rfl)|(simp [*,errW_none,errW_some] <;> first|exact ⟨rfl,Aav.nilB _⟩|exact Aav.nilB _)|(simp [errW_none,errW_some] <;> rfl)|(simp [*,errW_none,errW_some] <;> rfl),bb_⟩
theorem Aa6.nilAt {P : Program} (w : World) (d : Nat) (t e : TypeId) (a : Option Addr) (l c : Nat) (h : P.underlying t = some (.slice e)) : (Op.equalIn (d + 1) t (.slice a l c) (.slice none 0 0)).run P w = .ok a.isNone w:=by
 cases a <;> simp [Op.equalIn,run_underlying h]
theorem Aa6.nilOf {P : Program} (w : World) (t e : TypeId) (a : Option Addr) (l c : Nat) (h : P.underlying t = some (.slice e)) : (binOp .eql t (.slice a l c) (.slice none 0 0)).run P w = .ok (.bool a.isNone) w:=by
 have h1 : (Op.equal t (.slice a l c) (.slice none 0 0)).run P w = .ok a.isNone w:=Aa6.nilAt w 9999 t e a l c h;simp [binOp,h1]
theorem Aa6.nilNo {P : Program} (w : World) (t e : TypeId) (a : Option Addr) (l c : Nat) (h : P.underlying t = some (.slice e)) : (binOp .neq t (.slice a l c) (.slice none 0 0)).run P w = .ok (.bool (!a.isNone)) w:=by
 have h1 : (Op.equal t (.slice a l c) (.slice none 0 0)).run P w = .ok a.isNone w:=Aa6.nilAt w 9999 t e a l c h;simp [binOp,h1]
theorem Aa6.nilE (w : World) (a : Option Addr) (l c : Nat) : (binOp .eql 24 (.slice a l c) (.slice none 0 0)).run Tryd.prog w = .ok (.bool a.isNone) w:=Aa6.nilOf w _ _ a l c Tryd.underlying24
theorem Aa6.nilN (w : World) (a : Option Addr) (l c : Nat) : (binOp .neq 24 (.slice a l c) (.slice none 0 0)).run Tryd.prog w = .ok (.bool (!a.isNone)) w:=Aa6.nilNo w _ _ a l c Tryd.underlying24
theorem Aa6.nilFact {w : World} {base e : Nat} {ok : Nat → Prop} {A : Option Addr} {n c : Nat} {xs : List Int} (h : Kd.R (Kd.int .i64) e w base ok (.slice A n c) xs) (hz : xs = [] → (.slice A n c : Value) = .slice none 0 0) : A.isNone = (xs == ([] : List Int)):=by
 by_cases hx : xs = []
 ·have:=hz hx;injection this with h1;rw [h1,hx];rfl
 ·obtain ⟨hn,_,hC⟩:=Kd.R_reads' h;have hpos : 0 < xs.length:=List.length_pos_iff.2 hx;obtain ⟨ad,e1,_⟩:=hC.2.2 hpos;rw [e1];cases xs with
  | nil => exact absurd rfl hx
  | cons x l => rfl
attribute [local go_sem] Aa6.nilE Aa6.nilN
def Aa6.f (k : Nat) (a0_0 : Int) (l0_1 : List Int) : Option (Bool) := (Aav.f k a0_0 l0_1).bind fun t905 => (if t905 = true then ((Aaf.f k a0_0 l0_1).bind fun t906 => (some (t906 == ([] : List Int)))) else (some false))
set_option maxHeartbeats 8000000 in
set_option maxRecDepth 100000 in
theorem Aa6.calls (k : Nat) (a0_0 : Int) (A0_1 : Option Addr) (c0_1 : Nat) (l0_1 : List Int) (r : Bool) (w : World) (hr0_1 : Kd.C (Kd.int .i64) w A0_1 l0_1.length l0_1) (hc0_1 : l0_1.length ≤ c0_1) (hT : TabOK w) (h : Aa6.f k a0_0 l0_1 = some r) :
 Calls Tryd.prog 90 #[.agg #[.int .i64 a0_0,.slice A0_1 l0_1.length c0_1]] w fun e w'=>e = .returned (.bool r) ∧ Below w.heap.size w w':=by
 have hu26:=Tryd.underlying26;have HT:=A_ hT;clear hT;have HR0_1:=A_ hr0_1;have HC0_1:=A_ hc0_1;clear hr0_1 hc0_1;have HB:=A_ (Below.refl w.heap.size w);have H : ((Aav.f k a0_0 l0_1).bind fun Ab=>(if Ab = true then ((Aaf.f k a0_0 l0_1).bind fun Ac=>(some (Ac == ([] : List Int)))) else (some false))) = some r:=h;clear h;replace H:=Option.bind_eq_some_iff.mp H;obtain ⟨Ab,A20,H⟩:=H;(try dsimp only at H);have A2:=A_ A20;clear A20;by_cases c3 : Ab = true
 ·subst c3;rw [if_pos rfl] at H;replace H:=Option.bind_eq_some_iff.mp H;obtain ⟨Ac,A40,H⟩:=H;(try dsimp only at H);have A4:=A_ A40;clear A40;obtain rfl:=Option.some.inj H;go_enter Tryd.func90,Tryd.ntmps90
  go_wp2_with (first|((with_reducible refine gate_dst (N:=1) rfl ?_);refine box_event ?hg (N:=1) ?hd (cs:=#[.int .i64 a0_0,.slice A0_1 l0_1.length c0_1]) (t:=26) ?hr ?_;(case hd=>rfl);(case hg=>rfl);(case hr=>go_simp;try rfl);intro Ae hg w5 hbox hb;have Aa:=A_ (hbox);have Af:=A_ (gw_ (w:=w) hg bb_);have Ag:=A_ (gw_ (w:=w) hg bb_);replace HB:=A_ (below_step bb_ hb);clear hb hbox hg;obtain ⟨Z,Z,Z,Z⟩:=o2_ Aa.1)|((with_reducible refine gate_callee (f:=107) rfl ?_);refine goesL_ (some 4) rfl rfl Tryd.func107 (by kernel_rfl) rfl #[.agg #[.int .i64 a0_0,.slice A0_1 l0_1.length c0_1]] rfl au_ ?_;(with_reducible refine (Aav.calls k a0_0 _ _ l0_1 true _ ?side1 ?side2 ?side3 A2.1).mono ?_);(case side1=>exact cl_ (Kd.C_below HR0_1.1 HB.1));(case side2=>exact HC0_1.1);(case side3=>first|exact HT.1|exact HT.1.below bb_|(repeat (first|exact HT.1|apply TabOK.drewN|apply TabOK.drew|apply TabOK.alloc)));rintro e w7 ⟨rfl,hb⟩;refine ⟨_,rfl,?_⟩;replace Aa:=bz Aa hb;replace HB:=A_ (below_step bb_ hb);(try clear hb);(try clear hb2);(try clear hk);(try clear hi);obtain ⟨Z,Z,Z,Z⟩:=o2_ Aa.1)|(go_at_call 92;(with_reducible refine (Aaf.calls k a0_0 _ _ l0_1 Ac _ ?side1 ?side2 ?side3 A4.1).mono ?_);(case side1=>exact cl_ (Kd.C_below HR0_1.1 HB.1));(case side2=>exact HC0_1.1);(case side3=>first|exact HT.1|exact HT.1.below bb_|(repeat (first|exact HT.1|apply TabOK.drewN|apply TabOK.drew|apply TabOK.alloc)));rintro e w9 ⟨Ah,rfl,ho0,hb,hz_⟩;have Ad:=A_ (Kd.R_lower ho0 (below_size bb_));replace Aa:=bz Aa hb;replace HB:=A_ (below_step bb_ hb);(try clear hb);(try clear hb2);(try clear hk);(try clear hi);(try clear ho0);obtain ⟨Ao10,co10,eo10⟩:=Kd.R_slice Ad.1;subst eo10;(try have hnl10:=Aa6.nilFact Ad.1 hz_);(try clear hz_)))
  go_ret
  exact ⟨by first|rfl|(rw [hnl10] <;> rfl)|(simp [*,errW_none,errW_some] <;> first|exact ⟨rfl,Aa6.nilB _⟩|exact Aa6.nilB _)|(simp [errW_none,errW_some] <;> rfl)|(simp [*,errW_none,errW_some] <;> rfl),bb_⟩
 ·replace c3:=Bool.eq_false_iff.mpr c3;subst c3;rw [if_neg nf_] at H;obtain rfl:=Option.some.inj H;go_enter Tryd.func90,Tryd.ntmps90
  go_wp2_with (first|((with_reducible refine gate_dst (N:=1) rfl ?_);refine box_event ?hg (N:=1) ?hd (cs:=#[.int .i64 a0_0,.slice A0_1 l0_1.length c0_1]) (t:=26) ?hr ?_;(case hd=>rfl);(case hg=>rfl);(case hr=>go_simp;try rfl);intro Ae hg w11 hbox hb;have Aa:=A_ (hbox);have Af:=A_ (gw_ (w:=w) hg bb_);have Ag:=A_ (gw_ (w:=w) hg bb_);replace HB:=A_ (below_step bb_ hb);clear hb hbox hg;obtain ⟨Z,Z,Z,Z⟩:=o2_ Aa.1)|((with_reducible refine gate_callee (f:=107) rfl ?_);refine goesL_ (some 4) rfl rfl Tryd.func107 (by kernel_rfl) rfl #[.agg #[.int .i64 a0_0,.slice A0_1 l0_1.length c0_1]] rfl au_ ?_;(with_reducible refine (Aav.calls k a0_0 _ _ l0_1 false _ ?side1 ?side2 ?side3 A2.1).mono ?_);(case side1=>exact cl_ (Kd.C_below HR0_1.1 HB.1));(case side2=>exact HC0_1.1);(case side3=>first|exact HT.1|exact HT.1.below bb_|(repeat (first|exact HT.1|apply TabOK.drewN|apply TabOK.drew|apply TabOK.alloc)));rintro e w13 ⟨rfl,hb⟩;refine ⟨_,rfl,?_⟩;replace Aa:=bz Aa hb;replace HB:=A_ (below_step bb_ hb);(try clear hb);(try clear hb2);(try clear hk);(try clear hi)))
  go_ret
  exact ⟨by first|rfl|(rw [hnl10] <;> rfl)|(simp [*,errW_none,errW_some] <;> first|exact ⟨rfl,Aa6.nilB _⟩|exact Aa6.nilB _)|(simp [errW_none,errW_some] <;> rfl)|(simp [*,errW_none,errW_some] <;> rfl),bb_⟩
def Abt.f (k : Nat) (a0_0 : Int) (l0_1 : List Int) : Option (Bool × Bool) := (Aap.f k a0_0 l0_1).bind fun t910 => (if t910 = true then ((Aa6.f k a0_0 l0_1).bind fun t911 => (some (t911, true))) else (some (false, false)))
set_option maxHeartbeats 8000000 in
set_option maxRecDepth 100000 in
theorem Abt.calls (k : Nat) (a0_0 : Int) (A0_1 : Option Addr) (c0_1 : Nat) (l0_1 : List Int) (r1 : Bool) (r2 : Bool) (w : World) (hr0_1 : Kd.C (Kd.int .i64) w A0_1 l0_1.length l0_1) (hc0_1 : l0_1.length ≤ c0_1) (hT : TabOK w) (h : Abt.f k a0_0 l0_1 = some (r1,r2)) :
 Calls Tryd.prog 33 #[.agg #[.int .i64 a0_0,.slice A0_1 l0_1.length c0_1]] w fun e w'=>e = .returned (.tuple #[.bool r1,.bool r2]) ∧ Below w.heap.size w w':=by
 have hu26:=Tryd.underlying26;have HT:=A_ hT;clear hT;have HR0_1:=A_ hr0_1;have HC0_1:=A_ hc0_1;clear hr0_1 hc0_1;have HB:=A_ (Below.refl w.heap.size w);have H : ((Aap.f k a0_0 l0_1).bind fun Ac=>(if Ac = true then ((Aa6.f k a0_0 l0_1).bind fun Ab=>(some (Ab,true))) else (some (false,false)))) = some (r1,r2):=h;clear h;replace H:=Option.bind_eq_some_iff.mp H;obtain ⟨Ac,A20,H⟩:=H;replace H : (if Ac = true then ((Aa6.f k a0_0 l0_1).bind fun Ab=>(some (Ab,true))) else (some (false,false))) = some (r1,r2):=H;have A2:=A_ A20;clear A20;by_cases c3 : Ac = true
 ·subst c3;have H1 : ((Aa6.f k a0_0 l0_1).bind fun Ab=>(some (Ab,true))) = some (r1,r2):=by rw [if_pos rfl] at H;exact H
  clear H;have H:=H1;clear H1;replace H:=Option.bind_eq_some_iff.mp H;obtain ⟨Ab,A40,H⟩:=H;replace H : (some (Ab,true)) = some (r1,r2):=H;have A4:=A_ A40;clear A40;simp only [Option.some.injEq,Prod.mk.injEq] at H
  obtain ⟨rfl,rfl⟩:=H;go_enter Tryd.func33,Tryd.ntmps33
  go_wp2_with (first|((with_reducible refine gate_dst (N:=1) rfl ?_);refine box_event ?hg (N:=1) ?hd (cs:=#[.int .i64 a0_0,.slice A0_1 l0_1.length c0_1]) (t:=26) ?hr ?_;(case hd=>rfl);(case hg=>rfl);(case hr=>go_simp;try rfl);intro Ad hg w5 hbox hb;have Aa:=A_ (hbox);have Ae:=A_ (gw_ (w:=w) hg bb_);have Af:=A_ (gw_ (w:=w) hg bb_);replace HB:=A_ (below_step bb_ hb);clear hb hbox hg;obtain ⟨Z,Z,Z,Z⟩:=o2_ Aa.1)|((with_reducible refine gate_callee (f:=16) rfl ?_);refine goesL_ (some 5) rfl rfl Tryd.func16 (by kernel_rfl) rfl #[.agg #[.int .i64 a0_0,.slice A0_1 l0_1.length c0_1]] rfl au_ ?_;(with_reducible refine (Aap.calls k a0_0 _ _ l0_1 true _ ?side1 ?side2 ?side3 A2.1).mono ?_);(case side1=>exact cl_ (Kd.C_below HR0_1.1 HB.1));(case side2=>exact HC0_1.1);(case side3=>first|exact HT.1|exact HT.1.below bb_|(repeat (first|exact HT.1|apply TabOK.drewN|apply TabOK.drew|apply TabOK.alloc)));rintro e w7 ⟨rfl,hb⟩;refine ⟨_,rfl,?_⟩;replace Aa:=bz Aa hb;replace HB:=A_ (below_step bb_ hb);(try clear hb);(try clear hb2);(try clear hk);(try clear hi);obtain ⟨Z,Z,Z,Z⟩:=o2_ Aa.1)|((with_reducible refine gate_callee (f:=90) rfl ?_);refine goesL_ (some 8) rfl rfl Tryd.func90 (by kernel_rfl) rfl #[.agg #[.int .i64 a0_0,.slice A0_1 l0_1.length c0_1]] rfl au_ ?_;(with_reducible refine (Aa6.calls k a0_0 _ _ l0_1 Ab _ ?side1 ?side2 ?side3 A4.1).mono ?_);(case side1=>exact cl_ (Kd.C_below HR0_1.1 HB.1));(case side2=>exact HC0_1.1);(case side3=>first|exact HT.1|exact HT.1.below bb_|(repeat (first|exact HT.1|apply TabOK.drewN|apply TabOK.drew|apply TabOK.alloc)));rintro e w9 ⟨rfl,hb⟩;refine ⟨_,rfl,?_⟩;replace Aa:=bz Aa hb;replace HB:=A_ (below_step bb_ hb);(try clear hb);(try clear hb2);(try clear hk);(try clear hi)))
  go_ret2
  exact ⟨by first|rfl|(simp [errW_none,errW_some] <;> rfl)|(simp [*,errW_none,errW_some] <;> rfl),bb_⟩
 ·replace c3:=Bool.eq_false_iff.mpr c3;subst c3;have H1 : (some (false,false)) = some (r1,r2):=by rw [if_neg (show ¬ (false = true) by decide)] at H;exact H
  clear H;have H:=H1;clear H1;simp only [Option.some.injEq,Prod.mk.injEq] at H
  obtain ⟨rfl,rfl⟩:=H;go_enter Tryd.func33,Tryd.ntmps33
  go_wp2_with (first|((with_reducible refine gate_dst (N:=1) rfl ?_);refine box_event ?hg (N:=1) ?hd (cs:=#[.int .i64 a0_0,.slice A0_1 l0_1.length c0_1]) (t:=26) ?hr ?_;(case hd=>rfl);(case hg=>rfl);(case hr=>go_simp;try rfl);intro Ad hg w10 hbox hb;have Aa:=A_ (hbox);have Ae:=A_ (gw_ (w:=w) hg bb_);have Af:=A_ (gw_ (w:=w) hg bb_);replace HB:=A_ (below_step bb_ hb);clear hb hbox hg;obtain ⟨Z,Z,Z,Z⟩:=o2_ Aa.1)|((with_reducible refine gate_callee (f:=16) rfl ?_);refine goesL_ (some 5) rfl rfl Tryd.func16 (by kernel_rfl) rfl #[.agg #[.int .i64 a0_0,.slice A0_1 l0_1.length c0_1]] rfl au_ ?_;(with_reducible refine (Aap.calls k a0_0 _ _ l0_1 false _ ?side1 ?side2 ?side3 A2.1).mono ?_);(case side1=>exact cl_ (Kd.C_below HR0_1.1 HB.1));(case side2=>exact HC0_1.1);(case side3=>first|exact HT.1|exact HT.1.below bb_|(repeat (first|exact HT.1|apply TabOK.drewN|apply TabOK.drew|apply TabOK.alloc)));rintro e w12 ⟨rfl,hb⟩;refine ⟨_,rfl,?_⟩;replace Aa:=bz Aa hb;replace HB:=A_ (below_step bb_ hb);(try clear hb);(try clear hb2);(try clear hk);(try clear hi)))
  go_ret2
  exact ⟨by first|rfl|(simp [errW_none,errW_some] <;> rfl)|(simp [*,errW_none,errW_some] <;> rfl),bb_⟩
mutual
def Aae.l0 : Nat → Int → Int → List Int → Option (List Int × Bool)
 | 0,_,_,_=>none
 | k + 1,x4,x913000,x913001=>if x4 < x913000 then (if 0 ≤ x4 then (if x4 < (x913001.length : Int) then ((Aay.f k (rd x913001 x4)).bind fun t915=>(Aae.l1 k x4 t915 (t915.length : Int) 0 x913000 x913001)) else (none)) else (none)) else (some (([] : List Int),false))
def Aae.l1 : Nat → Int → List Int → Int → Int → Int → List Int → Option (List Int × Bool)
 | 0,_,_,_,_,_,_=>none
 | k + 1,x4,x25,x26,x27,x913000,x913001=>if x27 < x26 then (if 0 ≤ x27 then (if x27 < (x25.length : Int) then (if 0 ≤ (rd x25 x27) then (if (rd x25 x27) < (x913001.length : Int) then ((Aay.f k (rd x913001 (rd x25 x27))).bind fun t920=>(Aae.l2 k x4 (rd x25 x27) x25 x26 x27 t920 (t920.length : Int) 0 x913000 x913001)) else (none)) else (none)) else (none)) else (none)) else (Aae.l0 k (wrap64 (x4 + 1)) x913000 x913001)
def Aae.l2 : Nat → Int → Int → List Int → Int → Int → List Int → Int → Int → Int → List Int → Option (List Int × Bool)
 | 0,_,_,_,_,_,_,_,_,_,_=>none
 | k + 1,x4,x6,x25,x26,x27,x36,x37,x38,x913000,x913001=>if x38 < x37 then (if 0 ≤ x38 then (if x38 < (x36.length : Int) then ((Aa9.f k x913000 x913001 x4).bind fun t924=>((Aa9.f k x913000 x913001 x6).bind fun t925=>((Aa9.f k x913000 x913001 (rd x36 x38)).bind fun t926=>((Aay.f k (Go.bits .and .i64 (Go.bits .and .i64 t924 t925) t926)).bind fun t927=>(Aae.l3 k x4 x6 (rd x36 x38) x25 x26 x27 x36 x37 x38 t927 (t927.length : Int) 0 x913000 x913001))))) else (none)) else (none)) else (Aae.l1 k x4 x25 x26 (wrap64 (x27 + 1)) x913000 x913001)
def Aae.l3 : Nat → Int → Int → Int → List Int → Int → Int → List Int → Int → Int → List Int → Int → Int → Int → List Int → Option (List Int × Bool)
 | 0,_,_,_,_,_,_,_,_,_,_,_,_,_,_=>none
 | k + 1,x4,x6,x8,x25,x26,x27,x36,x37,x38,x53,x54,x55,x913000,x913001=>if x55 < x54 then (if 0 ≤ x55 then (if x55 < (x53.length : Int) then (some ((([x4,x6,x8,rd x53 x55] : List Int)),true)) else (none)) else (none)) else (Aae.l2 k x4 x6 x25 x26 x27 x36 x37 (wrap64 (x38 + 1)) x913000 x913001)
end
def Aae.f (k : Nat) (a0_0 : Int) (l0_1 : List Int) : Option (List Int × Bool) := (Aas.f k a0_0 l0_1).bind fun t913 => (if t913 = true then (Aae.l0 k 0 a0_0 l0_1) else (some (([] : List Int), false)))
def Aae.T12 : Bool × List (List Nat × List Nat) := (true, [([], []), ([], []), ([0, 1], [0, 1]), ([], []), ([], []), ([3, 4, 2], [3, 4]), ([2, 5], [2, 5]), ([], []), ([], []), ([7, 8, 5], [7, 8]), ([6, 9], [6, 9]), ([10, 9], [10]), ([11], [11]), ([], [])])
def Aae.B12 : List Nat := [0, 0, 3, 0, 0, 31, 63, 0, 0, 447, 1023, 2047, 4095, 0]
theorem Aae.tab12 : rtab .any (opsOf Tryd.f36 12) = Aae.T12:=by kernel_rfl
theorem Aae.bits12 : waitsOk Aae.T12.2 Aae.B12 = true:=by kernel_rfl
set_option maxHeartbeats 8000000 in
set_option maxRecDepth 100000 in
theorem Aae.calls (k : Nat) (a0_0 : Int) (A0_1 : Option Addr) (c0_1 : Nat) (l0_1 : List Int) (r1 : List Int) (r2 : Bool) (w : World) (hr0_1 : Kd.C (Kd.int .i64) w A0_1 l0_1.length l0_1) (hc0_1 : l0_1.length ≤ c0_1) (h : Aae.f k a0_0 l0_1 = some (r1,r2)) :
 Calls Tryd.prog 36 #[.agg #[.int .i64 a0_0,.slice A0_1 l0_1.length c0_1]] w fun e w'=>∃ v0_ : Value,e = .returned (.tuple #[v0_,.bool r2]) ∧ Kd.R (Kd.int .i64) 3 w' w.heap.size (fun _=>True) v0_ r1 ∧ Below w.heap.size w w':=by
 have hu26:=Tryd.underlying26;have HR0_1:=A_ hr0_1;have HC0_1:=A_ hc0_1;clear hr0_1 hc0_1;have HB:=A_ (Below.refl w.heap.size w);have H : ((Aas.f k a0_0 l0_1).bind fun Au=>(if Au = true then (Aae.l0 k 0 a0_0 l0_1) else (some (([] : List Int),false)))) = some (r1,r2):=h;clear h;replace H:=Option.bind_eq_some_iff.mp H;obtain ⟨Au,A20,H⟩:=H;replace H : (if Au = true then (Aae.l0 k 0 a0_0 l0_1) else (some (([] : List Int),false))) = some (r1,r2):=H;have A2:=A_ A20;clear A20;by_cases c3 : Au = true
 ·subst c3;have H1 : (Aae.l0 k 0 a0_0 l0_1) = some (r1,r2):=by rw [if_pos rfl] at H;exact H
  clear H;have H:=H1;clear H1;have H':=A_ H;clear H;go_enter Tryd.func36,Tryd.ntmps36
  go_wp2_with (first|((with_reducible refine gate_dst (N:=1) rfl ?_);refine box_event ?hg (N:=1) ?hd (cs:=#[.int .i64 a0_0,.slice A0_1 l0_1.length c0_1]) (t:=26) ?hr ?_;(case hd=>rfl);(case hg=>rfl);(case hr=>go_simp;try rfl);intro Ah hg w4 hbox hb;have Aa:=A_ (hbox);have Bl:=A_ (gw_ (w:=w) hg bb_);have Bm:=A_ (gw_ (w:=w) hg bb_);replace HB:=A_ (below_step bb_ hb);clear hb hbox hg;obtain ⟨Z,Z,Z,Z⟩:=o2_ Aa.1)|((with_reducible refine gate_callee (f:=70) rfl ?_);refine goesL_ (some 12) rfl rfl Tryd.func70 (by kernel_rfl) rfl #[.agg #[.int .i64 a0_0,.slice A0_1 l0_1.length c0_1]] rfl au_ ?_;(with_reducible refine (Aas.calls k a0_0 _ _ l0_1 true _ ?side1 ?side2 A2.1).mono ?_);(case side1=>exact cl_ (Kd.C_below HR0_1.1 HB.1));(case side2=>exact HC0_1.1);rintro e w6 ⟨rfl,hb⟩;refine ⟨_,rfl,?_⟩;replace Aa:=bz Aa hb;replace HB:=A_ (below_step bb_ hb);(try clear hb);(try clear hb2);(try clear hk);(try clear hi)))
  go_loopg [4] k (fun kq v4 w'=>∃ (x4_1 : Int),v4 = .int .i64 x4_1 ∧ Aside0 (Aae.l0 kq x4_1 a0_0 l0_1 = some (r1,r2)) ∧ Aside0 (kq ≤ k) ∧ Aside0 (w'.heap[Ah]? = some (.cells #[.int .i64 a0_0,(.slice A0_1 l0_1.length c0_1)] 26 (0,0))) ∧ Aside0 (Below w.heap.size w w'))
  case atStart=>exact ⟨(0),(by first|rfl|(simp;done)|(simp [*];done)),H',⟨Nat.le_refl _⟩,⟨bl_ Aa⟩,⟨bb_⟩⟩
  case round =>
   clear H';try clear p2
   try clear c3
   repeat clear Z
   obtain ⟨x4_1,rfl,HA,HK1,Aa,HB⟩:=hrel;cases gk with
   | zero=>exact absurd HA.1 (by simp [Aae.l0])
   | succ k1 =>
    have H:=HA.1;clear HA;simp only [Aae.l0] at H
    by_cases c7 : x4_1 < a0_0
    ·rw [if_pos c7] at H;have c7b0 : decide (x4_1 < a0_0) = true:=decide_eq_true c7;clear c7;by_cases c8 : 0 ≤ x4_1
     ·rw [if_pos c8] at H;have c8b0 : decide (0 ≤ x4_1) = true:=decide_eq_true c8;clear c8;by_cases c9 : x4_1 < (l0_1.length : Int)
      ·rw [if_pos c9] at H;have c9b0 : decide (x4_1 < (l0_1.length : Int)) = true:=decide_eq_true c9;clear c9;replace H:=Option.bind_eq_some_iff.mp H;obtain ⟨Ab,Bf,H⟩:=H;replace H : (Aae.l1 k1 x4_1 Ab (Ab.length : Int) 0 a0_0 l0_1) = some (r1,r2):=H;have A10:=A_ Bf;clear Bf;have H':=A_ H;clear H;obtain ⟨Z,Z,Z,Z⟩:=o2_ Aa.1;have Am : 0 ≤ (x4_1 : Int):=of_decide_eq_true (by first|(with_reducible assumption)|assumption);have An : x4_1 < (l0_1.length : Int):=of_decide_eq_true (by first|(with_reducible assumption)|assumption);obtain ⟨Af,Bp,Ae⟩:=Kd.at_int HR0_1.1 x4_1 Am An;cases Bp
       (try replace Ae:=(HB.1.cell (World.block_lt_of_cell? w _ Ae)).trans Ae);replace Am:=eq_true Am;replace An:=eq_true An;go_wp2_with (first|((with_reducible refine gate_callee (f:=71) rfl ?_);refine goesL_ (some 25) rfl rfl Tryd.func71 (by kernel_rfl) rfl #[.int .i64 (rd l0_1 x4_1)] rfl au_ ?_;(with_reducible refine (Aay.calls k1 (rd l0_1 x4_1) Ab _ A10.1).mono ?_);rintro e w12 ⟨Bx,rfl,ho0,hb⟩;refine ⟨_,rfl,?_⟩;have Ba:=A_ (Kd.R_lower ho0 (below_size bb_));replace Aa:=bz Aa hb;replace HB:=A_ (below_step bb_ hb);(try clear hb);(try clear hb2);(try clear hk);(try clear hi);(try clear ho0);obtain ⟨Ao13,co13,eo13⟩:=Kd.R_slice Ba.1;subst eo13))
       go_loopg [27] k1 (fun kq v27 w'=>∃ (x27_2 : Int),v27 = .int .i64 x27_2 ∧ Aside0 (Aae.l1 kq x4_1 Ab (Ab.length : Int) x27_2 a0_0 l0_1 = some (r1,r2)) ∧ Aside0 (kq ≤ k1) ∧ Aside0 (Kd.R (Kd.int .i64) 3 w' w.heap.size (fun _=>True) (.slice Ao13 Ab.length co13) Ab) ∧ Aside0 (w'.heap[Ah]? = some (.cells #[.int .i64 a0_0,(.slice (some Af) l0_1.length c0_1)] 26 (0,0))) ∧ Aside0 (Below w.heap.size w w'))
       case atStart=>exact ⟨(0),(by first|rfl|(simp;done)|(simp [*];done)),H',⟨Nat.le_refl _⟩,⟨rl_ Ba⟩,⟨bl_ Aa⟩,⟨bb_⟩⟩
       case round =>
        clear H';try clear p2
        try clear c3
        try clear c7
        try clear c7b0
        try clear c8
        try clear c8b0
        try clear c9
        try clear c9b0
        try clear p9
        try clear q9
        try clear hx9
        repeat clear Z
        try clear Ae
        try clear p2
        try clear Am
        try clear An
        obtain ⟨x27_2,rfl,HA,HK2,HO_25,Aa,HB⟩:=hrel;cases gk with
        | zero=>exact absurd HA.1 (by simp [Aae.l1])
        | succ k2 =>
         have H:=HA.1;clear HA;simp only [Aae.l1] at H
         by_cases c14 : x27_2 < (Ab.length : Int)
         ·rw [if_pos c14] at H;have c14b0 : decide (x27_2 < (Ab.length : Int)) = true:=decide_eq_true c14;clear c14;by_cases c15 : 0 ≤ x27_2
          ·rw [if_pos c15] at H;have c15b0 : decide (0 ≤ x27_2) = true:=decide_eq_true c15;clear c15;by_cases c16 : x27_2 < (Ab.length : Int)
           ·rw [if_pos c16] at H;have c16b0 : decide (x27_2 < (Ab.length : Int)) = true:=decide_eq_true c16;clear c16;by_cases c17 : 0 ≤ (rd Ab x27_2)
            ·rw [if_pos c17] at H;have c17b0 : decide (0 ≤ (rd Ab x27_2)) = true:=decide_eq_true c17;clear c17;by_cases c18 : (rd Ab x27_2) < (l0_1.length : Int)
             ·rw [if_pos c18] at H;have c18b0 : decide ((rd Ab x27_2) < (l0_1.length : Int)) = true:=decide_eq_true c18;clear c18;replace H:=Option.bind_eq_some_iff.mp H;obtain ⟨Ac,Bg,H⟩:=H;replace H : (Aae.l2 k2 x4_1 (rd Ab x27_2) Ab (Ab.length : Int) x27_2 Ac (Ac.length : Int) 0 a0_0 l0_1) = some (r1,r2):=H;have A19:=A_ Bg;clear Bg;have H':=A_ H;clear H;have Ap : 0 ≤ (x27_2 : Int):=of_decide_eq_true (by first|(with_reducible assumption)|assumption);have Aq : x27_2 < (Ab.length : Int):=of_decide_eq_true (by first|(with_reducible assumption)|assumption);obtain ⟨Ak,Bq,At⟩:=Kd.at_int (Kd.R_reads' HO_25.1).2.2 x27_2 Ap Aq;cases Bq
              replace Ap:=eq_true Ap;replace Aq:=eq_true Aq;obtain ⟨Z,Z,Z,Z⟩:=o2_ Aa.1;have Ar : 0 ≤ ((rd Ab x27_2) : Int):=of_decide_eq_true (by first|(with_reducible assumption)|assumption);have As : (rd Ab x27_2) < (l0_1.length : Int):=of_decide_eq_true (by first|(with_reducible assumption)|assumption);obtain ⟨Bn,Br,Ag⟩:=Kd.at_int HR0_1.1 (rd Ab x27_2) Ar As;obtain rfl : Af = Bn:=(by injection Br);(try replace Ag:=(HB.1.cell (World.block_lt_of_cell? w _ Ag)).trans Ag);replace Ar:=eq_true Ar;replace As:=eq_true As;go_wp2_with (first|((with_reducible refine gate_callee (f:=71) rfl ?_);refine goesL_ (some 36) rfl rfl Tryd.func71 (by kernel_rfl) rfl #[.int .i64 (rd l0_1 (rd Ab x27_2))] rfl au_ ?_;(with_reducible refine (Aay.calls k2 (rd l0_1 (rd Ab x27_2)) Ac _ A19.1).mono ?_);rintro e w21 ⟨Bz,rfl,ho0,hb⟩;refine ⟨_,rfl,?_⟩;have Bb:=A_ (Kd.R_lower (Kd.R_new' ho0 (Kd.R_lt (rl_ HO_25))) (below_size bb_));replace HO_25:=A_ (Kd.R_elder' (rl_ HO_25) (Kd.R_base ho0) hb);replace Aa:=bz Aa hb;replace HB:=A_ (below_step bb_ hb);(try clear hb);(try clear hb2);(try clear hk);(try clear hi);(try clear ho0);obtain ⟨Ao22,co22,eo22⟩:=Kd.R_slice Bb.1;subst eo22))
              go_loopg [38] k2 (fun kq v38 w'=>∃ (x38_3 : Int),v38 = .int .i64 x38_3 ∧ Aside0 (Aae.l2 kq x4_1 (rd Ab x27_2) Ab (Ab.length : Int) x27_2 Ac (Ac.length : Int) x38_3 a0_0 l0_1 = some (r1,r2)) ∧ Aside0 (kq ≤ k2) ∧ Aside0 (Kd.R (Kd.int .i64) 3 w' w.heap.size (fun k_=>some k_ ≠ ((.slice Ao22 Ac.length co22) : Value).ownBlock) (.slice (some Ak) Ab.length co13) Ab) ∧ Aside0 (Kd.R (Kd.int .i64) 3 w' w.heap.size (fun k_=>some k_ ≠ ((.slice (some Ak) Ab.length co13) : Value).ownBlock) (.slice Ao22 Ac.length co22) Ac) ∧ Aside0 (w'.heap[Ah]? = some (.cells #[.int .i64 a0_0,(.slice (some Af) l0_1.length c0_1)] 26 (0,0))) ∧ Aside0 (Below w.heap.size w w'))
              case atStart=>exact ⟨(0),(by first|rfl|(simp;done)|(simp [*];done)),H',⟨Nat.le_refl _⟩,⟨rq_ (Kd.R_mono HO_25.1 (fun _ hk=>hk.2))⟩,⟨rq_ (Kd.R_mono Bb.1 (fun _ hk=>hk.2))⟩,⟨bl_ Aa⟩,⟨bb_⟩⟩
              case round =>
               clear H';try clear c1
               try clear p2
               try clear c3
               try clear c7
               try clear c7b0
               try clear c8
               try clear c8b0
               try clear c9
               try clear c9b0
               try clear p9
               try clear q9
               try clear hx9
               try clear c14
               try clear c14b0
               try clear c15
               try clear c15b0
               try clear c16
               try clear c16b0
               try clear c17
               try clear c17b0
               try clear c18
               try clear c18b0
               repeat clear Z
               try clear Ae
               try clear At
               try clear Ag
               try clear p2
               try clear p9
               try clear Am
               try clear Ap
               try clear Ar
               try clear q9
               try clear An
               try clear Aq
               try clear As
               obtain ⟨x38_3,rfl,HA,HK3,HO_25,HO_36,Aa,HB⟩:=hrel;cases gk with
               | zero=>exact absurd HA.1 (by simp [Aae.l2])
               | succ k3 =>
                have H:=HA.1;clear HA;simp only [Aae.l2] at H
                by_cases c23 : x38_3 < (Ac.length : Int)
                ·rw [if_pos c23] at H;have c23b0 : decide (x38_3 < (Ac.length : Int)) = true:=decide_eq_true c23;clear c23;by_cases c24 : 0 ≤ x38_3
                 ·rw [if_pos c24] at H;have c24b0 : decide (0 ≤ x38_3) = true:=decide_eq_true c24;clear c24;by_cases c25 : x38_3 < (Ac.length : Int)
                  ·rw [if_pos c25] at H;have c25b0 : decide (x38_3 < (Ac.length : Int)) = true:=decide_eq_true c25;clear c25;replace H:=Option.bind_eq_some_iff.mp H;obtain ⟨Ao,Bh,H⟩:=H;replace H : ((Aa9.f k3 a0_0 l0_1 (rd Ab x27_2)).bind fun Aj=>((Aa9.f k3 a0_0 l0_1 (rd Ac x38_3)).bind fun Ai=>((Aay.f k3 (Go.bits .and .i64 (Go.bits .and .i64 Ao Aj) Ai)).bind fun Ad=>(Aae.l3 k3 x4_1 (rd Ab x27_2) (rd Ac x38_3) Ab (Ab.length : Int) x27_2 Ac (Ac.length : Int) x38_3 Ad (Ad.length : Int) 0 a0_0 l0_1)))) = some (r1,r2):=H;have A26:=A_ Bh;clear Bh;replace H:=Option.bind_eq_some_iff.mp H;obtain ⟨Aj,Bi,H⟩:=H;replace H : ((Aa9.f k3 a0_0 l0_1 (rd Ac x38_3)).bind fun Ai=>((Aay.f k3 (Go.bits .and .i64 (Go.bits .and .i64 Ao Aj) Ai)).bind fun Ad=>(Aae.l3 k3 x4_1 (rd Ab x27_2) (rd Ac x38_3) Ab (Ab.length : Int) x27_2 Ac (Ac.length : Int) x38_3 Ad (Ad.length : Int) 0 a0_0 l0_1))) = some (r1,r2):=H;have A27:=A_ Bi;clear Bi;replace H:=Option.bind_eq_some_iff.mp H;obtain ⟨Ai,Bj,H⟩:=H;replace H : ((Aay.f k3 (Go.bits .and .i64 (Go.bits .and .i64 Ao Aj) Ai)).bind fun Ad=>(Aae.l3 k3 x4_1 (rd Ab x27_2) (rd Ac x38_3) Ab (Ab.length : Int) x27_2 Ac (Ac.length : Int) x38_3 Ad (Ad.length : Int) 0 a0_0 l0_1)) = some (r1,r2):=H;have A28:=A_ Bj;clear Bj;replace H:=Option.bind_eq_some_iff.mp H;obtain ⟨Ad,Bk,H⟩:=H;replace H : (Aae.l3 k3 x4_1 (rd Ab x27_2) (rd Ac x38_3) Ab (Ab.length : Int) x27_2 Ac (Ac.length : Int) x38_3 Ad (Ad.length : Int) 0 a0_0 l0_1) = some (r1,r2):=H;have A29:=A_ Bk;clear Bk;have H':=A_ H;clear H;have Av : 0 ≤ (x38_3 : Int):=of_decide_eq_true (by first|(with_reducible assumption)|assumption);have Aw : x38_3 < (Ac.length : Int):=of_decide_eq_true (by first|(with_reducible assumption)|assumption);obtain ⟨Ax,Bs,Be⟩:=Kd.at_int (Kd.R_reads' HO_36.1).2.2 x38_3 Av Aw;cases Bs
                   replace Av:=eq_true Av;replace Aw:=eq_true Aw;try go_wp2
                   replace HO_25:=A_ (Kd.R_drew HO_25.1);replace HO_36:=A_ (Kd.R_drew HO_36.1);replace Aa:=A_ (blk_drew Aa.1);replace HB:=A_ (below_drew1 HB.1);refine start_ (n:=14) (S:=fun w'=>w'.cell? ⟨Ah,0,none⟩ = some (.int .i64 a0_0) ∧ w'.cell? ⟨Ah,1,none⟩ = some (.slice (some Af) l0_1.length c0_1)) (ds:=[]) #[F,F,F,F,F,F,F,F,F,F,F,F,F,F] (by kernel_rfl) rfl rfl ⟨blk_cell Aa.1 0,blk_cell Aa.1 1⟩ (fun hHeld=>?_);refine with_tabW Aae.tab12 Aae.bits12 (fun HT_ HW_=>?_)
                   generalize wr.drew = w30 at HO_25 HO_36 Aa HB hHeld ⊢
                   refine pu_ (i:=1) (N:=43) #[F,T,F,F,F,F,F,F,F,F,F,F,F,F] HT_.1 rfl rfl (fun _ _ _ h=>h) rfl (h:=?_)
                   refine pu_ (i:=4) (N:=46) #[F,T,F,F,T,F,F,F,F,F,F,F,F,F] HT_.1 rfl rfl (fun _ _ _ h=>h) rfl (h:=?_)
                   refine pu_ (i:=8) (N:=50) #[F,T,F,F,T,F,F,F,T,F,F,F,F,F] HT_.1 rfl rfl (fun _ _ _ h=>h) rfl (h:=?_)
                   refine pu_ (i:=13) (N:=55) #[F,T,F,F,T,F,F,F,T,F,F,F,F,T] HT_.1 rfl rfl (fun _ _ _ h=>h) rfl (h:=?_)
                   refine take_ (i:=0) (N:=some 42) (v:=?_) (a':=?_) #[T,T,F,F,T,F,F,F,T,F,F,F,F,T] rfl rfl (take_ofW HT_.1 HW_.1 (by kernel_rfl)) (fun _ _ _ h=>h) (Or.inl ⟨by rfl,?_⟩) hHeld ?_ ?_
                   rotate_left
                   ·rintro w' ⟨s0,s1⟩
                    go_simp
                    with_reducible rfl
                   rotate_left;·simp only [Act.put,L_,M_,N_,i64_w,i32_w];rfl
                   refine take_ (i:=3) (N:=some 45) (v:=?_) (a':=?_) #[T,T,F,T,T,F,F,F,T,F,F,F,F,T] rfl rfl (take_ofW HT_.1 HW_.1 (by kernel_rfl)) (fun _ _ _ h=>h) (Or.inl ⟨by rfl,?_⟩) hHeld ?_ ?_
                   rotate_left
                   ·rintro w' ⟨s0,s1⟩
                    go_simp
                    with_reducible rfl
                   rotate_left;·simp only [Act.put,L_,M_,N_,i64_w,i32_w];rfl
                   refine take_ (i:=7) (N:=some 49) (v:=?_) (a':=?_) #[T,T,F,T,T,F,F,T,T,F,F,F,F,T] rfl rfl (take_ofW HT_.1 HW_.1 (by kernel_rfl)) (fun _ _ _ h=>h) (Or.inl ⟨by rfl,?_⟩) hHeld ?_ ?_
                   rotate_left
                   ·rintro w' ⟨s0,s1⟩
                    go_simp
                    with_reducible rfl
                   rotate_left;·simp only [Act.put,L_,M_,N_,i64_w,i32_w];rfl
                   refine one_ (i:=2) (N:=some 44) #[T,T,T,T,T,F,F,T,T,F,F,F,F,T] rfl rfl (one_of HT_.1 (by kernel_rfl)) (by decide) (fun K hK=>?_)
                   refine goes_ Tryd.func93 (by kernel_rfl) rfl #[.agg #[.int .i64 a0_0,.slice (some Af) l0_1.length c0_1],.int .i64 x4_1] (by rfl) rfl rfl au_ ?_
                   with_reducible refine (Aa9.calls k3 a0_0 _ _ l0_1 x4_1 Ao _ ?side1 ?side2 A26.1).mono ?_
                   (case side1=>exact cl_ (Kd.C_below HR0_1.1 HB.1))
                   (case side2=>exact HC0_1.1)
                   rintro e w31 ⟨rfl,hb⟩
                   refine ⟨_,rfl,?_⟩
                   replace HO_25:=rb_ HO_25 hb;replace HO_36:=rb_ HO_36 hb;replace Aa:=bz Aa hb;replace HB:=A_ (below_step bb_ hb);(try clear hb);(try clear hb2);(try clear hk);(try clear hi);refine hK.out _ _ ⟨blk_cell Aa.1 0,blk_cell Aa.1 1⟩ (fun hHeld=>?_)
                   clear hK K;refine norm_ (a':=?_) ?_ ?_
                   rotate_left
                   ·show Act.put _ (some 44) _ = _
                    simp only [Act.put,L_,M_,N_,i64_w,i32_w]
                    rfl
                   refine one_ (i:=5) (N:=some 47) #[T,T,T,T,T,T,F,T,T,F,F,F,F,T] rfl rfl (one_of HT_.1 (by kernel_rfl)) (by decide) (fun K hK=>?_)
                   refine goes_ Tryd.func93 (by kernel_rfl) rfl #[.agg #[.int .i64 a0_0,.slice (some Af) l0_1.length c0_1],.int .i64 (rd Ab x27_2)] (by rfl) rfl rfl au_ ?_
                   with_reducible refine (Aa9.calls k3 a0_0 _ _ l0_1 (rd Ab x27_2) Aj _ ?side1 ?side2 A27.1).mono ?_
                   (case side1=>exact cl_ (Kd.C_below HR0_1.1 HB.1))
                   (case side2=>exact HC0_1.1)
                   rintro e w32 ⟨rfl,hb⟩
                   refine ⟨_,rfl,?_⟩
                   replace HO_25:=rb_ HO_25 hb;replace HO_36:=rb_ HO_36 hb;replace Aa:=bz Aa hb;replace HB:=A_ (below_step bb_ hb);(try clear hb);(try clear hb2);(try clear hk);(try clear hi);refine hK.out _ _ ⟨blk_cell Aa.1 0,blk_cell Aa.1 1⟩ (fun hHeld=>?_)
                   clear hK K;refine norm_ (a':=?_) ?_ ?_
                   rotate_left
                   ·show Act.put _ (some 47) _ = _
                    simp only [Act.put,L_,M_,N_,i64_w,i32_w]
                    rfl
                   refine pu_ (i:=6) (N:=48) #[T,T,T,T,T,T,T,T,T,F,F,F,F,T] HT_.1 rfl rfl (fun _ _ _ h=>h) rfl (h:=?_)
                   refine one_ (i:=9) (N:=some 51) #[T,T,T,T,T,T,T,T,T,T,F,F,F,T] rfl rfl (one_of HT_.1 (by kernel_rfl)) (by decide) (fun K hK=>?_)
                   refine goes_ Tryd.func93 (by kernel_rfl) rfl #[.agg #[.int .i64 a0_0,.slice (some Af) l0_1.length c0_1],.int .i64 (rd Ac x38_3)] (by rfl) rfl rfl au_ ?_
                   with_reducible refine (Aa9.calls k3 a0_0 _ _ l0_1 (rd Ac x38_3) Ai _ ?side1 ?side2 A28.1).mono ?_
                   (case side1=>exact cl_ (Kd.C_below HR0_1.1 HB.1))
                   (case side2=>exact HC0_1.1)
                   rintro e w33 ⟨rfl,hb⟩
                   refine ⟨_,rfl,?_⟩
                   replace HO_25:=rb_ HO_25 hb;replace HO_36:=rb_ HO_36 hb;replace Aa:=bz Aa hb;replace HB:=A_ (below_step bb_ hb);(try clear hb);(try clear hb2);(try clear hk);(try clear hi);refine hK.out _ _ ⟨blk_cell Aa.1 0,blk_cell Aa.1 1⟩ (fun hHeld=>?_)
                   clear hK K;refine norm_ (a':=?_) ?_ ?_
                   rotate_left
                   ·show Act.put _ (some 51) _ = _
                    simp only [Act.put,L_,M_,N_,i64_w,i32_w]
                    rfl
                   refine pu_ (i:=10) (N:=52) #[T,T,T,T,T,T,T,T,T,T,T,F,F,T] HT_.1 rfl rfl (fun _ _ _ h=>h) rfl (h:=?_)
                   refine one_ (i:=11) (N:=some 53) #[T,T,T,T,T,T,T,T,T,T,T,T,F,T] rfl rfl (one_of HT_.1 (by kernel_rfl)) (by decide) (fun K hK=>?_)
                   refine goes_ Tryd.func71 (by kernel_rfl) rfl #[.int .i64 (Go.bits .and .i64 (Go.bits .and .i64 Ao Aj) Ai)] (by rfl) rfl rfl au_ ?_
                   with_reducible refine (Aay.calls k3 (Go.bits .and .i64 (Go.bits .and .i64 Ao Aj) Ai) Ad _ A29.1).mono ?_
                   rintro e w34 ⟨B0,rfl,ho0,hb⟩
                   refine ⟨_,rfl,?_⟩
                   have Bc:=A_ (Kd.R_lower (Kd.R_new' (Kd.R_new' ho0 (Kd.R_lt (rl_ HO_25))) (Kd.R_lt (rl_ HO_36))) (below_size bb_));replace HO_25:=A_ (Kd.R_elder' (rl_ HO_25) (Kd.R_base ho0) hb);replace HO_36:=A_ (Kd.R_elder' (rl_ HO_36) (Kd.R_base ho0) hb);replace Aa:=bz Aa hb;replace HB:=A_ (below_step bb_ hb);(try clear hb);(try clear hb2);(try clear hk);(try clear hi);(try clear ho0);obtain ⟨Ao35,co35,eo35⟩:=Kd.R_slice Bc.1;(first|subst eo35|(injection eo35 with f1_ f2_ f3_;have f4_:=f1_.symm;have f5_:=f3_.symm;clear f1_ f2_ f3_;subst f4_;subst f5_))
                   refine hK.out _ _ ⟨blk_cell Aa.1 0,blk_cell Aa.1 1⟩ (fun hHeld=>?_)
                   clear hK K;refine norm_ (a':=?_) ?_ ?_
                   rotate_left
                   ·show Act.put _ (some 53) _ = _
                    simp only [Act.put,L_,M_,N_,i64_w,i32_w]
                    rfl
                   refine pu_ (i:=12) (N:=54) #[T,T,T,T,T,T,T,T,T,T,T,T,T,T] HT_.1 rfl rfl (fun _ _ _ h=>h) rfl (h:=?_)
                   refine done_ (done_of HT_.1 (by kernel_rfl)) ?_
                   try go_wp2
                   go_loopg [55] k3 (fun kq v55 w'=>∃ (x55_4 : Int),v55 = .int .i64 x55_4 ∧ Aside0 (Aae.l3 kq x4_1 (rd Ab x27_2) (rd Ac x38_3) Ab (Ab.length : Int) x27_2 Ac (Ac.length : Int) x38_3 Ad (Ad.length : Int) x55_4 a0_0 l0_1 = some (r1,r2)) ∧ Aside0 (kq ≤ k3) ∧ Aside0 (Kd.R (Kd.int .i64) 3 w' w.heap.size (fun k_=>some k_ ≠ ((.slice (some Ax) Ac.length co22) : Value).ownBlock ∧ some k_ ≠ ((.slice Ao35 Ad.length co35) : Value).ownBlock) (.slice (some Ak) Ab.length co13) Ab) ∧ Aside0 (Kd.R (Kd.int .i64) 3 w' w.heap.size (fun k_=>some k_ ≠ ((.slice (some Ak) Ab.length co13) : Value).ownBlock ∧ some k_ ≠ ((.slice Ao35 Ad.length co35) : Value).ownBlock) (.slice (some Ax) Ac.length co22) Ac) ∧ Aside0 (Kd.R (Kd.int .i64) 3 w' w.heap.size (fun k_=>some k_ ≠ ((.slice (some Ak) Ab.length co13) : Value).ownBlock ∧ some k_ ≠ ((.slice (some Ax) Ac.length co22) : Value).ownBlock) (.slice Ao35 Ad.length co35) Ad) ∧ Aside0 (w'.heap[Ah]? = some (.cells #[.int .i64 a0_0,(.slice (some Af) l0_1.length c0_1)] 26 (0,0))) ∧ Aside0 (Below w.heap.size w w'))
                   case atStart=>exact ⟨(0),(by first|rfl|(simp;done)|(simp [*];done)),H',⟨Nat.le_refl _⟩,⟨rl_ HO_25⟩,⟨rl_ HO_36⟩,⟨rq_ (Kd.R_mono Bc.1 (fun _ hk=>⟨hk.1.2,hk.2⟩))⟩,⟨bl_ Aa⟩,⟨bb_⟩⟩
                   case round =>
                    clear H';try clear c1
                    try clear c2
                    try clear p2
                    try clear c3
                    try clear c7
                    try clear c7b0
                    try clear c8
                    try clear c8b0
                    try clear c9
                    try clear c9b0
                    try clear p9
                    try clear q9
                    try clear hx9
                    try clear c14
                    try clear c14b0
                    try clear c15
                    try clear c15b0
                    try clear c16
                    try clear c16b0
                    try clear c17
                    try clear c17b0
                    try clear c18
                    try clear c18b0
                    try clear c23
                    try clear c23b0
                    try clear c24
                    try clear c24b0
                    try clear c25
                    try clear c25b0
                    repeat clear Z
                    try clear Ae
                    try clear At
                    try clear Ag
                    try clear Be
                    try clear p2
                    try clear p9
                    try clear Am
                    try clear Ap
                    try clear Ar
                    try clear Av
                    try clear q9
                    try clear An
                    try clear Aq
                    try clear As
                    try clear Aw
                    obtain ⟨x55_4,rfl,HA,HK4,HO_25,HO_36,HO_53,Aa,HB⟩:=hrel;cases gk with
                    | zero=>exact absurd HA.1 (by simp [Aae.l3])
                    | succ k4 =>
                     have H:=HA.1;clear HA;simp only [Aae.l3] at H
                     by_cases c36 : x55_4 < (Ad.length : Int)
                     ·rw [if_pos c36] at H;have c36b0 : decide (x55_4 < (Ad.length : Int)) = true:=decide_eq_true c36;clear c36;by_cases c37 : 0 ≤ x55_4
                      ·rw [if_pos c37] at H;have c37b0 : decide (0 ≤ x55_4) = true:=decide_eq_true c37;clear c37;by_cases c38 : x55_4 < (Ad.length : Int)
                       ·rw [if_pos c38] at H;have c38b0 : decide (x55_4 < (Ad.length : Int)) = true:=decide_eq_true c38;clear c38;obtain ⟨Bt,Al⟩ : ∃ y_ : List Int,y_ = (([x4_1,(rd Ab x27_2),(rd Ac x38_3),rd Ad x55_4] : List Int)):=⟨_,rfl⟩;replace H : (some (Bt,true)) = some (r1,r2):=by first|(rw [Al];with_reducible exact H)|(have H2_:=(Option.bind_some _ _).symm.trans H;rw [Al];with_reducible exact H2_)|(have H2_:=(Option.bind_some _ _).symm.trans H;with_reducible exact H2_)|with_reducible exact H|(rw [Al];exact H)|exact H
                        have Bd:=A_ Al;clear Al;simp only [Option.some.injEq,Prod.mk.injEq] at H
                        obtain ⟨rfl,rfl⟩:=H;have Ay : 0 ≤ (x55_4 : Int):=of_decide_eq_true (by first|(with_reducible assumption)|assumption);have Az : x55_4 < (Ad.length : Int):=of_decide_eq_true (by first|(with_reducible assumption)|assumption);obtain ⟨Bw,Bu,Bv⟩:=Kd.at_int (Kd.R_reads' HO_53.1).2.2 x55_4 Ay Az;cases Bu
                        replace Ay:=eq_true Ay;replace Az:=eq_true Az;go_wp2_with (first|((with_reducible refine gate_dst (N:=63) rfl ?_);refine Kd.R_lit (Kd.int .i64) _ 3 ?hg (N:=63) ?hd (xs:=([x4_1,(rd Ab x27_2),(rd Ac x38_3),rd Ad x55_4] : List Int)) (inner:=[.int .i64 x4_1,.int .i64 (rd Ab x27_2),.int .i64 (rd Ac x38_3),.int .i64 (rd Ad x55_4)]) (ok:=fun _=>True) (okp:=fun _=>True) ?hr ?hp (fun _ hk=>hk) trivial (Below.refl _ _) (Nat.le_refl _) (by simp) ?_;(case hd=>rfl);(case hg=>rfl);(case hr=>go_simp;try rfl);(case hp=>exact (Reps.one (show Kd.M (Kd.int .i64) _ _ _ x4_1 [.int .i64 x4_1] from rfl) (Reps.one (show Kd.M (Kd.int .i64) _ _ _ (rd Ab x27_2) [.int .i64 (rd Ab x27_2)] from rfl) (Reps.one (show Kd.M (Kd.int .i64) _ _ _ (rd Ac x38_3) [.int .i64 (rd Ac x38_3)] from rfl) (Reps.one (show Kd.M (Kd.int .i64) _ _ _ (rd Ad x55_4) [.int .i64 (rd Ad x55_4)] from rfl) (Reps.none _ _))))));intro B2 w39 ho40 hb hg_ hnew_;clear hg_ hnew_;(first|rw [← Bd.1] at ho40|(simp only [Int.reduceToNat] at ho40;rw [← Bd.1] at ho40));have Bo:=A_ (Kd.R_lower (Kd.R_new' (Kd.R_new' (Kd.R_new' ho40 (Kd.R_lt (rl_ HO_25))) (Kd.R_lt (rl_ HO_36))) (Kd.R_lt (rl_ HO_53))) (below_size bb_));replace HO_25:=A_ (Kd.R_elder' (rl_ HO_25) (Kd.R_base ho40) hb);replace HO_36:=A_ (Kd.R_elder' (rl_ HO_36) (Kd.R_base ho40) hb);replace HO_53:=A_ (Kd.R_elder' (rl_ HO_53) (Kd.R_base ho40) hb);replace Aa:=bz Aa hb;replace HB:=A_ (below_step bb_ hb);clear hb ho40))
                        go_ret2
                        exact ⟨_,by first|rfl|(simp [errW_none,errW_some] <;> rfl)|(simp [*,errW_none,errW_some] <;> rfl),rq_ (Kd.R_mono Bo.1 (fun _ hk=>trivial)),bb_⟩
                       ·rw [if_neg c38] at H;exact absurd H (by simp)
                      ·rw [if_neg c37] at H;exact absurd H (by simp)
                     ·rw [if_neg c36] at H;have c36b0 : decide (x55_4 < (Ad.length : Int)) = false:=decide_eq_false c36;clear c36;have H':=A_ H;clear H;go_wp2
                      go_roundg k4
                      case measure=>have:=HK1.1;have:=HK2.1;have:=HK3.1;have:=HK4.1;omega
                      case rel=>exact ⟨(wrap64 (x38_3 + 1)),(by first|rfl|(simp;done)|(simp [*];done)),H',⟨by have:=HK1.1;have:=HK2.1;have:=HK3.1;have:=HK4.1;omega⟩,⟨rq_ (Kd.R_mono HO_25.1 (fun _ hk=>hk.1))⟩,⟨rq_ (Kd.R_mono HO_36.1 (fun _ hk=>hk.1))⟩,⟨bl_ Aa⟩,⟨bb_⟩⟩
                  ·rw [if_neg c25] at H;exact absurd H (by simp)
                 ·rw [if_neg c24] at H;exact absurd H (by simp)
                ·rw [if_neg c23] at H;have c23b0 : decide (x38_3 < (Ac.length : Int)) = false:=decide_eq_false c23;clear c23;have H':=A_ H;clear H;go_wp2
                 go_roundg k3
                 case measure=>have:=HK1.1;have:=HK2.1;have:=HK3.1;omega
                 case rel=>exact ⟨(wrap64 (x27_2 + 1)),(by first|rfl|(simp;done)|(simp [*];done)),H',⟨by have:=HK1.1;have:=HK2.1;have:=HK3.1;omega⟩,⟨rq_ (Kd.R_mono HO_25.1 (fun _ hk=>trivial))⟩,⟨bl_ Aa⟩,⟨bb_⟩⟩
             ·rw [if_neg c18] at H;exact absurd H (by simp)
            ·rw [if_neg c17] at H;exact absurd H (by simp)
           ·rw [if_neg c16] at H;exact absurd H (by simp)
          ·rw [if_neg c15] at H;exact absurd H (by simp)
         ·rw [if_neg c14] at H;have c14b0 : decide (x27_2 < (Ab.length : Int)) = false:=decide_eq_false c14;clear c14;have H':=A_ H;clear H;go_wp2
          go_roundg k2
          case measure=>have:=HK1.1;have:=HK2.1;omega
          case rel=>exact ⟨(wrap64 (x4_1 + 1)),(by first|rfl|(simp;done)|(simp [*];done)),H',⟨by have:=HK1.1;have:=HK2.1;omega⟩,⟨bl_ Aa⟩,⟨bb_⟩⟩
      ·rw [if_neg c9] at H;exact absurd H (by simp)
     ·rw [if_neg c8] at H;exact absurd H (by simp)
    ·rw [if_neg c7] at H;have c7b0 : decide (x4_1 < a0_0) = false:=decide_eq_false c7;clear c7;simp only [Option.some.injEq,Prod.mk.injEq] at H
     obtain ⟨rfl,rfl⟩:=H;obtain ⟨Z,Z,Z,Z⟩:=o2_ Aa.1;go_wp2
     go_ret2
     exact ⟨_,by first|rfl|(simp [errW_none,errW_some] <;> rfl)|(simp [*,errW_none,errW_some] <;> rfl),by first|exact Kd.R_nil _ _ _ _ _|exact Kd.N_nil _ _ _ _ _|exact Kd.V_nil _ _ _ _ _|exact Kd.Q_nil _ _ _ _ _|exact Kd.S_nil _ _ _ _ _,bb_⟩
 ·replace c3:=Bool.eq_false_iff.mpr c3;subst c3;have H1 : (some (([] : List Int),false)) = some (r1,r2):=by rw [if_neg (show ¬ (false = true) by decide)] at H;exact H
  clear H;have H:=H1;clear H1;simp only [Option.some.injEq,Prod.mk.injEq] at H
  obtain ⟨rfl,rfl⟩:=H;go_enter Tryd.func36,Tryd.ntmps36
  go_wp2_with (first|((with_reducible refine gate_dst (N:=1) rfl ?_);refine box_event ?hg (N:=1) ?hd (cs:=#[.int .i64 a0_0,.slice A0_1 l0_1.length c0_1]) (t:=26) ?hr ?_;(case hd=>rfl);(case hg=>rfl);(case hr=>go_simp;try rfl);intro Ah hg w42 hbox hb;have Aa:=A_ (hbox);have Bl:=A_ (gw_ (w:=w) hg bb_);have Bm:=A_ (gw_ (w:=w) hg bb_);replace HB:=A_ (below_step bb_ hb);clear hb hbox hg;obtain ⟨Z,Z,Z,Z⟩:=o2_ Aa.1)|((with_reducible refine gate_callee (f:=70) rfl ?_);refine goesL_ (some 12) rfl rfl Tryd.func70 (by kernel_rfl) rfl #[.agg #[.int .i64 a0_0,.slice A0_1 l0_1.length c0_1]] rfl au_ ?_;(with_reducible refine (Aas.calls k a0_0 _ _ l0_1 false _ ?side1 ?side2 A2.1).mono ?_);(case side1=>exact cl_ (Kd.C_below HR0_1.1 HB.1));(case side2=>exact HC0_1.1);rintro e w44 ⟨rfl,hb⟩;refine ⟨_,rfl,?_⟩;replace Aa:=bz Aa hb;replace HB:=A_ (below_step bb_ hb);(try clear hb);(try clear hb2);(try clear hk);(try clear hi)))
  go_ret2
  exact ⟨_,by first|rfl|(simp [errW_none,errW_some] <;> rfl)|(simp [*,errW_none,errW_some] <;> rfl),by first|exact Kd.R_nil _ _ _ _ _|exact Kd.N_nil _ _ _ _ _|exact Kd.V_nil _ _ _ _ _|exact Kd.Q_nil _ _ _ _ _|exact Kd.S_nil _ _ _ _ _,bb_⟩
mutual
def Aaq.l0 : Nat → Int → Int → List Int → Option (Bool)
 | 0,_,_,_=>none
 | k + 1,x3,x935000,x935001=>if x3 < x935000 then (if 0 ≤ x3 then (if x3 < (x935001.length : Int) then ((Aay.f k (rd x935001 x3)).bind fun t936=>(Aaq.l1 k x3 t936 (t936.length : Int) 0 x935000 x935001)) else (none)) else (none)) else (some false)
def Aaq.l1 : Nat → Int → List Int → Int → Int → Int → List Int → Option (Bool)
 | 0,_,_,_,_,_,_=>none
 | k + 1,x3,x20,x21,x22,x935000,x935001=>if x22 < x21 then (if 0 ≤ x22 then (if x22 < (x20.length : Int) then (Aaq.l2 k x3 (rd x20 x22) 0 x20 x21 x22 x935000 x935001) else (none)) else (none)) else (Aaq.l0 k (wrap64 (x3 + 1)) x935000 x935001)
def Aaq.l2 : Nat → Int → Int → Int → List Int → Int → Int → Int → List Int → Option (Bool)
 | 0,_,_,_,_,_,_,_,_=>none
 | k + 1,x3,x5,x6,x20,x21,x22,x935000,x935001=>if x6 < x935000 then (if 0 ≤ x6 then (if x6 < (x935001.length : Int) then ((Aay.f k (rd x935001 x6)).bind fun t941=>(Aaq.l3 k x3 x5 x6 x20 x21 x22 t941 (t941.length : Int) 0 x935000 x935001)) else (none)) else (none)) else (Aaq.l1 k x3 x20 x21 (wrap64 (x22 + 1)) x935000 x935001)
def Aaq.l3 : Nat → Int → Int → Int → List Int → Int → Int → List Int → Int → Int → Int → List Int → Option (Bool)
 | 0,_,_,_,_,_,_,_,_,_,_,_=>none
 | k + 1,x3,x5,x6,x20,x21,x22,x37,x38,x39,x935000,x935001=>if x39 < x38 then (if 0 ≤ x39 then (if x39 < (x37.length : Int) then ((Aa3.f k x935000 x935001 x3 (rd x37 x39)).bind fun t945=>(if t945 = true then ((Aa3.f k x935000 x935001 x6 x5).bind fun t946=>(if t946 = true then (some true) else (Aaq.l3 k x3 x5 x6 x20 x21 x22 x37 x38 (wrap64 (x39 + 1)) x935000 x935001))) else (Aaq.l3 k x3 x5 x6 x20 x21 x22 x37 x38 (wrap64 (x39 + 1)) x935000 x935001))) else (none)) else (none)) else (Aaq.l2 k x3 x5 (wrap64 (x6 + 1)) x20 x21 x22 x935000 x935001)
end
def Aaq.f (k : Nat) (a0_0 : Int) (l0_1 : List Int) : Option (Bool) := Aaq.l0 k 0 a0_0 l0_1
set_option maxHeartbeats 8000000 in
set_option maxRecDepth 100000 in
theorem Aaq.calls (k : Nat) (a0_0 : Int) (A0_1 : Option Addr) (c0_1 : Nat) (l0_1 : List Int) (r : Bool) (w : World) (hr0_1 : Kd.C (Kd.int .i64) w A0_1 l0_1.length l0_1) (hc0_1 : l0_1.length ≤ c0_1) (h : Aaq.f k a0_0 l0_1 = some r) :
 Calls Tryd.prog 134 #[.agg #[.int .i64 a0_0,.slice A0_1 l0_1.length c0_1]] w fun e w'=>e = .returned (.bool r) ∧ Below w.heap.size w w':=by
 have hu26:=Tryd.underlying26;have HR0_1:=A_ hr0_1;have HC0_1:=A_ hc0_1;clear hr0_1 hc0_1;have HB:=A_ (Below.refl w.heap.size w);have H : (Aaq.l0 k 0 a0_0 l0_1) = some r:=h;clear h;have H':=A_ H;clear H;go_enter Tryd.func134,Tryd.ntmps134
 go_wp2_with (first|((with_reducible refine gate_dst (N:=1) rfl ?_);refine box_event ?hg (N:=1) ?hd (cs:=#[.int .i64 a0_0,.slice A0_1 l0_1.length c0_1]) (t:=26) ?hr ?_;(case hd=>rfl);(case hg=>rfl);(case hr=>go_simp;try rfl);intro Ak hg w2 hbox hb;have Aa:=A_ (hbox);have Bf:=A_ (gw_ (w:=w) hg bb_);have Bg:=A_ (gw_ (w:=w) hg bb_);replace HB:=A_ (below_step bb_ hb);clear hb hbox hg))
 go_loopg [3] k (fun kq v3 w'=>∃ (x3_1 : Int),v3 = .int .i64 x3_1 ∧ Aside0 (Aaq.l0 kq x3_1 a0_0 l0_1 = some r) ∧ Aside0 (kq ≤ k) ∧ Aside0 (w'.heap[Ak]? = some (.cells #[.int .i64 a0_0,(.slice A0_1 l0_1.length c0_1)] 26 (0,0))) ∧ Aside0 (Below w.heap.size w w'))
 case atStart=>exact ⟨(0),(by first|rfl|(simp;done)|(simp [*];done)),H',⟨Nat.le_refl _⟩,⟨bl_ Aa⟩,⟨bb_⟩⟩
 case round =>
  clear H';try clear c1
  try clear p2
  obtain ⟨x3_1,rfl,HA,HK1,Aa,HB⟩:=hrel;cases gk with
  | zero => exact absurd HA.1 (by simp [Aaq.l0])
  | succ k1 =>
   have H:=HA.1;clear HA;simp only [Aaq.l0] at H
   by_cases c3 : x3_1 < a0_0
   ·rw [if_pos c3] at H;have c3b0 : decide (x3_1 < a0_0) = true:=decide_eq_true c3;clear c3;by_cases c4 : 0 ≤ x3_1
    ·rw [if_pos c4] at H;have c4b0 : decide (0 ≤ x3_1) = true:=decide_eq_true c4;clear c4;by_cases c5 : x3_1 < (l0_1.length : Int)
     ·rw [if_pos c5] at H;have c5b0 : decide (x3_1 < (l0_1.length : Int)) = true:=decide_eq_true c5;clear c5;replace H:=Option.bind_eq_some_iff.mp H;obtain ⟨Ab,A60,H⟩:=H;(try dsimp only at H);have A6:=A_ A60;clear A60;have H':=A_ H;clear H;obtain ⟨Z,Z,Z,Z⟩:=o2_ Aa.1;have Ai : 0 ≤ (x3_1 : Int):=of_decide_eq_true (by first|(with_reducible assumption)|assumption);have Aj : x3_1 < (l0_1.length : Int):=of_decide_eq_true (by first|(with_reducible assumption)|assumption);obtain ⟨Ag,Ba,Ad⟩:=Kd.at_int HR0_1.1 x3_1 Ai Aj;cases Ba
      (try replace Ad:=(HB.1.cell (World.block_lt_of_cell? w _ Ad)).trans Ad);replace Ai:=eq_true Ai;replace Aj:=eq_true Aj;go_wp2_with (first|((with_reducible refine gate_callee (f:=71) rfl ?_);refine goesL_ (some 20) rfl rfl Tryd.func71 (by kernel_rfl) rfl #[.int .i64 (rd l0_1 x3_1)] rfl au_ ?_;(with_reducible refine (Aay.calls k1 (rd l0_1 x3_1) Ab _ A6.1).mono ?_);rintro e w8 ⟨Bh,rfl,ho0,hb⟩;refine ⟨_,rfl,?_⟩;have At:=A_ (Kd.R_lower ho0 (below_size bb_));replace Aa:=bz Aa hb;replace HB:=A_ (below_step bb_ hb);(try clear hb);(try clear hb2);(try clear hk);(try clear hi);(try clear ho0);obtain ⟨Ao9,co9,eo9⟩:=Kd.R_slice At.1;subst eo9))
      go_loopg [22] k1 (fun kq v22 w'=>∃ (x22_2 : Int),v22 = .int .i64 x22_2 ∧ Aside0 (Aaq.l1 kq x3_1 Ab (Ab.length : Int) x22_2 a0_0 l0_1 = some r) ∧ Aside0 (kq ≤ k1) ∧ Aside0 (Kd.R (Kd.int .i64) 3 w' w.heap.size (fun _=>True) (.slice Ao9 Ab.length co9) Ab) ∧ Aside0 (w'.heap[Ak]? = some (.cells #[.int .i64 a0_0,(.slice (some Ag) l0_1.length c0_1)] 26 (0,0))) ∧ Aside0 (Below w.heap.size w w'))
      case atStart=>exact ⟨(0),(by first|rfl|(simp;done)|(simp [*];done)),H',⟨Nat.le_refl _⟩,⟨rl_ At⟩,⟨bl_ Aa⟩,⟨bb_⟩⟩
      case round =>
       clear H';try clear c1
       try clear p2
       try clear c3
       try clear c3b0
       try clear c4
       try clear c4b0
       try clear c5
       try clear c5b0
       try clear c7
       try clear p9
       try clear q9
       try clear hx9
       repeat clear Z
       try clear Ad
       try clear p2
       try clear Ai
       try clear Aj
       obtain ⟨x22_2,rfl,HA,HK2,HO_20,Aa,HB⟩:=hrel;cases gk with
       | zero=>exact absurd HA.1 (by simp [Aaq.l1])
       | succ k2 =>
        have H:=HA.1;clear HA;simp only [Aaq.l1] at H
        by_cases c10 : x22_2 < (Ab.length : Int)
        ·rw [if_pos c10] at H;have c10b0 : decide (x22_2 < (Ab.length : Int)) = true:=decide_eq_true c10;clear c10;by_cases c11 : 0 ≤ x22_2
         ·rw [if_pos c11] at H;have c11b0 : decide (0 ≤ x22_2) = true:=decide_eq_true c11;clear c11;by_cases c12 : x22_2 < (Ab.length : Int)
          ·rw [if_pos c12] at H;have c12b0 : decide (x22_2 < (Ab.length : Int)) = true:=decide_eq_true c12;clear c12;have H':=A_ H;clear H;have Al : 0 ≤ (x22_2 : Int):=of_decide_eq_true (by first|(with_reducible assumption)|assumption);have Am : x22_2 < (Ab.length : Int):=of_decide_eq_true (by first|(with_reducible assumption)|assumption);obtain ⟨Aq,Bb,Ao⟩:=Kd.at_int (Kd.R_reads' HO_20.1).2.2 x22_2 Al Am;cases Bb
           replace Al:=eq_true Al;replace Am:=eq_true Am;go_wp2
           go_loopg [6] k2 (fun kq v6 w'=>∃ (x6_3 : Int),v6 = .int .i64 x6_3 ∧ Aside0 (Aaq.l2 kq x3_1 (rd Ab x22_2) x6_3 Ab (Ab.length : Int) x22_2 a0_0 l0_1 = some r) ∧ Aside0 (kq ≤ k2) ∧ Aside0 (Kd.R (Kd.int .i64) 3 w' w.heap.size (fun _=>True) (.slice (some Aq) Ab.length co9) Ab) ∧ Aside0 (w'.heap[Ak]? = some (.cells #[.int .i64 a0_0,(.slice (some Ag) l0_1.length c0_1)] 26 (0,0))) ∧ Aside0 (Below w.heap.size w w'))
           case atStart=>exact ⟨(0),(by first|rfl|(simp;done)|(simp [*];done)),H',⟨Nat.le_refl _⟩,⟨rl_ HO_20⟩,⟨bl_ Aa⟩,⟨bb_⟩⟩
           case round =>
            clear H';try clear c1
            try clear p2
            try clear c3
            try clear c3b0
            try clear c4
            try clear c4b0
            try clear c5
            try clear c5b0
            try clear c7
            try clear p9
            try clear q9
            try clear hx9
            try clear c10
            try clear c10b0
            try clear c11
            try clear c11b0
            try clear c12
            try clear c12b0
            repeat clear Z
            try clear Ad
            try clear Ao
            try clear p2
            try clear p9
            try clear Ai
            try clear Al
            try clear q9
            try clear Aj
            try clear Am
            obtain ⟨x6_3,rfl,HA,HK3,HO_20,Aa,HB⟩:=hrel;cases gk with
            | zero=>exact absurd HA.1 (by simp [Aaq.l2])
            | succ k3 =>
             have H:=HA.1;clear HA;simp only [Aaq.l2] at H
             by_cases c13 : x6_3 < a0_0
             ·rw [if_pos c13] at H;have c13b0 : decide (x6_3 < a0_0) = true:=decide_eq_true c13;clear c13;by_cases c14 : 0 ≤ x6_3
              ·rw [if_pos c14] at H;have c14b0 : decide (0 ≤ x6_3) = true:=decide_eq_true c14;clear c14;by_cases c15 : x6_3 < (l0_1.length : Int)
               ·rw [if_pos c15] at H;have c15b0 : decide (x6_3 < (l0_1.length : Int)) = true:=decide_eq_true c15;clear c15;replace H:=Option.bind_eq_some_iff.mp H;obtain ⟨Ac,Aw,H⟩:=H;(try dsimp only at H);have A16:=A_ Aw;clear Aw;have H':=A_ H;clear H;obtain ⟨Z,Z,Z,Z⟩:=o2_ Aa.1;have Ar : 0 ≤ (x6_3 : Int):=of_decide_eq_true (by first|(with_reducible assumption)|assumption);have As : x6_3 < (l0_1.length : Int):=of_decide_eq_true (by first|(with_reducible assumption)|assumption);obtain ⟨Az,Bc,Ah⟩:=Kd.at_int HR0_1.1 x6_3 Ar As;obtain rfl : Ag = Az:=(by injection Bc);(try replace Ah:=(HB.1.cell (World.block_lt_of_cell? w _ Ah)).trans Ah);replace Ar:=eq_true Ar;replace As:=eq_true As;go_wp2_with (first|((with_reducible refine gate_callee (f:=71) rfl ?_);refine goesL_ (some 37) rfl rfl Tryd.func71 (by kernel_rfl) rfl #[.int .i64 (rd l0_1 x6_3)] rfl au_ ?_;(with_reducible refine (Aay.calls k3 (rd l0_1 x6_3) Ac _ A16.1).mono ?_);rintro e w18 ⟨Bi,rfl,ho0,hb⟩;refine ⟨_,rfl,?_⟩;have Au:=A_ (Kd.R_lower (Kd.R_new' ho0 (Kd.R_lt (rl_ HO_20))) (below_size bb_));replace HO_20:=A_ (Kd.R_elder' (rl_ HO_20) (Kd.R_base ho0) hb);replace Aa:=bz Aa hb;replace HB:=A_ (below_step bb_ hb);(try clear hb);(try clear hb2);(try clear hk);(try clear hi);(try clear ho0);obtain ⟨Ao19,co19,eo19⟩:=Kd.R_slice Au.1;subst eo19))
                go_loopg [39] k3 (fun kq v39 w'=>∃ (x39_4 : Int),v39 = .int .i64 x39_4 ∧ Aside0 (Aaq.l3 kq x3_1 (rd Ab x22_2) x6_3 Ab (Ab.length : Int) x22_2 Ac (Ac.length : Int) x39_4 a0_0 l0_1 = some r) ∧ Aside0 (kq ≤ k3) ∧ Aside0 (Kd.R (Kd.int .i64) 3 w' w.heap.size (fun k_=>some k_ ≠ ((.slice Ao19 Ac.length co19) : Value).ownBlock) (.slice (some Aq) Ab.length co9) Ab) ∧ Aside0 (Kd.R (Kd.int .i64) 3 w' w.heap.size (fun k_=>some k_ ≠ ((.slice (some Aq) Ab.length co9) : Value).ownBlock) (.slice Ao19 Ac.length co19) Ac) ∧ Aside0 (w'.heap[Ak]? = some (.cells #[.int .i64 a0_0,(.slice (some Ag) l0_1.length c0_1)] 26 (0,0))) ∧ Aside0 (Below w.heap.size w w'))
                case atStart=>exact ⟨(0),(by first|rfl|(simp;done)|(simp [*];done)),H',⟨Nat.le_refl _⟩,⟨rq_ (Kd.R_mono HO_20.1 (fun _ hk=>hk.2))⟩,⟨rq_ (Kd.R_mono Au.1 (fun _ hk=>hk.2))⟩,⟨bl_ Aa⟩,⟨bb_⟩⟩
                case round =>
                 clear H';try clear c1
                 try clear p2
                 try clear c3
                 try clear c3b0
                 try clear c4
                 try clear c4b0
                 try clear c5
                 try clear c5b0
                 try clear c7
                 try clear p9
                 try clear q9
                 try clear hx9
                 try clear c10
                 try clear c10b0
                 try clear c11
                 try clear c11b0
                 try clear c12
                 try clear c12b0
                 try clear c13
                 try clear c13b0
                 try clear c14
                 try clear c14b0
                 try clear c15
                 try clear c15b0
                 repeat clear Z
                 try clear Ad
                 try clear Ao
                 try clear Ah
                 try clear p2
                 try clear p9
                 try clear Ai
                 try clear Al
                 try clear Ar
                 try clear q9
                 try clear Aj
                 try clear Am
                 try clear As
                 obtain ⟨x39_4,rfl,HA,HK4,HO_20,HO_37,Aa,HB⟩:=hrel;cases gk with
                 | zero=>exact absurd HA.1 (by simp [Aaq.l3])
                 | succ k4 =>
                  have H:=HA.1;clear HA;simp only [Aaq.l3] at H
                  by_cases c20 : x39_4 < (Ac.length : Int)
                  ·rw [if_pos c20] at H;have c20b0 : decide (x39_4 < (Ac.length : Int)) = true:=decide_eq_true c20;clear c20;by_cases c21 : 0 ≤ x39_4
                   ·rw [if_pos c21] at H;have c21b0 : decide (0 ≤ x39_4) = true:=decide_eq_true c21;clear c21;by_cases c22 : x39_4 < (Ac.length : Int)
                    ·rw [if_pos c22] at H;have c22b0 : decide (x39_4 < (Ac.length : Int)) = true:=decide_eq_true c22;clear c22;replace H:=Option.bind_eq_some_iff.mp H;obtain ⟨Bd,Ax,H⟩:=H;(try dsimp only at H);have A23:=A_ Ax;clear Ax;by_cases c24 : Bd = true
                     ·subst c24;rw [if_pos rfl] at H;replace H:=Option.bind_eq_some_iff.mp H;obtain ⟨Be,Ay,H⟩:=H;(try dsimp only at H);have A25:=A_ Ay;clear Ay;by_cases c26 : Be = true
                      ·subst c26;rw [if_pos rfl] at H;obtain rfl:=Option.some.inj H;have Ae : 0 ≤ (x39_4 : Int):=of_decide_eq_true (by first|(with_reducible assumption)|assumption);have Af : x39_4 < (Ac.length : Int):=of_decide_eq_true (by first|(with_reducible assumption)|assumption);obtain ⟨Av,An,Ap⟩:=Kd.at_int (Kd.R_reads' HO_37.1).2.2 x39_4 Ae Af;cases An
                       replace Ae:=eq_true Ae;replace Af:=eq_true Af;obtain ⟨Z,Z,Z,Z⟩:=o2_ Aa.1;go_wp2_with (first|((with_reducible refine gate_callee (f:=151) rfl ?_);refine goesL_ (some 46) rfl rfl Tryd.func151 (by kernel_rfl) rfl #[.agg #[.int .i64 a0_0,.slice (some Ag) l0_1.length c0_1],.int .i64 x3_1,.int .i64 (rd Ac x39_4)] rfl au_ ?_;(with_reducible refine (Aa3.calls k4 a0_0 _ _ l0_1 x3_1 (rd Ac x39_4) true _ ?side1 ?side2 A23.1).mono ?_);(case side1=>exact cl_ (Kd.C_below HR0_1.1 HB.1));(case side2=>exact HC0_1.1);rintro e w28 ⟨rfl,hb⟩;refine ⟨_,rfl,?_⟩;replace HO_20:=rb_ HO_20 hb;replace HO_37:=rb_ HO_37 hb;replace Aa:=bz Aa hb;replace HB:=A_ (below_step bb_ hb);(try clear hb);(try clear hb2);(try clear hk);(try clear hi);obtain ⟨Z,Z,Z,Z⟩:=o2_ Aa.1)|(go_at_call 151;(with_reducible refine (Aa3.calls k4 a0_0 _ _ l0_1 x6_3 (rd Ab x22_2) true _ ?side1 ?side2 A25.1).mono ?_);(case side1=>exact cl_ (Kd.C_below HR0_1.1 HB.1));(case side2=>exact HC0_1.1);rintro e w30 ⟨rfl,hb⟩;replace HO_20:=rb_ HO_20 hb;replace HO_37:=rb_ HO_37 hb;replace Aa:=bz Aa hb;replace HB:=A_ (below_step bb_ hb);(try clear hb);(try clear hb2);(try clear hk);(try clear hi)))
                       go_ret
                       exact ⟨by first|rfl|(simp [errW_none,errW_some] <;> rfl)|(simp [*,errW_none,errW_some] <;> rfl),bb_⟩
                      ·replace c26:=Bool.eq_false_iff.mpr c26;subst c26;rw [if_neg nf_] at H;have H':=A_ H;clear H;have Ae : 0 ≤ (x39_4 : Int):=of_decide_eq_true (by first|(with_reducible assumption)|assumption);have Af : x39_4 < (Ac.length : Int):=of_decide_eq_true (by first|(with_reducible assumption)|assumption);obtain ⟨Av,An,Ap⟩:=Kd.at_int (Kd.R_reads' HO_37.1).2.2 x39_4 Ae Af;cases An
                       replace Ae:=eq_true Ae;replace Af:=eq_true Af;obtain ⟨Z,Z,Z,Z⟩:=o2_ Aa.1;go_wp2_with (first|((with_reducible refine gate_callee (f:=151) rfl ?_);refine goesL_ (some 46) rfl rfl Tryd.func151 (by kernel_rfl) rfl #[.agg #[.int .i64 a0_0,.slice (some Ag) l0_1.length c0_1],.int .i64 x3_1,.int .i64 (rd Ac x39_4)] rfl au_ ?_;(with_reducible refine (Aa3.calls k4 a0_0 _ _ l0_1 x3_1 (rd Ac x39_4) true _ ?side1 ?side2 A23.1).mono ?_);(case side1=>exact cl_ (Kd.C_below HR0_1.1 HB.1));(case side2=>exact HC0_1.1);rintro e w32 ⟨rfl,hb⟩;refine ⟨_,rfl,?_⟩;replace HO_20:=rb_ HO_20 hb;replace HO_37:=rb_ HO_37 hb;replace Aa:=bz Aa hb;replace HB:=A_ (below_step bb_ hb);(try clear hb);(try clear hb2);(try clear hk);(try clear hi);obtain ⟨Z,Z,Z,Z⟩:=o2_ Aa.1)|(go_at_call 151;(with_reducible refine (Aa3.calls k4 a0_0 _ _ l0_1 x6_3 (rd Ab x22_2) false _ ?side1 ?side2 A25.1).mono ?_);(case side1=>exact cl_ (Kd.C_below HR0_1.1 HB.1));(case side2=>exact HC0_1.1);rintro e w34 ⟨rfl,hb⟩;replace HO_20:=rb_ HO_20 hb;replace HO_37:=rb_ HO_37 hb;replace Aa:=bz Aa hb;replace HB:=A_ (below_step bb_ hb);(try clear hb);(try clear hb2);(try clear hk);(try clear hi)))
                       go_roundg k4
                       case measure=>have:=HK1.1;have:=HK2.1;have:=HK3.1;have:=HK4.1;omega
                       case rel=>exact ⟨(wrap64 (x39_4 + 1)),(by first|rfl|(simp;done)|(simp [*];done)),H',⟨by have:=HK1.1;have:=HK2.1;have:=HK3.1;have:=HK4.1;omega⟩,⟨rl_ HO_20⟩,⟨rl_ HO_37⟩,⟨bl_ Aa⟩,⟨bb_⟩⟩
                     ·replace c24:=Bool.eq_false_iff.mpr c24;subst c24;rw [if_neg nf_] at H;have H':=A_ H;clear H;have Ae : 0 ≤ (x39_4 : Int):=of_decide_eq_true (by first|(with_reducible assumption)|assumption);have Af : x39_4 < (Ac.length : Int):=of_decide_eq_true (by first|(with_reducible assumption)|assumption);obtain ⟨Av,An,Ap⟩:=Kd.at_int (Kd.R_reads' HO_37.1).2.2 x39_4 Ae Af;cases An
                      replace Ae:=eq_true Ae;replace Af:=eq_true Af;obtain ⟨Z,Z,Z,Z⟩:=o2_ Aa.1;go_wp2_with (first|((with_reducible refine gate_callee (f:=151) rfl ?_);refine goesL_ (some 46) rfl rfl Tryd.func151 (by kernel_rfl) rfl #[.agg #[.int .i64 a0_0,.slice (some Ag) l0_1.length c0_1],.int .i64 x3_1,.int .i64 (rd Ac x39_4)] rfl au_ ?_;(with_reducible refine (Aa3.calls k4 a0_0 _ _ l0_1 x3_1 (rd Ac x39_4) false _ ?side1 ?side2 A23.1).mono ?_);(case side1=>exact cl_ (Kd.C_below HR0_1.1 HB.1));(case side2=>exact HC0_1.1);rintro e w36 ⟨rfl,hb⟩;refine ⟨_,rfl,?_⟩;replace HO_20:=rb_ HO_20 hb;replace HO_37:=rb_ HO_37 hb;replace Aa:=bz Aa hb;replace HB:=A_ (below_step bb_ hb);(try clear hb);(try clear hb2);(try clear hk);(try clear hi)))
                      go_roundg k4
                      case measure=>have:=HK1.1;have:=HK2.1;have:=HK3.1;have:=HK4.1;omega
                      case rel=>exact ⟨(wrap64 (x39_4 + 1)),(by first|rfl|(simp;done)|(simp [*];done)),H',⟨by have:=HK1.1;have:=HK2.1;have:=HK3.1;have:=HK4.1;omega⟩,⟨rl_ HO_20⟩,⟨rl_ HO_37⟩,⟨bl_ Aa⟩,⟨bb_⟩⟩
                    ·rw [if_neg c22] at H;exact absurd H (by simp)
                   ·rw [if_neg c21] at H;exact absurd H (by simp)
                  ·rw [if_neg c20] at H;have c20b0 : decide (x39_4 < (Ac.length : Int)) = false:=decide_eq_false c20;clear c20;have H':=A_ H;clear H;go_wp2
                   go_roundg k4
                   case measure=>have:=HK1.1;have:=HK2.1;have:=HK3.1;have:=HK4.1;omega
                   case rel=>exact ⟨(wrap64 (x6_3 + 1)),(by first|rfl|(simp;done)|(simp [*];done)),H',⟨by have:=HK1.1;have:=HK2.1;have:=HK3.1;have:=HK4.1;omega⟩,⟨rq_ (Kd.R_mono HO_20.1 (fun _ hk=>trivial))⟩,⟨bl_ Aa⟩,⟨bb_⟩⟩
               ·rw [if_neg c15] at H;exact absurd H (by simp)
              ·rw [if_neg c14] at H;exact absurd H (by simp)
             ·rw [if_neg c13] at H;have c13b0 : decide (x6_3 < a0_0) = false:=decide_eq_false c13;clear c13;have H':=A_ H;clear H;obtain ⟨Z,Z,Z,Z⟩:=o2_ Aa.1;go_wp2
              go_roundg k3
              case measure=>have:=HK1.1;have:=HK2.1;have:=HK3.1;omega
              case rel=>exact ⟨(wrap64 (x22_2 + 1)),(by first|rfl|(simp;done)|(simp [*];done)),H',⟨by have:=HK1.1;have:=HK2.1;have:=HK3.1;omega⟩,⟨rl_ HO_20⟩,⟨bl_ Aa⟩,⟨bb_⟩⟩
          ·rw [if_neg c12] at H;exact absurd H (by simp)
         ·rw [if_neg c11] at H;exact absurd H (by simp)
        ·rw [if_neg c10] at H;have c10b0 : decide (x22_2 < (Ab.length : Int)) = false:=decide_eq_false c10;clear c10;have H':=A_ H;clear H;go_wp2
         go_roundg k2
         case measure=>have:=HK1.1;have:=HK2.1;omega
         case rel=>exact ⟨(wrap64 (x3_1 + 1)),(by first|rfl|(simp;done)|(simp [*];done)),H',⟨by have:=HK1.1;have:=HK2.1;omega⟩,⟨bl_ Aa⟩,⟨bb_⟩⟩
     ·rw [if_neg c5] at H;exact absurd H (by simp)
    ·rw [if_neg c4] at H;exact absurd H (by simp)
   ·rw [if_neg c3] at H;have c3b0 : decide (x3_1 < a0_0) = false:=decide_eq_false c3;clear c3;obtain rfl:=Option.some.inj H;obtain ⟨Z,Z,Z,Z⟩:=o2_ Aa.1;go_wp2
    go_ret
    exact ⟨by first|rfl|(simp [errW_none,errW_some] <;> rfl)|(simp [*,errW_none,errW_some] <;> rfl),bb_⟩
def Ab0.f (k : Nat) (a0_0 : Int) (l0_1 : List Int) : Option (Bool) := (Aae.f k a0_0 l0_1).bind fun bt948 => ((Aas.f k a0_0 l0_1).bind fun t952 => (if t952 = true then (if bt948.2 = true then (some false) else ((Aaq.f k a0_0 l0_1).bind fun t953 => (some (!t953)))) else (some false)))
set_option maxHeartbeats 8000000 in
set_option maxRecDepth 100000 in
theorem Ab0.calls (k : Nat) (a0_0 : Int) (A0_1 : Option Addr) (c0_1 : Nat) (l0_1 : List Int) (r : Bool) (w : World) (hr0_1 : Kd.C (Kd.int .i64) w A0_1 l0_1.length l0_1) (hc0_1 : l0_1.length ≤ c0_1) (h : Ab0.f k a0_0 l0_1 = some r) :
 Calls Tryd.prog 91 #[.agg #[.int .i64 a0_0,.slice A0_1 l0_1.length c0_1]] w fun e w'=>e = .returned (.bool r) ∧ Below w.heap.size w w':=by
 have hu26:=Tryd.underlying26;have HR0_1:=A_ hr0_1;have HC0_1:=A_ hc0_1;clear hr0_1 hc0_1;have HB:=A_ (Below.refl w.heap.size w);have H : ((Aae.f k a0_0 l0_1).bind fun Al=>((Aas.f k a0_0 l0_1).bind fun Ac=>(if Ac = true then (if Al.2 = true then (some false) else ((Aaq.f k a0_0 l0_1).bind fun Ad=>(some (!Ad)))) else (some false)))) = some r:=h;clear h;replace H:=Option.bind_eq_some_iff.mp H;obtain ⟨⟨Ae,Ai⟩,A20,H⟩:=H;(try dsimp only at H);have A2:=A_ A20;clear A20;replace H:=Option.bind_eq_some_iff.mp H;obtain ⟨Ac,A30,H⟩:=H;(try dsimp only at H);have A3:=A_ A30;clear A30;by_cases c4 : Ac = true
 ·subst c4;rw [if_pos rfl] at H;by_cases c5 : Ai = true
  ·subst c5;rw [if_pos rfl] at H;obtain rfl:=Option.some.inj H;go_enter Tryd.func91,Tryd.ntmps91
   go_wp2_with (first|((with_reducible refine gate_dst (N:=1) rfl ?_);refine box_event ?hg (N:=1) ?hd (cs:=#[.int .i64 a0_0,.slice A0_1 l0_1.length c0_1]) (t:=26) ?hr ?_;(case hd=>rfl);(case hg=>rfl);(case hr=>go_simp;try rfl);intro Af hg w6 hbox hb;have Aa:=A_ (hbox);have Ag:=A_ (gw_ (w:=w) hg bb_);have Ah:=A_ (gw_ (w:=w) hg bb_);replace HB:=A_ (below_step bb_ hb);clear hb hbox hg;obtain ⟨Z,Z,Z,Z⟩:=o2_ Aa.1)|((with_reducible refine gate_callee (f:=36) rfl ?_);refine goesL_ (some 7) rfl rfl Tryd.func36 (by kernel_rfl) rfl #[.agg #[.int .i64 a0_0,.slice A0_1 l0_1.length c0_1]] rfl au_ ?_;(with_reducible refine (Aae.calls k a0_0 _ _ l0_1 Ae true _ ?side1 ?side2 A2.1).mono ?_);(case side1=>exact cl_ (Kd.C_below HR0_1.1 HB.1));(case side2=>exact HC0_1.1);rintro e w8 ⟨Aj,rfl,ho0,hb⟩;refine ⟨_,rfl,?_⟩;have Ab:=A_ (Kd.R_lower ho0 (below_size bb_));replace Aa:=bz Aa hb;replace HB:=A_ (below_step bb_ hb);(try clear hb);(try clear hb2);(try clear hk);(try clear hi);(try clear ho0);obtain ⟨Z,Z,Z,Z⟩:=o2_ Aa.1)|((with_reducible refine gate_callee (f:=70) rfl ?_);refine goesL_ (some 11) rfl rfl Tryd.func70 (by kernel_rfl) rfl #[.agg #[.int .i64 a0_0,.slice A0_1 l0_1.length c0_1]] rfl au_ ?_;(with_reducible refine (Aas.calls k a0_0 _ _ l0_1 true _ ?side1 ?side2 A3.1).mono ?_);(case side1=>exact cl_ (Kd.C_below HR0_1.1 HB.1));(case side2=>exact HC0_1.1);rintro e w10 ⟨rfl,hb⟩;refine ⟨_,rfl,?_⟩;replace Ab:=rb_ Ab hb;replace Aa:=bz Aa hb;replace HB:=A_ (below_step bb_ hb);(try clear hb);(try clear hb2);(try clear hk);(try clear hi)))
   go_ret
   exact ⟨by first|rfl|(simp [errW_none,errW_some] <;> rfl)|(simp [*,errW_none,errW_some] <;> rfl),bb_⟩
  ·replace c5:=Bool.eq_false_iff.mpr c5;subst c5;rw [if_neg nf_] at H;replace H:=Option.bind_eq_some_iff.mp H;obtain ⟨Ad,Ak,H⟩:=H;(try dsimp only at H);have A11:=A_ Ak;clear Ak;obtain rfl:=Option.some.inj H;go_enter Tryd.func91,Tryd.ntmps91
   go_wp2_with (first|((with_reducible refine gate_dst (N:=1) rfl ?_);refine box_event ?hg (N:=1) ?hd (cs:=#[.int .i64 a0_0,.slice A0_1 l0_1.length c0_1]) (t:=26) ?hr ?_;(case hd=>rfl);(case hg=>rfl);(case hr=>go_simp;try rfl);intro Af hg w12 hbox hb;have Aa:=A_ (hbox);have Ag:=A_ (gw_ (w:=w) hg bb_);have Ah:=A_ (gw_ (w:=w) hg bb_);replace HB:=A_ (below_step bb_ hb);clear hb hbox hg;obtain ⟨Z,Z,Z,Z⟩:=o2_ Aa.1)|((with_reducible refine gate_callee (f:=36) rfl ?_);refine goesL_ (some 7) rfl rfl Tryd.func36 (by kernel_rfl) rfl #[.agg #[.int .i64 a0_0,.slice A0_1 l0_1.length c0_1]] rfl au_ ?_;(with_reducible refine (Aae.calls k a0_0 _ _ l0_1 Ae false _ ?side1 ?side2 A2.1).mono ?_);(case side1=>exact cl_ (Kd.C_below HR0_1.1 HB.1));(case side2=>exact HC0_1.1);rintro e w14 ⟨Aj,rfl,ho0,hb⟩;refine ⟨_,rfl,?_⟩;have Ab:=A_ (Kd.R_lower ho0 (below_size bb_));replace Aa:=bz Aa hb;replace HB:=A_ (below_step bb_ hb);(try clear hb);(try clear hb2);(try clear hk);(try clear hi);(try clear ho0);obtain ⟨Z,Z,Z,Z⟩:=o2_ Aa.1)|((with_reducible refine gate_callee (f:=70) rfl ?_);refine goesL_ (some 11) rfl rfl Tryd.func70 (by kernel_rfl) rfl #[.agg #[.int .i64 a0_0,.slice A0_1 l0_1.length c0_1]] rfl au_ ?_;(with_reducible refine (Aas.calls k a0_0 _ _ l0_1 true _ ?side1 ?side2 A3.1).mono ?_);(case side1=>exact cl_ (Kd.C_below HR0_1.1 HB.1));(case side2=>exact HC0_1.1);rintro e w16 ⟨rfl,hb⟩;refine ⟨_,rfl,?_⟩;replace Ab:=rb_ Ab hb;replace Aa:=bz Aa hb;replace HB:=A_ (below_step bb_ hb);(try clear hb);(try clear hb2);(try clear hk);(try clear hi);obtain ⟨Z,Z,Z,Z⟩:=o2_ Aa.1)|(go_at_call 134;(with_reducible refine (Aaq.calls k a0_0 _ _ l0_1 Ad _ ?side1 ?side2 A11.1).mono ?_);(case side1=>exact cl_ (Kd.C_below HR0_1.1 HB.1));(case side2=>exact HC0_1.1);rintro e w18 ⟨rfl,hb⟩;replace Ab:=rb_ Ab hb;replace Aa:=bz Aa hb;replace HB:=A_ (below_step bb_ hb);(try clear hb);(try clear hb2);(try clear hk);(try clear hi)))
   go_ret
   exact ⟨by first|rfl|(simp [errW_none,errW_some] <;> rfl)|(simp [*,errW_none,errW_some] <;> rfl),bb_⟩
 ·replace c4:=Bool.eq_false_iff.mpr c4;subst c4;rw [if_neg nf_] at H;obtain rfl:=Option.some.inj H;go_enter Tryd.func91,Tryd.ntmps91
  go_wp2_with (first|((with_reducible refine gate_dst (N:=1) rfl ?_);refine box_event ?hg (N:=1) ?hd (cs:=#[.int .i64 a0_0,.slice A0_1 l0_1.length c0_1]) (t:=26) ?hr ?_;(case hd=>rfl);(case hg=>rfl);(case hr=>go_simp;try rfl);intro Af hg w19 hbox hb;have Aa:=A_ (hbox);have Ag:=A_ (gw_ (w:=w) hg bb_);have Ah:=A_ (gw_ (w:=w) hg bb_);replace HB:=A_ (below_step bb_ hb);clear hb hbox hg;obtain ⟨Z,Z,Z,Z⟩:=o2_ Aa.1)|((with_reducible refine gate_callee (f:=36) rfl ?_);refine goesL_ (some 7) rfl rfl Tryd.func36 (by kernel_rfl) rfl #[.agg #[.int .i64 a0_0,.slice A0_1 l0_1.length c0_1]] rfl au_ ?_;(with_reducible refine (Aae.calls k a0_0 _ _ l0_1 Ae Ai _ ?side1 ?side2 A2.1).mono ?_);(case side1=>exact cl_ (Kd.C_below HR0_1.1 HB.1));(case side2=>exact HC0_1.1);rintro e w21 ⟨Aj,rfl,ho0,hb⟩;refine ⟨_,rfl,?_⟩;have Ab:=A_ (Kd.R_lower ho0 (below_size bb_));replace Aa:=bz Aa hb;replace HB:=A_ (below_step bb_ hb);(try clear hb);(try clear hb2);(try clear hk);(try clear hi);(try clear ho0);obtain ⟨Z,Z,Z,Z⟩:=o2_ Aa.1)|((with_reducible refine gate_callee (f:=70) rfl ?_);refine goesL_ (some 11) rfl rfl Tryd.func70 (by kernel_rfl) rfl #[.agg #[.int .i64 a0_0,.slice A0_1 l0_1.length c0_1]] rfl au_ ?_;(with_reducible refine (Aas.calls k a0_0 _ _ l0_1 false _ ?side1 ?side2 A3.1).mono ?_);(case side1=>exact cl_ (Kd.C_below HR0_1.1 HB.1));(case side2=>exact HC0_1.1);rintro e w23 ⟨rfl,hb⟩;refine ⟨_,rfl,?_⟩;replace Ab:=rb_ Ab hb;replace Aa:=bz Aa hb;replace HB:=A_ (below_step bb_ hb);(try clear hb);(try clear hb2);(try clear hk);(try clear hi)))
  go_ret
  exact ⟨by first|rfl|(simp [errW_none,errW_some] <;> rfl)|(simp [*,errW_none,errW_some] <;> rfl),bb_⟩
def Abu.f (k : Nat) (a0_0 : Int) (l0_1 : List Int) : Option (Bool × Bool) := (Aas.f k a0_0 l0_1).bind fun t955 => (if t955 = true then ((Ab0.f k a0_0 l0_1).bind fun t956 => (some (t956, true))) else (some (false, false)))
set_option maxHeartbeats 8000000 in
set_option maxRecDepth 100000 in
theorem Abu.calls (k : Nat) (a0_0 : Int) (A0_1 : Option Addr) (c0_1 : Nat) (l0_1 : List Int) (r1 : Bool) (r2 : Bool) (w : World) (hr0_1 : Kd.C (Kd.int .i64) w A0_1 l0_1.length l0_1) (hc0_1 : l0_1.length ≤ c0_1) (h : Abu.f k a0_0 l0_1 = some (r1,r2)) :
 Calls Tryd.prog 34 #[.agg #[.int .i64 a0_0,.slice A0_1 l0_1.length c0_1]] w fun e w'=>e = .returned (.tuple #[.bool r1,.bool r2]) ∧ Below w.heap.size w w':=by
 have hu26:=Tryd.underlying26;have HR0_1:=A_ hr0_1;have HC0_1:=A_ hc0_1;clear hr0_1 hc0_1;have HB:=A_ (Below.refl w.heap.size w);have H : ((Aas.f k a0_0 l0_1).bind fun Ac=>(if Ac = true then ((Ab0.f k a0_0 l0_1).bind fun Ab=>(some (Ab,true))) else (some (false,false)))) = some (r1,r2):=h;clear h;replace H:=Option.bind_eq_some_iff.mp H;obtain ⟨Ac,A20,H⟩:=H;replace H : (if Ac = true then ((Ab0.f k a0_0 l0_1).bind fun Ab=>(some (Ab,true))) else (some (false,false))) = some (r1,r2):=H;have A2:=A_ A20;clear A20;by_cases c3 : Ac = true
 ·subst c3;have H1 : ((Ab0.f k a0_0 l0_1).bind fun Ab=>(some (Ab,true))) = some (r1,r2):=by rw [if_pos rfl] at H;exact H
  clear H;have H:=H1;clear H1;replace H:=Option.bind_eq_some_iff.mp H;obtain ⟨Ab,A40,H⟩:=H;replace H : (some (Ab,true)) = some (r1,r2):=H;have A4:=A_ A40;clear A40;simp only [Option.some.injEq,Prod.mk.injEq] at H
  obtain ⟨rfl,rfl⟩:=H;go_enter Tryd.func34,Tryd.ntmps34
  go_wp2_with (first|((with_reducible refine gate_dst (N:=1) rfl ?_);refine box_event ?hg (N:=1) ?hd (cs:=#[.int .i64 a0_0,.slice A0_1 l0_1.length c0_1]) (t:=26) ?hr ?_;(case hd=>rfl);(case hg=>rfl);(case hr=>go_simp;try rfl);intro Ad hg w5 hbox hb;have Aa:=A_ (hbox);have Ae:=A_ (gw_ (w:=w) hg bb_);have Af:=A_ (gw_ (w:=w) hg bb_);replace HB:=A_ (below_step bb_ hb);clear hb hbox hg;obtain ⟨Z,Z,Z,Z⟩:=o2_ Aa.1)|((with_reducible refine gate_callee (f:=70) rfl ?_);refine goesL_ (some 5) rfl rfl Tryd.func70 (by kernel_rfl) rfl #[.agg #[.int .i64 a0_0,.slice A0_1 l0_1.length c0_1]] rfl au_ ?_;(with_reducible refine (Aas.calls k a0_0 _ _ l0_1 true _ ?side1 ?side2 A2.1).mono ?_);(case side1=>exact cl_ (Kd.C_below HR0_1.1 HB.1));(case side2=>exact HC0_1.1);rintro e w7 ⟨rfl,hb⟩;refine ⟨_,rfl,?_⟩;replace Aa:=bz Aa hb;replace HB:=A_ (below_step bb_ hb);(try clear hb);(try clear hb2);(try clear hk);(try clear hi);obtain ⟨Z,Z,Z,Z⟩:=o2_ Aa.1)|((with_reducible refine gate_callee (f:=91) rfl ?_);refine goesL_ (some 8) rfl rfl Tryd.func91 (by kernel_rfl) rfl #[.agg #[.int .i64 a0_0,.slice A0_1 l0_1.length c0_1]] rfl au_ ?_;(with_reducible refine (Ab0.calls k a0_0 _ _ l0_1 Ab _ ?side1 ?side2 A4.1).mono ?_);(case side1=>exact cl_ (Kd.C_below HR0_1.1 HB.1));(case side2=>exact HC0_1.1);rintro e w9 ⟨rfl,hb⟩;refine ⟨_,rfl,?_⟩;replace Aa:=bz Aa hb;replace HB:=A_ (below_step bb_ hb);(try clear hb);(try clear hb2);(try clear hk);(try clear hi)))
  go_ret2
  exact ⟨by first|rfl|(simp [errW_none,errW_some] <;> rfl)|(simp [*,errW_none,errW_some] <;> rfl),bb_⟩
 ·replace c3:=Bool.eq_false_iff.mpr c3;subst c3;have H1 : (some (false,false)) = some (r1,r2):=by rw [if_neg (show ¬ (false = true) by decide)] at H;exact H
  clear H;have H:=H1;clear H1;simp only [Option.some.injEq,Prod.mk.injEq] at H
  obtain ⟨rfl,rfl⟩:=H;go_enter Tryd.func34,Tryd.ntmps34
  go_wp2_with (first|((with_reducible refine gate_dst (N:=1) rfl ?_);refine box_event ?hg (N:=1) ?hd (cs:=#[.int .i64 a0_0,.slice A0_1 l0_1.length c0_1]) (t:=26) ?hr ?_;(case hd=>rfl);(case hg=>rfl);(case hr=>go_simp;try rfl);intro Ad hg w10 hbox hb;have Aa:=A_ (hbox);have Ae:=A_ (gw_ (w:=w) hg bb_);have Af:=A_ (gw_ (w:=w) hg bb_);replace HB:=A_ (below_step bb_ hb);clear hb hbox hg;obtain ⟨Z,Z,Z,Z⟩:=o2_ Aa.1)|((with_reducible refine gate_callee (f:=70) rfl ?_);refine goesL_ (some 5) rfl rfl Tryd.func70 (by kernel_rfl) rfl #[.agg #[.int .i64 a0_0,.slice A0_1 l0_1.length c0_1]] rfl au_ ?_;(with_reducible refine (Aas.calls k a0_0 _ _ l0_1 false _ ?side1 ?side2 A2.1).mono ?_);(case side1=>exact cl_ (Kd.C_below HR0_1.1 HB.1));(case side2=>exact HC0_1.1);rintro e w12 ⟨rfl,hb⟩;refine ⟨_,rfl,?_⟩;replace Aa:=bz Aa hb;replace HB:=A_ (below_step bb_ hb);(try clear hb);(try clear hb2);(try clear hk);(try clear hi)))
  go_ret2
  exact ⟨by first|rfl|(simp [errW_none,errW_some] <;> rfl)|(simp [*,errW_none,errW_some] <;> rfl),bb_⟩
theorem Aax.nilAt {P : Program} (w : World) (d : Nat) (t e : TypeId) (a : Option Addr) (l c : Nat) (h : P.underlying t = some (.slice e)) : (Op.equalIn (d + 1) t (.slice a l c) (.slice none 0 0)).run P w = .ok a.isNone w:=by
 cases a <;> simp [Op.equalIn,run_underlying h]
theorem Aax.nilOf {P : Program} (w : World) (t e : TypeId) (a : Option Addr) (l c : Nat) (h : P.underlying t = some (.slice e)) : (binOp .eql t (.slice a l c) (.slice none 0 0)).run P w = .ok (.bool a.isNone) w:=by
 have h1 : (Op.equal t (.slice a l c) (.slice none 0 0)).run P w = .ok a.isNone w:=Aax.nilAt w 9999 t e a l c h;simp [binOp,h1]
theorem Aax.nilNo {P : Program} (w : World) (t e : TypeId) (a : Option Addr) (l c : Nat) (h : P.underlying t = some (.slice e)) : (binOp .neq t (.slice a l c) (.slice none 0 0)).run P w = .ok (.bool (!a.isNone)) w:=by
 have h1 : (Op.equal t (.slice a l c) (.slice none 0 0)).run P w = .ok a.isNone w:=Aax.nilAt w 9999 t e a l c h;simp [binOp,h1]
theorem Aax.nilE (w : World) (a : Option Addr) (l c : Nat) : (binOp .eql 24 (.slice a l c) (.slice none 0 0)).run Tryd.prog w = .ok (.bool a.isNone) w:=Aax.nilOf w _ _ a l c Tryd.underlying24
theorem Aax.nilN (w : World) (a : Option Addr) (l c : Nat) : (binOp .neq 24 (.slice a l c) (.slice none 0 0)).run Tryd.prog w = .ok (.bool (!a.isNone)) w:=Aax.nilNo w _ _ a l c Tryd.underlying24
theorem Aax.nilFact {w : World} {base e : Nat} {ok : Nat → Prop} {A : Option Addr} {n c : Nat} {xs : List Int} (h : Kd.R (Kd.int .i64) e w base ok (.slice A n c) xs) (hz : xs = [] → (.slice A n c : Value) = .slice none 0 0) : A.isNone = (xs == ([] : List Int)):=by
 by_cases hx : xs = []
 ·have:=hz hx;injection this with h1;rw [h1,hx];rfl
 ·obtain ⟨hn,_,hC⟩:=Kd.R_reads' h;have hpos : 0 < xs.length:=List.length_pos_iff.2 hx;obtain ⟨ad,e1,_⟩:=hC.2.2 hpos;rw [e1];cases xs with
  | nil => exact absurd rfl hx
  | cons x l => rfl
theorem Aax.nilB (t : List Int) : t.isEmpty = !(t != ([] : List Int)):=by cases t <;> rfl
attribute [local go_sem] Aax.nilE Aax.nilN
def Aax.f (k : Nat) (a0_0 : Int) (l0_1 : List Int) : Option (List Int × Bool) := (Aap.f k a0_0 l0_1).bind fun t958 => (if t958 = true then ((Aaf.f k a0_0 l0_1).bind fun t959 => (some (t959, (t959 != ([] : List Int))))) else (some (([] : List Int), false)))
set_option maxHeartbeats 8000000 in
set_option maxRecDepth 100000 in
theorem Aax.calls (k : Nat) (a0_0 : Int) (A0_1 : Option Addr) (c0_1 : Nat) (l0_1 : List Int) (r1 : List Int) (r2 : Bool) (w : World) (hr0_1 : Kd.C (Kd.int .i64) w A0_1 l0_1.length l0_1) (hc0_1 : l0_1.length ≤ c0_1) (hT : TabOK w) (h : Aax.f k a0_0 l0_1 = some (r1,r2)) :
 Calls Tryd.prog 35 #[.agg #[.int .i64 a0_0,.slice A0_1 l0_1.length c0_1]] w fun e w'=>∃ v0_ : Value,e = .returned (.tuple #[v0_,.bool r2]) ∧ Kd.R (Kd.int .i64) 3 w' w.heap.size (fun _=>True) v0_ r1 ∧ Below w.heap.size w w':=by
 have hu26:=Tryd.underlying26;have HT:=A_ hT;clear hT;have HR0_1:=A_ hr0_1;have HC0_1:=A_ hc0_1;clear hr0_1 hc0_1;have HB:=A_ (Below.refl w.heap.size w);have H : ((Aap.f k a0_0 l0_1).bind fun Ac=>(if Ac = true then ((Aaf.f k a0_0 l0_1).bind fun Ab=>(some (Ab,(Ab != ([] : List Int))))) else (some (([] : List Int),false)))) = some (r1,r2):=h;clear h;replace H:=Option.bind_eq_some_iff.mp H;obtain ⟨Ac,A20,H⟩:=H;replace H : (if Ac = true then ((Aaf.f k a0_0 l0_1).bind fun Ab=>(some (Ab,(Ab != ([] : List Int))))) else (some (([] : List Int),false))) = some (r1,r2):=H;have A2:=A_ A20;clear A20;by_cases c3 : Ac = true
 ·subst c3;have H1 : ((Aaf.f k a0_0 l0_1).bind fun Ab=>(some (Ab,(Ab != ([] : List Int))))) = some (r1,r2):=by rw [if_pos rfl] at H;exact H
  clear H;have H:=H1;clear H1;replace H:=Option.bind_eq_some_iff.mp H;obtain ⟨Ab,A40,H⟩:=H;replace H : (some (Ab,(Ab != ([] : List Int)))) = some (r1,r2):=H;have A4:=A_ A40;clear A40;simp only [Option.some.injEq,Prod.mk.injEq] at H
  obtain ⟨rfl,rfl⟩:=H;go_enter Tryd.func35,Tryd.ntmps35
  go_wp2_with (first|((with_reducible refine gate_dst (N:=1) rfl ?_);refine box_event ?hg (N:=1) ?hd (cs:=#[.int .i64 a0_0,.slice A0_1 l0_1.length c0_1]) (t:=26) ?hr ?_;(case hd=>rfl);(case hg=>rfl);(case hr=>go_simp;try rfl);intro Ae hg w5 hbox hb;have Aa:=A_ (hbox);have Af:=A_ (gw_ (w:=w) hg bb_);have Ag:=A_ (gw_ (w:=w) hg bb_);replace HB:=A_ (below_step bb_ hb);clear hb hbox hg;obtain ⟨Z,Z,Z,Z⟩:=o2_ Aa.1)|((with_reducible refine gate_callee (f:=16) rfl ?_);refine goesL_ (some 6) rfl rfl Tryd.func16 (by kernel_rfl) rfl #[.agg #[.int .i64 a0_0,.slice A0_1 l0_1.length c0_1]] rfl au_ ?_;(with_reducible refine (Aap.calls k a0_0 _ _ l0_1 true _ ?side1 ?side2 ?side3 A2.1).mono ?_);(case side1=>exact cl_ (Kd.C_below HR0_1.1 HB.1));(case side2=>exact HC0_1.1);(case side3=>first|exact HT.1|exact HT.1.below bb_|(repeat (first|exact HT.1|apply TabOK.drewN|apply TabOK.drew|apply TabOK.alloc)));rintro e w7 ⟨rfl,hb⟩;refine ⟨_,rfl,?_⟩;replace Aa:=bz Aa hb;replace HB:=A_ (below_step bb_ hb);(try clear hb);(try clear hb2);(try clear hk);(try clear hi);obtain ⟨Z,Z,Z,Z⟩:=o2_ Aa.1)|((with_reducible refine gate_callee (f:=92) rfl ?_);refine goesL_ (some 9) rfl rfl Tryd.func92 (by kernel_rfl) rfl #[.agg #[.int .i64 a0_0,.slice A0_1 l0_1.length c0_1]] rfl au_ ?_;(with_reducible refine (Aaf.calls k a0_0 _ _ l0_1 Ab _ ?side1 ?side2 ?side3 A4.1).mono ?_);(case side1=>exact cl_ (Kd.C_below HR0_1.1 HB.1));(case side2=>exact HC0_1.1);(case side3=>first|exact HT.1|exact HT.1.below bb_|(repeat (first|exact HT.1|apply TabOK.drewN|apply TabOK.drew|apply TabOK.alloc)));rintro e w9 ⟨Ah,rfl,ho0,hb,hz_⟩;refine ⟨_,rfl,?_⟩;have Ad:=A_ (Kd.R_lower ho0 (below_size bb_));replace Aa:=bz Aa hb;replace HB:=A_ (below_step bb_ hb);(try clear hb);(try clear hb2);(try clear hk);(try clear hi);(try clear ho0);obtain ⟨Ao10,co10,eo10⟩:=Kd.R_slice Ad.1;subst eo10;(try have hnl10:=Aax.nilFact Ad.1 hz_);(try clear hz_)))
  go_ret2
  exact ⟨_,by first|rfl|(rw [hnl10] <;> rfl)|(simp [*,errW_none,errW_some] <;> first|exact ⟨rfl,Aax.nilB _⟩|exact Aax.nilB _)|(simp [errW_none,errW_some] <;> rfl)|(simp [*,errW_none,errW_some] <;> rfl),rl_ Ad,bb_⟩
 ·replace c3:=Bool.eq_false_iff.mpr c3;subst c3;have H1 : (some (([] : List Int),false)) = some (r1,r2):=by rw [if_neg (show ¬ (false = true) by decide)] at H;exact H
  clear H;have H:=H1;clear H1;simp only [Option.some.injEq,Prod.mk.injEq] at H
  obtain ⟨rfl,rfl⟩:=H;go_enter Tryd.func35,Tryd.ntmps35
  go_wp2_with (first|((with_reducible refine gate_dst (N:=1) rfl ?_);refine box_event ?hg (N:=1) ?hd (cs:=#[.int .i64 a0_0,.slice A0_1 l0_1.length c0_1]) (t:=26) ?hr ?_;(case hd=>rfl);(case hg=>rfl);(case hr=>go_simp;try rfl);intro Ae hg w11 hbox hb;have Aa:=A_ (hbox);have Af:=A_ (gw_ (w:=w) hg bb_);have Ag:=A_ (gw_ (w:=w) hg bb_);replace HB:=A_ (below_step bb_ hb);clear hb hbox hg;obtain ⟨Z,Z,Z,Z⟩:=o2_ Aa.1)|((with_reducible refine gate_callee (f:=16) rfl ?_);refine goesL_ (some 6) rfl rfl Tryd.func16 (by kernel_rfl) rfl #[.agg #[.int .i64 a0_0,.slice A0_1 l0_1.length c0_1]] rfl au_ ?_;(with_reducible refine (Aap.calls k a0_0 _ _ l0_1 false _ ?side1 ?side2 ?side3 A2.1).mono ?_);(case side1=>exact cl_ (Kd.C_below HR0_1.1 HB.1));(case side2=>exact HC0_1.1);(case side3=>first|exact HT.1|exact HT.1.below bb_|(repeat (first|exact HT.1|apply TabOK.drewN|apply TabOK.drew|apply TabOK.alloc)));rintro e w13 ⟨rfl,hb⟩;refine ⟨_,rfl,?_⟩;replace Aa:=bz Aa hb;replace HB:=A_ (below_step bb_ hb);(try clear hb);(try clear hb2);(try clear hk);(try clear hi)))
  go_ret2
  exact ⟨_,by first|rfl|(rw [hnl10] <;> rfl)|(simp [*,errW_none,errW_some] <;> first|exact ⟨rfl,Aax.nilB _⟩|exact Aax.nilB _)|(simp [errW_none,errW_some] <;> rfl)|(simp [*,errW_none,errW_some] <;> rfl),by first|exact Kd.R_nil _ _ _ _ _|exact Kd.N_nil _ _ _ _ _|exact Kd.V_nil _ _ _ _ _|exact Kd.Q_nil _ _ _ _ _|exact Kd.S_nil _ _ _ _ _,bb_⟩
def Abg.l0 : Nat → List Int → List Int → Int → Int → Option (Bool)
 | 0,_,_,_,_=>none
 | k + 1,x0,x1,x12,x13=>if x13 < x12 then (if 0 ≤ x13 then (if x13 < (x0.length : Int) then (if x13 < (x1.length : Int) then (if (rd x0 x13) = (rd x1 x13) then (Abg.l0 k x0 x1 x12 (wrap64 (x13 + 1))) else (some false)) else (none)) else (none)) else (none)) else (some true)
def Abg.f (k : Nat) (l0 : List Int) (l1 : List Int) : Option (Bool) := if (l0.length : Int) = (l1.length : Int) then (Abg.l0 k l0 l1 (l0.length : Int) 0) else (some false)
set_option maxHeartbeats 8000000 in
set_option maxRecDepth 100000 in
theorem Abg.calls (k : Nat) (A0 : Option Addr) (c0 : Nat) (l0 : List Int) (A1 : Option Addr) (c1 : Nat) (l1 : List Int) (r : Bool) (w : World) (hr0 : Kd.C (Kd.int .i64) w A0 l0.length l0) (hc0 : l0.length ≤ c0) (hr1 : Kd.C (Kd.int .i64) w A1 l1.length l1) (hc1 : l1.length ≤ c1) (h : Abg.f k l0 l1 = some r) :
 Calls Tryd.prog 37 #[.slice A0 l0.length c0,.slice A1 l1.length c1] w fun e w'=>e = .returned (.bool r) ∧ Drawn0 w w':=by
 have HR0:=A_ hr0;have HC0:=A_ hc0;clear hr0 hc0;have HR1:=A_ hr1;have HC1:=A_ hc1;clear hr1 hc1;have H : (if (l0.length : Int) = (l1.length : Int) then (Abg.l0 k l0 l1 (l0.length : Int) 0) else (some false)) = some r:=h;clear h;by_cases c3 : (l0.length : Int) = (l1.length : Int)
 ·rw [if_pos c3] at H;have c3b0 : ((l0.length : Int) == (l1.length : Int)) = true:=beq_iff_eq.mpr c3;have c3b1 : ((l0.length : Int) != (l1.length : Int)) = false:=bne_eq_false_iff_eq.mpr c3;have c3b2 : (l0.length == l1.length) = true:=by first|simpa using c3|(simp at c3 ⊢;omega)
  clear c3;have H':=A_ H;clear H;go_enter Tryd.func37,Tryd.ntmps37
  go_wp2
  repeat (go_quiet (fail);try go_wp2)
  go_loopg [13] k (fun kq v13 w'=>∃ (x13_1 : Int),v13 = .int .i64 x13_1 ∧ Aside0 (Abg.l0 kq l0 l1 (l0.length : Int) x13_1 = some r) ∧ Aside0 (kq ≤ k) ∧ Drawn0 w w')
  case atStart=>exact ⟨(0),(by first|rfl|(simp;done)|(simp [*];done)),H',⟨Nat.le_refl _⟩,by repeat (first|exact Drawn0.refl _|apply Drawn0.step)⟩
  case round =>
   clear H';try clear c1
   try clear p2
   try clear c3
   try clear c3b0
   try clear c3b1
   try clear c3b2
   obtain ⟨x13_1,rfl,HA,HK1,⟨m1,rfl⟩⟩:=hrel;cases gk with
   | zero=>exact absurd HA.1 (by simp [Abg.l0])
   | succ k1 =>
    have H:=HA.1;clear HA;simp only [Abg.l0] at H
    by_cases c4 : x13_1 < (l0.length : Int)
    ·rw [if_pos c4] at H;have c4b0 : decide (x13_1 < (l0.length : Int)) = true:=decide_eq_true c4;clear c4;by_cases c5 : 0 ≤ x13_1
     ·rw [if_pos c5] at H;have c5b0 : decide (0 ≤ x13_1) = true:=decide_eq_true c5;clear c5;by_cases c6 : x13_1 < (l0.length : Int)
      ·rw [if_pos c6] at H;have c6b0 : decide (x13_1 < (l0.length : Int)) = true:=decide_eq_true c6;clear c6;by_cases c7 : x13_1 < (l1.length : Int)
       ·rw [if_pos c7] at H;have c7b0 : decide (x13_1 < (l1.length : Int)) = true:=decide_eq_true c7;clear c7;by_cases c8 : (rd l0 x13_1) = (rd l1 x13_1)
        ·rw [if_pos c8] at H;have c8b0 : ((rd l0 x13_1) == (rd l1 x13_1)) = true:=beq_iff_eq.mpr c8;have c8b1 : ((rd l0 x13_1) != (rd l1 x13_1)) = false:=bne_eq_false_iff_eq.mpr c8;clear c8;have H':=A_ H;clear H;have Aa : 0 ≤ (x13_1 : Int):=of_decide_eq_true (by first|(with_reducible assumption)|assumption);have Ab : x13_1 < (l0.length : Int):=of_decide_eq_true (by first|(with_reducible assumption)|assumption);obtain ⟨Ai,Ae,Ag⟩:=Kd.at_int HR0.1 x13_1 Aa Ab;cases Ae
         replace Aa:=eq_true Aa;replace Ab:=eq_true Ab;have Ac : 0 ≤ (x13_1 : Int):=of_decide_eq_true (by first|(with_reducible assumption)|assumption);have Ad : x13_1 < (l1.length : Int):=of_decide_eq_true (by first|(with_reducible assumption)|assumption);obtain ⟨Aj,Af,Ah⟩:=Kd.at_int HR1.1 x13_1 Ac Ad;cases Af
         replace Ac:=eq_true Ac;replace Ad:=eq_true Ad;go_wp2
         repeat (go_quiet (fail);try go_wp2)
         go_roundg k1
         case measure=>have:=HK1.1;omega
         case rel=>exact ⟨(wrap64 (x13_1 + 1)),(by first|rfl|(simp;done)|(simp [*];done)),H',⟨by have:=HK1.1;omega⟩,by repeat (first|exact Drawn0.refl _|apply Drawn0.step)⟩
        ·rw [if_neg c8] at H;have c8b0 : ((rd l0 x13_1) == (rd l1 x13_1)) = false:=beq_eq_false_iff_ne.mpr c8;have c8b1 : ((rd l0 x13_1) != (rd l1 x13_1)) = true:=bne_iff_ne.mpr c8;obtain rfl:=Option.some.inj H;have Aa : 0 ≤ (x13_1 : Int):=of_decide_eq_true (by first|(with_reducible assumption)|assumption);have Ab : x13_1 < (l0.length : Int):=of_decide_eq_true (by first|(with_reducible assumption)|assumption);obtain ⟨Ai,Ae,Ag⟩:=Kd.at_int HR0.1 x13_1 Aa Ab;cases Ae
         replace Aa:=eq_true Aa;replace Ab:=eq_true Ab;have Ac : 0 ≤ (x13_1 : Int):=of_decide_eq_true (by first|(with_reducible assumption)|assumption);have Ad : x13_1 < (l1.length : Int):=of_decide_eq_true (by first|(with_reducible assumption)|assumption);obtain ⟨Aj,Af,Ah⟩:=Kd.at_int HR1.1 x13_1 Ac Ad;cases Af
         replace Ac:=eq_true Ac;replace Ad:=eq_true Ad;go_wp2
         repeat (go_quiet (fail);try go_wp2)
         go_ret
         exact ⟨by first|rfl|(simp;done)|(simp [*];done),by repeat (first|exact Drawn0.refl _|apply Drawn0.step)⟩
       ·rw [if_neg c7] at H;exact absurd H (by simp)
      ·rw [if_neg c6] at H;exact absurd H (by simp)
     ·rw [if_neg c5] at H;exact absurd H (by simp)
    ·rw [if_neg c4] at H;have c4b0 : decide (x13_1 < (l0.length : Int)) = false:=decide_eq_false c4;clear c4;obtain rfl:=Option.some.inj H;go_wp2
     repeat (go_quiet (fail);try go_wp2)
     go_ret
     exact ⟨by first|rfl|(simp;done)|(simp [*];done),by repeat (first|exact Drawn0.refl _|apply Drawn0.step)⟩
 ·rw [if_neg c3] at H;have c3b0 : ((l0.length : Int) == (l1.length : Int)) = false:=beq_eq_false_iff_ne.mpr c3;have c3b1 : ((l0.length : Int) != (l1.length : Int)) = true:=bne_iff_ne.mpr c3;have c3b2 : (l0.length == l1.length) = false:=by first|simpa using c3|(simp at c3 ⊢;omega)
  obtain rfl:=Option.some.inj H;go_enter Tryd.func37,Tryd.ntmps37
  go_wp2
  repeat (go_quiet (fail);try go_wp2)
  go_ret
  exact ⟨by first|rfl|(simp;done)|(simp [*];done),by repeat (first|exact Drawn0.refl _|apply Drawn0.step)⟩
def Aa7.f (k : Nat) (a0_0 : Int) (l0_1 : List Int) (l1 : List Int) : Option (Bool) := (Aat.f k l1 0 (wrap64 (a0_0 - 1))).bind fun t965 => (some t965)
set_option maxHeartbeats 8000000 in
set_option maxRecDepth 100000 in
theorem Aa7.calls (k : Nat) (a0_0 : Int) (A0_1 : Option Addr) (c0_1 : Nat) (l0_1 : List Int) (A1 : Option Addr) (c1 : Nat) (l1 : List Int) (r : Bool) (w : World) (hr0_1 : Kd.C (Kd.int .i64) w A0_1 l0_1.length l0_1) (hc0_1 : l0_1.length ≤ c0_1) (hr1 : Kd.C (Kd.int .i64) w A1 l1.length l1) (hc1 : l1.length ≤ c1) (h : Aa7.f k a0_0 l0_1 l1 = some r) :
 Calls Tryd.prog 94 #[.agg #[.int .i64 a0_0,.slice A0_1 l0_1.length c0_1],.slice A1 l1.length c1] w fun e w'=>e = .returned (.bool r) ∧ Below w.heap.size w w':=by
 have hu26:=Tryd.underlying26;have HR0_1:=A_ hr0_1;have HC0_1:=A_ hc0_1;clear hr0_1 hc0_1;have HR1:=A_ hr1;have HC1:=A_ hc1;clear hr1 hc1;have HB:=A_ (Below.refl w.heap.size w);have H : ((Aat.f k l1 0 (wrap64 (a0_0 - 1))).bind fun Aa=>(some Aa)) = some r:=h;clear h;replace H:=Option.bind_eq_some_iff.mp H;obtain ⟨Aa,A30,H⟩:=H;(try dsimp only at H);have A3:=A_ A30;clear A30;obtain rfl:=Option.some.inj H;go_enter Tryd.func94,Tryd.ntmps94
 go_wp2_with (first|((with_reducible refine gate_dst (N:=2) rfl ?_);refine box_event ?hg (N:=2) ?hd (cs:=#[.int .i64 a0_0,.slice A0_1 l0_1.length c0_1]) (t:=26) ?hr ?_;(case hd=>rfl);(case hg=>rfl);(case hr=>go_simp;try rfl);intro Ac hg w4 hbox hb;have Ab:=A_ (hbox);have Ad:=A_ (gw_ (w:=w) hg bb_);have Ae:=A_ (gw_ (w:=w) hg bb_);replace HB:=A_ (below_step bb_ hb);clear hb hbox hg;obtain ⟨hcz5_0,hcz5_1,hfz5_0,hfz5_1⟩:=o2_ Ab.1)|((with_reducible refine gate_callee (f:=115) rfl ?_);refine goesL_ (some 9) rfl rfl Tryd.func115 (by kernel_rfl) rfl #[.slice A1 l1.length c1,.int .i64 0,.int .i64 (wrap64 (a0_0 - 1))] rfl au_ ?_;(with_reducible refine (Aat.calls k _ _ l1 0 (wrap64 (a0_0 - 1)) Aa _ ?side1 ?side2 A3.1).mono ?_);(case side1=>exact cl_ (Kd.C_below HR1.1 HB.1));(case side2=>exact HC1.1);rintro e w' ⟨rfl,⟨nd,rfl⟩⟩;refine ⟨_,rfl,?_⟩))
 go_ret
 exact ⟨by first|rfl|(simp [errW_none,errW_some] <;> rfl)|(simp [*,errW_none,errW_some] <;> rfl),bb_⟩
def Abw.f (k : Nat) (a0_0 : Int) (l0_1 : List Int) (a1 : Int) (a2 : Int) : Option (Bool × Bool) := (Aa5.f k a0_0 l0_1).bind fun t967 => (if t967 = true then ((Aa7.f k a0_0 l0_1 (([a1, a2] : List Int))).bind fun t971 => (if t971 = true then ((Aaj.f a0_0 l0_1 a1 a2).bind fun t972 => (some (t972, true))) else (some (false, false)))) else (some (false, false)))
set_option maxHeartbeats 8000000 in
set_option maxRecDepth 100000 in
theorem Abw.calls (k : Nat) (a0_0 : Int) (A0_1 : Option Addr) (c0_1 : Nat) (l0_1 : List Int) (a1 : Int) (a2 : Int) (r1 : Bool) (r2 : Bool) (w : World) (hr0_1 : Kd.C (Kd.int .i64) w A0_1 l0_1.length l0_1) (hc0_1 : l0_1.length ≤ c0_1) (h : Abw.f k a0_0 l0_1 a1 a2 = some (r1,r2)) :
 Calls Tryd.prog 38 #[.agg #[.int .i64 a0_0,.slice A0_1 l0_1.length c0_1],.int .i64 a1,.int .i64 a2] w fun e w'=>e = .returned (.tuple #[.bool r1,.bool r2]) ∧ Below w.heap.size w w':=by
 have hu26:=Tryd.underlying26;have HR0_1:=A_ hr0_1;have HC0_1:=A_ hc0_1;clear hr0_1 hc0_1;have HB:=A_ (Below.refl w.heap.size w);have H : ((Aa5.f k a0_0 l0_1).bind fun Ag=>(if Ag = true then ((Aa7.f k a0_0 l0_1 (([a1,a2] : List Int))).bind fun Ad=>(if Ad = true then ((Aaj.f a0_0 l0_1 a1 a2).bind fun Ac=>(some (Ac,true))) else (some (false,false)))) else (some (false,false)))) = some (r1,r2):=h;clear h;replace H:=Option.bind_eq_some_iff.mp H;obtain ⟨Ag,A40,H⟩:=H;replace H : (if Ag = true then ((Aa7.f k a0_0 l0_1 (([a1,a2] : List Int))).bind fun Ad=>(if Ad = true then ((Aaj.f a0_0 l0_1 a1 a2).bind fun Ac=>(some (Ac,true))) else (some (false,false)))) else (some (false,false))) = some (r1,r2):=H;have A4:=A_ A40;clear A40;by_cases c5 : Ag = true
 ·subst c5;have H1 : ((Aa7.f k a0_0 l0_1 (([a1,a2] : List Int))).bind fun Ad=>(if Ad = true then ((Aaj.f a0_0 l0_1 a1 a2).bind fun Ac=>(some (Ac,true))) else (some (false,false)))) = some (r1,r2):=by rw [if_pos rfl] at H;exact H
  clear H;have H:=H1;clear H1;obtain ⟨Ah,Ae⟩ : ∃ y_ : List Int,y_ = (([a1,a2] : List Int)):=⟨_,rfl⟩;replace H : ((Aa7.f k a0_0 l0_1 Ah).bind fun Ad=>(if Ad = true then ((Aaj.f a0_0 l0_1 a1 a2).bind fun Ac=>(some (Ac,true))) else (some (false,false)))) = some (r1,r2):=by first|(rw [Ae];with_reducible exact H)|(have H2_:=(Option.bind_some _ _).symm.trans H;rw [Ae];with_reducible exact H2_)|(have H2_:=(Option.bind_some _ _).symm.trans H;with_reducible exact H2_)|with_reducible exact H|(rw [Ae];exact H)|exact H
  have Af:=A_ Ae;clear Ae;replace H:=Option.bind_eq_some_iff.mp H;obtain ⟨Ad,A60,H⟩:=H;replace H : (if Ad = true then ((Aaj.f a0_0 l0_1 a1 a2).bind fun Ac=>(some (Ac,true))) else (some (false,false))) = some (r1,r2):=H;have A6:=A_ A60;clear A60;by_cases c7 : Ad = true
  ·subst c7;have H1 : ((Aaj.f a0_0 l0_1 a1 a2).bind fun Ac=>(some (Ac,true))) = some (r1,r2):=by rw [if_pos rfl] at H;exact H
   clear H;have H:=H1;clear H1;replace H:=Option.bind_eq_some_iff.mp H;obtain ⟨Ac,A80,H⟩:=H;replace H : (some (Ac,true)) = some (r1,r2):=H;have A8:=A_ A80;clear A80;simp only [Option.some.injEq,Prod.mk.injEq] at H
   obtain ⟨rfl,rfl⟩:=H;go_enter Tryd.func38,Tryd.ntmps38
   go_wp2_with (first|((with_reducible refine gate_dst (N:=3) rfl ?_);(try (refine gate_guard (by rfl) ?_;dsimp only));refine box_event ?hg (N:=3) ?hd (cs:=#[.int .i64 a0_0,.slice A0_1 l0_1.length c0_1]) (t:=26) ?hr ?_;(case hd=>rfl);(case hg=>rfl);(case hr=>go_simp;try rfl);intro Ai hg w9 hbox hb;have Aa:=A_ (hbox);have Aj:=A_ (gw_ (w:=w) hg bb_);have Ak:=A_ (gw_ (w:=w) hg bb_);replace HB:=A_ (below_step bb_ hb);clear hb hbox hg;obtain ⟨Z,Z,Z,Z⟩:=o2_ Aa.1)|((with_reducible refine gate_callee (f:=61) rfl ?_);refine goesL_ (some 9) rfl rfl Tryd.func61 (by kernel_rfl) rfl #[.agg #[.int .i64 a0_0,.slice A0_1 l0_1.length c0_1]] rfl au_ ?_;(with_reducible refine (Aa5.calls k a0_0 _ _ l0_1 true _ ?side1 ?side2 A4.1).mono ?_);(case side1=>exact cl_ (Kd.C_below HR0_1.1 HB.1));(case side2=>exact HC0_1.1);rintro e w11 ⟨rfl,hb⟩;refine ⟨_,rfl,?_⟩;replace Aa:=bz Aa hb;replace HB:=A_ (below_step bb_ hb);(try clear hb);(try clear hb2);(try clear hk);(try clear hi);obtain ⟨Z,Z,Z,Z⟩:=o2_ Aa.1)|((with_reducible refine gate_dst (N:=15) rfl ?_);(try (refine gate_guard (by rfl) ?_;dsimp only));refine Kd.R_lit (Kd.int .i64) _ 3 ?hg (N:=15) ?hd (xs:=([a1,a2] : List Int)) (inner:=[.int .i64 a1,.int .i64 a2]) (ok:=fun _=>True) (okp:=fun _=>True) ?hr ?hp (fun _ hk=>hk) trivial (Below.refl _ _) (Nat.le_refl _) (by simp) ?_;(case hd=>rfl);(case hg=>rfl);(case hr=>go_simp;try rfl);(case hp=>exact (Reps.one (show Kd.M (Kd.int .i64) _ _ _ a1 [.int .i64 a1] from rfl) (Reps.one (show Kd.M (Kd.int .i64) _ _ _ a2 [.int .i64 a2] from rfl) (Reps.none _ _))));intro Al w13 ho14 hb hg_ hnew_;clear hg_ hnew_;(first|rw [← Af.1] at ho14|(simp only [Int.reduceToNat] at ho14;rw [← Af.1] at ho14));have Ab:=A_ (Kd.R_lower ho14 (below_size bb_));replace Aa:=bz Aa hb;replace HB:=A_ (below_step bb_ hb);clear hb ho14;obtain ⟨Ao15,co15,eo15⟩:=Kd.R_slice Ab.1;subst eo15)|(go_at_call 94;(with_reducible refine (Aa7.calls k a0_0 _ _ l0_1 _ _ Ah true _ ?side1 ?side2 ?side3 ?side4 A6.1).mono ?_);(case side1=>exact cl_ (Kd.C_below HR0_1.1 HB.1));(case side2=>exact HC0_1.1);(case side3=>exact cl_ (Kd.R_reads' Ab.1).2.2);(case side4=>exact (Kd.R_reads' Ab.1).2.1);rintro e w16 ⟨rfl,hb⟩;replace Ab:=rb_ Ab hb;replace Aa:=bz Aa hb;replace HB:=A_ (below_step bb_ hb);(try clear hb);(try clear hb2);(try clear hk);(try clear hi);obtain ⟨Z,Z,Z,Z⟩:=o2_ Aa.1)|((with_reducible refine gate_callee (f:=69) rfl ?_);refine goesL_ (some 22) rfl rfl Tryd.func69 (by kernel_rfl) rfl #[.agg #[.int .i64 a0_0,.slice A0_1 l0_1.length c0_1],.int .i64 a1,.int .i64 a2] rfl au_ ?_;(with_reducible refine (Aaj.calls a0_0 _ _ l0_1 a1 a2 Ac _ ?side1 ?side2 A8.1).mono ?_);(case side1=>exact cl_ (Kd.C_below HR0_1.1 HB.1));(case side2=>exact HC0_1.1);rintro e w18 ⟨rfl,hb⟩;refine ⟨_,rfl,?_⟩;replace Ab:=rb_ Ab hb;replace Aa:=bz Aa hb;replace HB:=A_ (below_step bb_ hb);(try clear hb);(try clear hb2);(try clear hk);(try clear hi)))
   go_ret2
   exact ⟨by first|rfl|(simp [errW_none,errW_some] <;> rfl)|(simp [*,errW_none,errW_some] <;> rfl),bb_⟩
  ·replace c7:=Bool.eq_false_iff.mpr c7;subst c7;have H1 : (some (false,false)) = some (r1,r2):=by rw [if_neg (show ¬ (false = true) by decide)] at H;exact H
   clear H;have H:=H1;clear H1;simp only [Option.some.injEq,Prod.mk.injEq] at H
   obtain ⟨rfl,rfl⟩:=H;go_enter Tryd.func38,Tryd.ntmps38
   go_wp2_with (first|((with_reducible refine gate_dst (N:=3) rfl ?_);(try (refine gate_guard (by rfl) ?_;dsimp only));refine box_event ?hg (N:=3) ?hd (cs:=#[.int .i64 a0_0,.slice A0_1 l0_1.length c0_1]) (t:=26) ?hr ?_;(case hd=>rfl);(case hg=>rfl);(case hr=>go_simp;try rfl);intro Ai hg w19 hbox hb;have Aa:=A_ (hbox);have Aj:=A_ (gw_ (w:=w) hg bb_);have Ak:=A_ (gw_ (w:=w) hg bb_);replace HB:=A_ (below_step bb_ hb);clear hb hbox hg;obtain ⟨Z,Z,Z,Z⟩:=o2_ Aa.1)|((with_reducible refine gate_callee (f:=61) rfl ?_);refine goesL_ (some 9) rfl rfl Tryd.func61 (by kernel_rfl) rfl #[.agg #[.int .i64 a0_0,.slice A0_1 l0_1.length c0_1]] rfl au_ ?_;(with_reducible refine (Aa5.calls k a0_0 _ _ l0_1 true _ ?side1 ?side2 A4.1).mono ?_);(case side1=>exact cl_ (Kd.C_below HR0_1.1 HB.1));(case side2=>exact HC0_1.1);rintro e w21 ⟨rfl,hb⟩;refine ⟨_,rfl,?_⟩;replace Aa:=bz Aa hb;replace HB:=A_ (below_step bb_ hb);(try clear hb);(try clear hb2);(try clear hk);(try clear hi);obtain ⟨Z,Z,Z,Z⟩:=o2_ Aa.1)|((with_reducible refine gate_dst (N:=15) rfl ?_);(try (refine gate_guard (by rfl) ?_;dsimp only));refine Kd.R_lit (Kd.int .i64) _ 3 ?hg (N:=15) ?hd (xs:=([a1,a2] : List Int)) (inner:=[.int .i64 a1,.int .i64 a2]) (ok:=fun _=>True) (okp:=fun _=>True) ?hr ?hp (fun _ hk=>hk) trivial (Below.refl _ _) (Nat.le_refl _) (by simp) ?_;(case hd=>rfl);(case hg=>rfl);(case hr=>go_simp;try rfl);(case hp=>exact (Reps.one (show Kd.M (Kd.int .i64) _ _ _ a1 [.int .i64 a1] from rfl) (Reps.one (show Kd.M (Kd.int .i64) _ _ _ a2 [.int .i64 a2] from rfl) (Reps.none _ _))));intro Al w23 ho24 hb hg_ hnew_;clear hg_ hnew_;(first|rw [← Af.1] at ho24|(simp only [Int.reduceToNat] at ho24;rw [← Af.1] at ho24));have Ab:=A_ (Kd.R_lower ho24 (below_size bb_));replace Aa:=bz Aa hb;replace HB:=A_ (below_step bb_ hb);clear hb ho24;obtain ⟨Ao25,co25,eo25⟩:=Kd.R_slice Ab.1;subst eo25)|(go_at_call 94;(with_reducible refine (Aa7.calls k a0_0 _ _ l0_1 _ _ Ah false _ ?side1 ?side2 ?side3 ?side4 A6.1).mono ?_);(case side1=>exact cl_ (Kd.C_below HR0_1.1 HB.1));(case side2=>exact HC0_1.1);(case side3=>exact cl_ (Kd.R_reads' Ab.1).2.2);(case side4=>exact (Kd.R_reads' Ab.1).2.1);rintro e w26 ⟨rfl,hb⟩;replace Ab:=rb_ Ab hb;replace Aa:=bz Aa hb;replace HB:=A_ (below_step bb_ hb);(try clear hb);(try clear hb2);(try clear hk);(try clear hi)))
   go_ret2
   exact ⟨by first|rfl|(simp [errW_none,errW_some] <;> rfl)|(simp [*,errW_none,errW_some] <;> rfl),bb_⟩
 ·replace c5:=Bool.eq_false_iff.mpr c5;subst c5;have H1 : (some (false,false)) = some (r1,r2):=by rw [if_neg (show ¬ (false = true) by decide)] at H;exact H
  clear H;have H:=H1;clear H1;simp only [Option.some.injEq,Prod.mk.injEq] at H
  obtain ⟨rfl,rfl⟩:=H;go_enter Tryd.func38,Tryd.ntmps38
  go_wp2_with (first|((with_reducible refine gate_dst (N:=3) rfl ?_);(try (refine gate_guard (by rfl) ?_;dsimp only));refine box_event ?hg (N:=3) ?hd (cs:=#[.int .i64 a0_0,.slice A0_1 l0_1.length c0_1]) (t:=26) ?hr ?_;(case hd=>rfl);(case hg=>rfl);(case hr=>go_simp;try rfl);intro Ai hg w27 hbox hb;have Aa:=A_ (hbox);have Aj:=A_ (gw_ (w:=w) hg bb_);have Ak:=A_ (gw_ (w:=w) hg bb_);replace HB:=A_ (below_step bb_ hb);clear hb hbox hg;obtain ⟨Z,Z,Z,Z⟩:=o2_ Aa.1)|((with_reducible refine gate_callee (f:=61) rfl ?_);refine goesL_ (some 9) rfl rfl Tryd.func61 (by kernel_rfl) rfl #[.agg #[.int .i64 a0_0,.slice A0_1 l0_1.length c0_1]] rfl au_ ?_;(with_reducible refine (Aa5.calls k a0_0 _ _ l0_1 false _ ?side1 ?side2 A4.1).mono ?_);(case side1=>exact cl_ (Kd.C_below HR0_1.1 HB.1));(case side2=>exact HC0_1.1);rintro e w29 ⟨rfl,hb⟩;refine ⟨_,rfl,?_⟩;replace Aa:=bz Aa hb;replace HB:=A_ (below_step bb_ hb);(try clear hb);(try clear hb2);(try clear hk);(try clear hi)))
  go_ret2
  exact ⟨by first|rfl|(simp [errW_none,errW_some] <;> rfl)|(simp [*,errW_none,errW_some] <;> rfl),bb_⟩
def Abn.f (k : Nat) (a0_0 : Int) (l0_1 : List Int) (a1 : Int) : Option (Int × Bool) := (Aa5.f k a0_0 l0_1).bind fun t974 => (if t974 = true then ((Aa7.f k a0_0 l0_1 (([a1] : List Int))).bind fun t978 => (if t978 = true then ((Aai.f k a0_0 l0_1).bind fun t979 => (if 0 ≤ a1 then (if a1 < (t979.length : Int) then (some (rd t979 a1, true)) else (none)) else (none))) else (some (0, false)))) else (some (0, false)))
set_option maxHeartbeats 8000000 in
set_option maxRecDepth 100000 in
theorem Abn.calls (k : Nat) (a0_0 : Int) (A0_1 : Option Addr) (c0_1 : Nat) (l0_1 : List Int) (a1 : Int) (r1 : Int) (r2 : Bool) (w : World) (hr0_1 : Kd.C (Kd.int .i64) w A0_1 l0_1.length l0_1) (hc0_1 : l0_1.length ≤ c0_1) (h : Abn.f k a0_0 l0_1 a1 = some (r1,r2)) :
 Calls Tryd.prog 39 #[.agg #[.int .i64 a0_0,.slice A0_1 l0_1.length c0_1],.int .i64 a1] w fun e w'=>e = .returned (.tuple #[.int .i64 r1,.bool r2]) ∧ Below w.heap.size w w':=by
 have hu26:=Tryd.underlying26;have HR0_1:=A_ hr0_1;have HC0_1:=A_ hc0_1;clear hr0_1 hc0_1;have HB:=A_ (Below.refl w.heap.size w);have H : ((Aa5.f k a0_0 l0_1).bind fun Ag=>(if Ag = true then ((Aa7.f k a0_0 l0_1 (([a1] : List Int))).bind fun Ad=>(if Ad = true then ((Aai.f k a0_0 l0_1).bind fun Ab=>(if 0 ≤ a1 then (if a1 < (Ab.length : Int) then (some (rd Ab a1,true)) else (none)) else (none))) else (some (0,false)))) else (some (0,false)))) = some (r1,r2):=h;clear h;replace H:=Option.bind_eq_some_iff.mp H;obtain ⟨Ag,A30,H⟩:=H;replace H : (if Ag = true then ((Aa7.f k a0_0 l0_1 (([a1] : List Int))).bind fun Ad=>(if Ad = true then ((Aai.f k a0_0 l0_1).bind fun Ab=>(if 0 ≤ a1 then (if a1 < (Ab.length : Int) then (some (rd Ab a1,true)) else (none)) else (none))) else (some (0,false)))) else (some (0,false))) = some (r1,r2):=H;have A3:=A_ A30;clear A30;by_cases c4 : Ag = true
 ·subst c4;have H1 : ((Aa7.f k a0_0 l0_1 (([a1] : List Int))).bind fun Ad=>(if Ad = true then ((Aai.f k a0_0 l0_1).bind fun Ab=>(if 0 ≤ a1 then (if a1 < (Ab.length : Int) then (some (rd Ab a1,true)) else (none)) else (none))) else (some (0,false)))) = some (r1,r2):=by rw [if_pos rfl] at H;exact H
  clear H;have H:=H1;clear H1;obtain ⟨Ah,Ae⟩ : ∃ y_ : List Int,y_ = (([a1] : List Int)):=⟨_,rfl⟩;replace H : ((Aa7.f k a0_0 l0_1 Ah).bind fun Ad=>(if Ad = true then ((Aai.f k a0_0 l0_1).bind fun Ab=>(if 0 ≤ a1 then (if a1 < (Ab.length : Int) then (some (rd Ab a1,true)) else (none)) else (none))) else (some (0,false)))) = some (r1,r2):=by first|(rw [Ae];with_reducible exact H)|(have H2_:=(Option.bind_some _ _).symm.trans H;rw [Ae];with_reducible exact H2_)|(have H2_:=(Option.bind_some _ _).symm.trans H;with_reducible exact H2_)|with_reducible exact H|(rw [Ae];exact H)|exact H
  have Af:=A_ Ae;clear Ae;replace H:=Option.bind_eq_some_iff.mp H;obtain ⟨Ad,A50,H⟩:=H;replace H : (if Ad = true then ((Aai.f k a0_0 l0_1).bind fun Ab=>(if 0 ≤ a1 then (if a1 < (Ab.length : Int) then (some (rd Ab a1,true)) else (none)) else (none))) else (some (0,false))) = some (r1,r2):=H;have A5:=A_ A50;clear A50;by_cases c6 : Ad = true
  ·subst c6;have H1 : ((Aai.f k a0_0 l0_1).bind fun Ab=>(if 0 ≤ a1 then (if a1 < (Ab.length : Int) then (some (rd Ab a1,true)) else (none)) else (none))) = some (r1,r2):=by rw [if_pos rfl] at H;exact H
   clear H;have H:=H1;clear H1;replace H:=Option.bind_eq_some_iff.mp H;obtain ⟨Ab,A70,H⟩:=H;replace H : (if 0 ≤ a1 then (if a1 < (Ab.length : Int) then (some (rd Ab a1,true)) else (none)) else (none)) = some (r1,r2):=H;have A7:=A_ A70;clear A70;by_cases c8 : 0 ≤ a1
   ·rw [if_pos c8] at H;have c8b0 : decide (0 ≤ a1) = true:=decide_eq_true c8;clear c8;by_cases c9 : a1 < (Ab.length : Int)
    ·rw [if_pos c9] at H;have c9b0 : decide (a1 < (Ab.length : Int)) = true:=decide_eq_true c9;clear c9;simp only [Option.some.injEq,Prod.mk.injEq] at H
     obtain ⟨rfl,rfl⟩:=H;go_enter Tryd.func39,Tryd.ntmps39
     go_wp2_with (first|((with_reducible refine gate_dst (N:=2) rfl ?_);(try (refine gate_guard (by rfl) ?_;dsimp only));refine box_event ?hg (N:=2) ?hd (cs:=#[.int .i64 a0_0,.slice A0_1 l0_1.length c0_1]) (t:=26) ?hr ?_;(case hd=>rfl);(case hg=>rfl);(case hr=>go_simp;try rfl);intro Ak hg w10 hbox hb;have Aa:=A_ (hbox);have Al:=A_ (gw_ (w:=w) hg bb_);have Am:=A_ (gw_ (w:=w) hg bb_);replace HB:=A_ (below_step bb_ hb);clear hb hbox hg;obtain ⟨Z,Z,Z,Z⟩:=o2_ Aa.1)|((with_reducible refine gate_callee (f:=61) rfl ?_);refine goesL_ (some 7) rfl rfl Tryd.func61 (by kernel_rfl) rfl #[.agg #[.int .i64 a0_0,.slice A0_1 l0_1.length c0_1]] rfl au_ ?_;(with_reducible refine (Aa5.calls k a0_0 _ _ l0_1 true _ ?side1 ?side2 A3.1).mono ?_);(case side1=>exact cl_ (Kd.C_below HR0_1.1 HB.1));(case side2=>exact HC0_1.1);rintro e w12 ⟨rfl,hb⟩;refine ⟨_,rfl,?_⟩;replace Aa:=bz Aa hb;replace HB:=A_ (below_step bb_ hb);(try clear hb);(try clear hb2);(try clear hk);(try clear hi);obtain ⟨Z,Z,Z,Z⟩:=o2_ Aa.1)|((with_reducible refine gate_dst (N:=12) rfl ?_);(try (refine gate_guard (by rfl) ?_;dsimp only));refine Kd.R_lit (Kd.int .i64) _ 3 ?hg (N:=12) ?hd (xs:=([a1] : List Int)) (inner:=[.int .i64 a1]) (ok:=fun _=>True) (okp:=fun _=>True) ?hr ?hp (fun _ hk=>hk) trivial (Below.refl _ _) (Nat.le_refl _) (by simp) ?_;(case hd=>rfl);(case hg=>rfl);(case hr=>go_simp;try rfl);(case hp=>exact (Reps.one (show Kd.M (Kd.int .i64) _ _ _ a1 [.int .i64 a1] from rfl) (Reps.none _ _)));intro Ao w14 ho15 hb hg_ hnew_;clear hg_ hnew_;(first|rw [← Af.1] at ho15|(simp only [Int.reduceToNat] at ho15;rw [← Af.1] at ho15));have Ac:=A_ (Kd.R_lower ho15 (below_size bb_));replace Aa:=bz Aa hb;replace HB:=A_ (below_step bb_ hb);clear hb ho15;obtain ⟨Ao16,co16,eo16⟩:=Kd.R_slice Ac.1;subst eo16)|(go_at_call 94;(with_reducible refine (Aa7.calls k a0_0 _ _ l0_1 _ _ Ah true _ ?side1 ?side2 ?side3 ?side4 A5.1).mono ?_);(case side1=>exact cl_ (Kd.C_below HR0_1.1 HB.1));(case side2=>exact HC0_1.1);(case side3=>exact cl_ (Kd.R_reads' Ac.1).2.2);(case side4=>exact (Kd.R_reads' Ac.1).2.1);rintro e w17 ⟨rfl,hb⟩;replace Ac:=rb_ Ac hb;replace Aa:=bz Aa hb;replace HB:=A_ (below_step bb_ hb);(try clear hb);(try clear hb2);(try clear hk);(try clear hi);obtain ⟨Z,Z,Z,Z⟩:=o2_ Aa.1)|((with_reducible refine gate_callee (f:=95) rfl ?_);refine goesL_ (some 17) rfl rfl Tryd.func95 (by kernel_rfl) rfl #[.agg #[.int .i64 a0_0,.slice A0_1 l0_1.length c0_1]] rfl au_ ?_;(with_reducible refine (Aai.calls k a0_0 _ _ l0_1 Ab _ ?side1 ?side2 A7.1).mono ?_);(case side1=>exact cl_ (Kd.C_below HR0_1.1 HB.1));(case side2=>exact HC0_1.1);rintro e w19 ⟨As,rfl,ho0,hb⟩;refine ⟨_,rfl,?_⟩;have An:=A_ (Kd.R_lower (Kd.R_new' ho0 (Kd.R_lt (rl_ Ac))) (below_size bb_));replace Ac:=A_ (Kd.R_elder' (rl_ Ac) (Kd.R_base ho0) hb);replace Aa:=bz Aa hb;replace HB:=A_ (below_step bb_ hb);(try clear hb);(try clear hb2);(try clear hk);(try clear hi);(try clear ho0);obtain ⟨Ao20,co20,eo20⟩:=Kd.R_slice An.1;subst eo20;have Ai : 0 ≤ (a1 : Int):=of_decide_eq_true (by first|(with_reducible assumption)|assumption);have Aj : a1 < (Ab.length : Int):=of_decide_eq_true (by first|(with_reducible assumption)|assumption);obtain ⟨Ar,Ap,Aq⟩:=Kd.at_int (Kd.R_reads' An.1).2.2 a1 Ai Aj;cases Ap;replace Ai:=eq_true Ai;replace Aj:=eq_true Aj))
     go_ret2
     exact ⟨by first|rfl|(simp [errW_none,errW_some] <;> rfl)|(simp [*,errW_none,errW_some] <;> rfl),bb_⟩
    ·rw [if_neg c9] at H;exact absurd H (by simp)
   ·rw [if_neg c8] at H;exact absurd H (by simp)
  ·replace c6:=Bool.eq_false_iff.mpr c6;subst c6;have H1 : (some (0,false)) = some (r1,r2):=by rw [if_neg (show ¬ (false = true) by decide)] at H;exact H
   clear H;have H:=H1;clear H1;simp only [Option.some.injEq,Prod.mk.injEq] at H
   obtain ⟨rfl,rfl⟩:=H;go_enter Tryd.func39,Tryd.ntmps39
   go_wp2_with (first|((with_reducible refine gate_dst (N:=2) rfl ?_);(try (refine gate_guard (by rfl) ?_;dsimp only));refine box_event ?hg (N:=2) ?hd (cs:=#[.int .i64 a0_0,.slice A0_1 l0_1.length c0_1]) (t:=26) ?hr ?_;(case hd=>rfl);(case hg=>rfl);(case hr=>go_simp;try rfl);intro Ak hg w21 hbox hb;have Aa:=A_ (hbox);have Al:=A_ (gw_ (w:=w) hg bb_);have Am:=A_ (gw_ (w:=w) hg bb_);replace HB:=A_ (below_step bb_ hb);clear hb hbox hg;obtain ⟨Z,Z,Z,Z⟩:=o2_ Aa.1)|((with_reducible refine gate_callee (f:=61) rfl ?_);refine goesL_ (some 7) rfl rfl Tryd.func61 (by kernel_rfl) rfl #[.agg #[.int .i64 a0_0,.slice A0_1 l0_1.length c0_1]] rfl au_ ?_;(with_reducible refine (Aa5.calls k a0_0 _ _ l0_1 true _ ?side1 ?side2 A3.1).mono ?_);(case side1=>exact cl_ (Kd.C_below HR0_1.1 HB.1));(case side2=>exact HC0_1.1);rintro e w23 ⟨rfl,hb⟩;refine ⟨_,rfl,?_⟩;replace Aa:=bz Aa hb;replace HB:=A_ (below_step bb_ hb);(try clear hb);(try clear hb2);(try clear hk);(try clear hi);obtain ⟨Z,Z,Z,Z⟩:=o2_ Aa.1)|((with_reducible refine gate_dst (N:=12) rfl ?_);(try (refine gate_guard (by rfl) ?_;dsimp only));refine Kd.R_lit (Kd.int .i64) _ 3 ?hg (N:=12) ?hd (xs:=([a1] : List Int)) (inner:=[.int .i64 a1]) (ok:=fun _=>True) (okp:=fun _=>True) ?hr ?hp (fun _ hk=>hk) trivial (Below.refl _ _) (Nat.le_refl _) (by simp) ?_;(case hd=>rfl);(case hg=>rfl);(case hr=>go_simp;try rfl);(case hp=>exact (Reps.one (show Kd.M (Kd.int .i64) _ _ _ a1 [.int .i64 a1] from rfl) (Reps.none _ _)));intro Ao w25 ho26 hb hg_ hnew_;clear hg_ hnew_;(first|rw [← Af.1] at ho26|(simp only [Int.reduceToNat] at ho26;rw [← Af.1] at ho26));have Ac:=A_ (Kd.R_lower ho26 (below_size bb_));replace Aa:=bz Aa hb;replace HB:=A_ (below_step bb_ hb);clear hb ho26;obtain ⟨Ao27,co27,eo27⟩:=Kd.R_slice Ac.1;subst eo27)|(go_at_call 94;(with_reducible refine (Aa7.calls k a0_0 _ _ l0_1 _ _ Ah false _ ?side1 ?side2 ?side3 ?side4 A5.1).mono ?_);(case side1=>exact cl_ (Kd.C_below HR0_1.1 HB.1));(case side2=>exact HC0_1.1);(case side3=>exact cl_ (Kd.R_reads' Ac.1).2.2);(case side4=>exact (Kd.R_reads' Ac.1).2.1);rintro e w28 ⟨rfl,hb⟩;replace Ac:=rb_ Ac hb;replace Aa:=bz Aa hb;replace HB:=A_ (below_step bb_ hb);(try clear hb);(try clear hb2);(try clear hk);(try clear hi)))
   go_ret2
   exact ⟨by first|rfl|(simp [errW_none,errW_some] <;> rfl)|(simp [*,errW_none,errW_some] <;> rfl),bb_⟩
 ·replace c4:=Bool.eq_false_iff.mpr c4;subst c4;have H1 : (some (0,false)) = some (r1,r2):=by rw [if_neg (show ¬ (false = true) by decide)] at H;exact H
  clear H;have H:=H1;clear H1;simp only [Option.some.injEq,Prod.mk.injEq] at H
  obtain ⟨rfl,rfl⟩:=H;go_enter Tryd.func39,Tryd.ntmps39
  go_wp2_with (first|((with_reducible refine gate_dst (N:=2) rfl ?_);(try (refine gate_guard (by rfl) ?_;dsimp only));refine box_event ?hg (N:=2) ?hd (cs:=#[.int .i64 a0_0,.slice A0_1 l0_1.length c0_1]) (t:=26) ?hr ?_;(case hd=>rfl);(case hg=>rfl);(case hr=>go_simp;try rfl);intro Ak hg w29 hbox hb;have Aa:=A_ (hbox);have Al:=A_ (gw_ (w:=w) hg bb_);have Am:=A_ (gw_ (w:=w) hg bb_);replace HB:=A_ (below_step bb_ hb);clear hb hbox hg;obtain ⟨Z,Z,Z,Z⟩:=o2_ Aa.1)|((with_reducible refine gate_callee (f:=61) rfl ?_);refine goesL_ (some 7) rfl rfl Tryd.func61 (by kernel_rfl) rfl #[.agg #[.int .i64 a0_0,.slice A0_1 l0_1.length c0_1]] rfl au_ ?_;(with_reducible refine (Aa5.calls k a0_0 _ _ l0_1 false _ ?side1 ?side2 A3.1).mono ?_);(case side1=>exact cl_ (Kd.C_below HR0_1.1 HB.1));(case side2=>exact HC0_1.1);rintro e w31 ⟨rfl,hb⟩;refine ⟨_,rfl,?_⟩;replace Aa:=bz Aa hb;replace HB:=A_ (below_step bb_ hb);(try clear hb);(try clear hb2);(try clear hk);(try clear hi)))
  go_ret2
  exact ⟨by first|rfl|(simp [errW_none,errW_some] <;> rfl)|(simp [*,errW_none,errW_some] <;> rfl),bb_⟩
def Abf.f (k : Nat) (a0_0 : Int) (l0_1 : List Int) (a1 : Int) : Option (Bool) := (Aap.f k a0_0 l0_1).bind fun t984 => (if t984 = true then ((Abe.f a1 1 10).bind fun t985 => (some t985)) else (some false))
set_option maxHeartbeats 8000000 in
set_option maxRecDepth 100000 in
theorem Abf.calls (k : Nat) (a0_0 : Int) (A0_1 : Option Addr) (c0_1 : Nat) (l0_1 : List Int) (a1 : Int) (r : Bool) (w : World) (hr0_1 : Kd.C (Kd.int .i64) w A0_1 l0_1.length l0_1) (hc0_1 : l0_1.length ≤ c0_1) (hT : TabOK w) (h : Abf.f k a0_0 l0_1 a1 = some r) :
 Calls Tryd.prog 96 #[.agg #[.int .i64 a0_0,.slice A0_1 l0_1.length c0_1],.int .i64 a1] w fun e w'=>e = .returned (.bool r) ∧ Below w.heap.size w w':=by
 have hu26:=Tryd.underlying26;have HT:=A_ hT;clear hT;have HR0_1:=A_ hr0_1;have HC0_1:=A_ hc0_1;clear hr0_1 hc0_1;have HB:=A_ (Below.refl w.heap.size w);have H : ((Aap.f k a0_0 l0_1).bind fun Ab=>(if Ab = true then ((Abe.f a1 1 10).bind fun Ac=>(some Ac)) else (some false))) = some r:=h;clear h;replace H:=Option.bind_eq_some_iff.mp H;obtain ⟨Ab,A30,H⟩:=H;(try dsimp only at H);have A3:=A_ A30;clear A30;by_cases c4 : Ab = true
 ·subst c4;rw [if_pos rfl] at H;replace H:=Option.bind_eq_some_iff.mp H;obtain ⟨Ac,A50,H⟩:=H;(try dsimp only at H);have A5:=A_ A50;clear A50;obtain rfl:=Option.some.inj H;go_enter Tryd.func96,Tryd.ntmps96
  go_wp2_with (first|((with_reducible refine gate_dst (N:=2) rfl ?_);refine box_event ?hg (N:=2) ?hd (cs:=#[.int .i64 a0_0,.slice A0_1 l0_1.length c0_1]) (t:=26) ?hr ?_;(case hd=>rfl);(case hg=>rfl);(case hr=>go_simp;try rfl);intro Ad hg w6 hbox hb;have Aa:=A_ (hbox);have Ae:=A_ (gw_ (w:=w) hg bb_);have Af:=A_ (gw_ (w:=w) hg bb_);replace HB:=A_ (below_step bb_ hb);clear hb hbox hg;obtain ⟨Z,Z,Z,Z⟩:=o2_ Aa.1)|((with_reducible refine gate_callee (f:=16) rfl ?_);refine goesL_ (some 6) rfl rfl Tryd.func16 (by kernel_rfl) rfl #[.agg #[.int .i64 a0_0,.slice A0_1 l0_1.length c0_1]] rfl au_ ?_;(with_reducible refine (Aap.calls k a0_0 _ _ l0_1 true _ ?side1 ?side2 ?side3 A3.1).mono ?_);(case side1=>exact cl_ (Kd.C_below HR0_1.1 HB.1));(case side2=>exact HC0_1.1);(case side3=>first|exact HT.1|exact HT.1.below bb_|(repeat (first|exact HT.1|apply TabOK.drewN|apply TabOK.drew|apply TabOK.alloc)));rintro e w8 ⟨rfl,hb⟩;refine ⟨_,rfl,?_⟩;replace Aa:=bz Aa hb;replace HB:=A_ (below_step bb_ hb);(try clear hb);(try clear hb2);(try clear hk);(try clear hi))|(go_at_call 114;(with_reducible refine (Abe.calls a1 1 10 Ac _ A5.1).mono ?_);rintro e w' ⟨rfl,⟨nd,rfl⟩⟩))
  go_ret
  exact ⟨by first|rfl|(simp [errW_none,errW_some] <;> rfl)|(simp [*,errW_none,errW_some] <;> rfl),bb_⟩
 ·replace c4:=Bool.eq_false_iff.mpr c4;subst c4;rw [if_neg nf_] at H;obtain rfl:=Option.some.inj H;go_enter Tryd.func96,Tryd.ntmps96
  go_wp2_with (first|((with_reducible refine gate_dst (N:=2) rfl ?_);refine box_event ?hg (N:=2) ?hd (cs:=#[.int .i64 a0_0,.slice A0_1 l0_1.length c0_1]) (t:=26) ?hr ?_;(case hd=>rfl);(case hg=>rfl);(case hr=>go_simp;try rfl);intro Ad hg w9 hbox hb;have Aa:=A_ (hbox);have Ae:=A_ (gw_ (w:=w) hg bb_);have Af:=A_ (gw_ (w:=w) hg bb_);replace HB:=A_ (below_step bb_ hb);clear hb hbox hg;obtain ⟨Z,Z,Z,Z⟩:=o2_ Aa.1)|((with_reducible refine gate_callee (f:=16) rfl ?_);refine goesL_ (some 6) rfl rfl Tryd.func16 (by kernel_rfl) rfl #[.agg #[.int .i64 a0_0,.slice A0_1 l0_1.length c0_1]] rfl au_ ?_;(with_reducible refine (Aap.calls k a0_0 _ _ l0_1 false _ ?side1 ?side2 ?side3 A3.1).mono ?_);(case side1=>exact cl_ (Kd.C_below HR0_1.1 HB.1));(case side2=>exact HC0_1.1);(case side3=>first|exact HT.1|exact HT.1.below bb_|(repeat (first|exact HT.1|apply TabOK.drewN|apply TabOK.drew|apply TabOK.alloc)));rintro e w11 ⟨rfl,hb⟩;refine ⟨_,rfl,?_⟩;replace Aa:=bz Aa hb;replace HB:=A_ (below_step bb_ hb);(try clear hb);(try clear hb2);(try clear hk);(try clear hi)))
  go_ret
  exact ⟨by first|rfl|(simp [errW_none,errW_some] <;> rfl)|(simp [*,errW_none,errW_some] <;> rfl),bb_⟩
theorem Aba.nilAt {P : Program} (w : World) (d : Nat) (t e : TypeId) (a : Option Addr) (l c : Nat) (h : P.underlying t = some (.slice e)) : (Op.equalIn (d + 1) t (.slice a l c) (.slice none 0 0)).run P w = .ok a.isNone w:=by
 cases a <;> simp [Op.equalIn,run_underlying h]
theorem Aba.nilNo {P : Program} (w : World) (t e : TypeId) (a : Option Addr) (l c : Nat) (h : P.underlying t = some (.slice e)) : (binOp .neq t (.slice a l c) (.slice none 0 0)).run P w = .ok (.bool (!a.isNone)) w:=by
 have h1 : (Op.equal t (.slice a l c) (.slice none 0 0)).run P w = .ok a.isNone w:=Aba.nilAt w 9999 t e a l c h;simp [binOp,h1]
theorem Aba.nilN (w : World) (a : Option Addr) (l c : Nat) : (binOp .neq 24 (.slice a l c) (.slice none 0 0)).run Tryd.prog w = .ok (.bool (!a.isNone)) w:=Aba.nilNo w _ _ a l c Tryd.underlying24
attribute [local go_sem] Aba.nilN
def Aba.f (k : Nat) (a0_0 : Int) (l0_1 : List Int) (a1 : Int) : Option (List Int × Bool) := (Abf.f k a0_0 l0_1 a1).bind fun t987 => (if t987 = true then ((Aad.f k a0_0 l0_1 a1).bind fun bt988 => (some (bt988.1, (bt988.1 != ([] : List Int) || a0_0 == 0)))) else (some (([] : List Int), false)))
set_option maxHeartbeats 8000000 in
set_option maxRecDepth 100000 in
theorem Aba.calls (k : Nat) (a0_0 : Int) (A0_1 : Option Addr) (c0_1 : Nat) (l0_1 : List Int) (a1 : Int) (r1 : List Int) (r2 : Bool) (w : World) (hr0_1 : Kd.C (Kd.int .i64) w A0_1 l0_1.length l0_1) (hc0_1 : l0_1.length ≤ c0_1) (hT : TabOK w) (h : Aba.f k a0_0 l0_1 a1 = some (r1,r2)) :
 Calls Tryd.prog 40 #[.agg #[.int .i64 a0_0,.slice A0_1 l0_1.length c0_1],.int .i64 a1] w fun e w'=>∃ v0_ : Value,e = .returned (.tuple #[v0_,.bool r2]) ∧ Kd.R (Kd.int .i64) 3 w' w.heap.size (fun _=>True) v0_ r1 ∧ Below w.heap.size w w':=by
 have hu26:=Tryd.underlying26;have HT:=A_ hT;clear hT;have HR0_1:=A_ hr0_1;have HC0_1:=A_ hc0_1;clear hr0_1 hc0_1;have HB:=A_ (Below.refl w.heap.size w);have H : ((Abf.f k a0_0 l0_1 a1).bind fun Ac=>(if Ac = true then ((Aad.f k a0_0 l0_1 a1).bind fun Ab=>(some (Ab.1,(Ab.1 != ([] : List Int) || a0_0 == 0)))) else (some (([] : List Int),false)))) = some (r1,r2):=h;clear h;replace H:=Option.bind_eq_some_iff.mp H;obtain ⟨Ac,A30,H⟩:=H;replace H : (if Ac = true then ((Aad.f k a0_0 l0_1 a1).bind fun Ab=>(some (Ab.1,(Ab.1 != ([] : List Int) || a0_0 == 0)))) else (some (([] : List Int),false))) = some (r1,r2):=H;have A3:=A_ A30;clear A30;by_cases c4 : Ac = true
 ·subst c4;have H1 : ((Aad.f k a0_0 l0_1 a1).bind fun Ab=>(some (Ab.1,(Ab.1 != ([] : List Int) || a0_0 == 0)))) = some (r1,r2):=by rw [if_pos rfl] at H;exact H
  clear H;have H:=H1;clear H1;replace H:=Option.bind_eq_some_iff.mp H;obtain ⟨⟨Ad,Ai,Aj⟩,A50,H⟩:=H;replace H : (some (Ad,(Ad != ([] : List Int) || a0_0 == 0))) = some (r1,r2):=H;have A5:=A_ A50;clear A50;simp only [Option.some.injEq,Prod.mk.injEq] at H
  obtain ⟨rfl,rfl⟩:=H;go_enter Tryd.func40,Tryd.ntmps40
  go_wp2_with (first|((with_reducible refine gate_dst (N:=2) rfl ?_);refine box_event ?hg (N:=2) ?hd (cs:=#[.int .i64 a0_0,.slice A0_1 l0_1.length c0_1]) (t:=26) ?hr ?_;(case hd=>rfl);(case hg=>rfl);(case hr=>go_simp;try rfl);intro Af hg w6 hbox hb;have Aa:=A_ (hbox);have Ag:=A_ (gw_ (w:=w) hg bb_);have Ah:=A_ (gw_ (w:=w) hg bb_);replace HB:=A_ (below_step bb_ hb);clear hb hbox hg;obtain ⟨Z,Z,Z,Z⟩:=o2_ Aa.1)|((with_reducible refine gate_callee (f:=96) rfl ?_);refine goesL_ (some 11) rfl rfl Tryd.func96 (by kernel_rfl) rfl #[.agg #[.int .i64 a0_0,.slice A0_1 l0_1.length c0_1],.int .i64 a1] rfl au_ ?_;(with_reducible refine (Abf.calls k a0_0 _ _ l0_1 a1 true _ ?side1 ?side2 ?side3 A3.1).mono ?_);(case side1=>exact cl_ (Kd.C_below HR0_1.1 HB.1));(case side2=>exact HC0_1.1);(case side3=>first|exact HT.1|exact HT.1.below bb_|(repeat (first|exact HT.1|apply TabOK.drewN|apply TabOK.drew|apply TabOK.alloc)));rintro e w8 ⟨rfl,hb⟩;refine ⟨_,rfl,?_⟩;replace Aa:=bz Aa hb;replace HB:=A_ (below_step bb_ hb);(try clear hb);(try clear hb2);(try clear hk);(try clear hi);obtain ⟨Z,Z,Z,Z⟩:=o2_ Aa.1)|((with_reducible refine gate_callee (f:=88) rfl ?_);refine goesL_ (some 16) rfl rfl Tryd.func88 (by kernel_rfl) rfl #[.agg #[.int .i64 a0_0,.slice A0_1 l0_1.length c0_1],.int .i64 a1] rfl au_ ?_;(with_reducible refine (Aad.calls k a0_0 _ _ l0_1 a1 Ad Ai Aj _ ?side1 ?side2 A5.1).mono ?_);(case side1=>exact cl_ (Kd.C_below HR0_1.1 HB.1));(case side2=>exact HC0_1.1);rintro e w10 ⟨Al,Am,rfl,ho0,ho1,hb,hz_⟩;have HZ_:=A_ hz_;clear hz_;refine ⟨_,rfl,?_⟩;have Ae:=A_ (Kd.R_lower ho0 (below_size bb_));have Ak:=A_ (Kd.R_lower ho1 (below_size bb_));replace Aa:=bz Aa hb;replace HB:=A_ (below_step bb_ hb);(try clear hb);(try clear hb2);(try clear hk);(try clear hi);(try clear ho0);(try clear ho1);obtain ⟨Ao11,co11,eo11⟩:=Kd.R_slice Ae.1;subst eo11;(try have hnl11:=HZ_.1 _ _ _ rfl);(try clear HZ_)))
  go_ret2
  exact ⟨_,by first|rfl|(rw [hnl11,Bool.not_not] <;> rfl)|(simp [*,errW_none,errW_some] <;> rfl)|(simp [errW_none,errW_some] <;> rfl)|(simp [*,errW_none,errW_some] <;> rfl),rq_ (Kd.R_mono Ae.1 (fun _ hk=>trivial)),bb_⟩
 ·replace c4:=Bool.eq_false_iff.mpr c4;subst c4;have H1 : (some (([] : List Int),false)) = some (r1,r2):=by rw [if_neg (show ¬ (false = true) by decide)] at H;exact H
  clear H;have H:=H1;clear H1;simp only [Option.some.injEq,Prod.mk.injEq] at H
  obtain ⟨rfl,rfl⟩:=H;go_enter Tryd.func40,Tryd.ntmps40
  go_wp2_with (first|((with_reducible refine gate_dst (N:=2) rfl ?_);refine box_event ?hg (N:=2) ?hd (cs:=#[.int .i64 a0_0,.slice A0_1 l0_1.length c0_1]) (t:=26) ?hr ?_;(case hd=>rfl);(case hg=>rfl);(case hr=>go_simp;try rfl);intro Af hg w12 hbox hb;have Aa:=A_ (hbox);have Ag:=A_ (gw_ (w:=w) hg bb_);have Ah:=A_ (gw_ (w:=w) hg bb_);replace HB:=A_ (below_step bb_ hb);clear hb hbox hg;obtain ⟨Z,Z,Z,Z⟩:=o2_ Aa.1)|((with_reducible refine gate_callee (f:=96) rfl ?_);refine goesL_ (some 11) rfl rfl Tryd.func96 (by kernel_rfl) rfl #[.agg #[.int .i64 a0_0,.slice A0_1 l0_1.length c0_1],.int .i64 a1] rfl au_ ?_;(with_reducible refine (Abf.calls k a0_0 _ _ l0_1 a1 false _ ?side1 ?side2 ?side3 A3.1).mono ?_);(case side1=>exact cl_ (Kd.C_below HR0_1.1 HB.1));(case side2=>exact HC0_1.1);(case side3=>first|exact HT.1|exact HT.1.below bb_|(repeat (first|exact HT.1|apply TabOK.drewN|apply TabOK.drew|apply TabOK.alloc)));rintro e w14 ⟨rfl,hb⟩;refine ⟨_,rfl,?_⟩;replace Aa:=bz Aa hb;replace HB:=A_ (below_step bb_ hb);(try clear hb);(try clear hb2);(try clear hk);(try clear hi)))
  go_ret2
  exact ⟨_,by first|rfl|(rw [hnl11,Bool.not_not] <;> rfl)|(simp [*,errW_none,errW_some] <;> rfl)|(simp [errW_none,errW_some] <;> rfl)|(simp [*,errW_none,errW_some] <;> rfl),by first|exact Kd.R_nil _ _ _ _ _|exact Kd.N_nil _ _ _ _ _|exact Kd.V_nil _ _ _ _ _|exact Kd.Q_nil _ _ _ _ _|exact Kd.S_nil _ _ _ _ _,bb_⟩
def Abx.f (a0 : Int) (a1 : Int) (l2_0 : List Int) (a3_0 : Int) : Option (Bool) := if 0 ≤ a1 then (if a1 < (l2_0.length : Int) then (if 0 ≤ a0 then (if a0 < (l2_0.length : Int) then (some (decide ((wrap64 ((rd l2_0 a1) - (rd l2_0 a0))) ≥ a3_0))) else (none)) else (none)) else (none)) else (none)
set_option maxHeartbeats 8000000 in
set_option maxRecDepth 100000 in
theorem Abx.calls (a0 : Int) (a1 : Int) (g2_ : Nat) (A2_0 : Option Addr) (c2_0 : Nat) (l2_0 : List Int) (g3_ : Nat) (a3_0 : Int) (r : Bool) (w : World) (hb2 : w.heap[g2_]? = some (.cells #[.slice A2_0 l2_0.length c2_0] 24 (0,0))) (hr2_0 : Kd.C (Kd.int .i64) w A2_0 l2_0.length l2_0) (hc2_0 : l2_0.length ≤ c2_0) (hb3 : w.heap[g3_]? = some (.cells #[.int .i64 a3_0] 3 (0,0))) (hn2_3 : g2_ ≠ g3_) (h : Abx.f a0 a1 l2_0 a3_0 = some r) :
 Calls Tryd.prog 152 #[.int .i64 a0,.int .i64 a1,.pointer (some ⟨g2_,0,none⟩),.pointer (some ⟨g3_,0,none⟩)] w fun e w'=>e = .returned (.bool r) ∧ Below w.heap.size w w':=by
 have HR2_0:=A_ hr2_0;have HC2_0:=A_ hc2_0;clear hr2_0 hc2_0;have Ag:=A_ hb2;clear hb2;have Ah:=A_ hb3;clear hb3;have Aa:=A_ hn2_3;have Ab:=A_ (Ne.symm hn2_3);clear hn2_3;have HB:=A_ (Below.refl w.heap.size w);have H : (if 0 ≤ a1 then (if a1 < (l2_0.length : Int) then (if 0 ≤ a0 then (if a0 < (l2_0.length : Int) then (some (decide ((wrap64 ((rd l2_0 a1) - (rd l2_0 a0))) ≥ a3_0))) else (none)) else (none)) else (none)) else (none)) = some r:=h;clear h;by_cases c5 : 0 ≤ a1
 ·rw [if_pos c5] at H;have c5b0 : decide (0 ≤ a1) = true:=decide_eq_true c5;clear c5;by_cases c6 : a1 < (l2_0.length : Int)
  ·rw [if_pos c6] at H;have c6b0 : decide (a1 < (l2_0.length : Int)) = true:=decide_eq_true c6;clear c6;by_cases c7 : 0 ≤ a0
   ·rw [if_pos c7] at H;have c7b0 : decide (0 ≤ a0) = true:=decide_eq_true c7;clear c7;by_cases c8 : a0 < (l2_0.length : Int)
    ·rw [if_pos c8] at H;have c8b0 : decide (a0 < (l2_0.length : Int)) = true:=decide_eq_true c8;clear c8;obtain rfl:=Option.some.inj H;have hnb9:=Aa.1;have hnc9:=Ab.1;have hcz10_0 : w.cell? ⟨g2_,0,none⟩ = some (.slice A2_0 l2_0.length c2_0):=blk_cell Ag.1 0;have hfz10_0:=blk_frozen Ag.1 0;have Ac : 0 ≤ (a1 : Int):=of_decide_eq_true (by first|(with_reducible assumption)|assumption);have Ad : a1 < (l2_0.length : Int):=of_decide_eq_true (by first|(with_reducible assumption)|assumption);obtain ⟨Ai,Ak,Am⟩:=Kd.at_int HR2_0.1 a1 Ac Ad;cases Ak
     replace Ac:=eq_true Ac;replace Ad:=eq_true Ad;have Ae : 0 ≤ (a0 : Int):=of_decide_eq_true (by first|(with_reducible assumption)|assumption);have Af : a0 < (l2_0.length : Int):=of_decide_eq_true (by first|(with_reducible assumption)|assumption);obtain ⟨Aj,Al,An⟩:=Kd.at_int HR2_0.1 a0 Ae Af;obtain rfl : Ai = Aj:=(by injection Al);replace Ae:=eq_true Ae;replace Af:=eq_true Af;have hcz11_0 : w.cell? ⟨g3_,0,none⟩ = some (.int .i64 a3_0):=blk_cell Ah.1 0;have hfz11_0:=blk_frozen Ah.1 0;go_enter Tryd.func152,Tryd.ntmps152
     go_wp2
     repeat (go_quiet (fail);try go_wp2)
     go_ret
     exact ⟨by first|rfl|(simp [errW_none,errW_some] <;> rfl)|(simp [*,errW_none,errW_some] <;> rfl),bb_⟩
    ·rw [if_neg c8] at H;exact absurd H (by simp)
   ·rw [if_neg c7] at H;exact absurd H (by simp)
  ·rw [if_neg c6] at H;exact absurd H (by simp)
 ·rw [if_neg c5] at H;exact absurd H (by simp)
def Ab3.f (k : Nat) (a0 : Int) (l1 : List Int) : Option (Int × List Int) := (Aak.f k (l1.length : Int) (fun x0_ x1_ => Abx.f x0_ x1_ l1 a0)).bind fun bt1002 => (some (bt1002.1, bt1002.2))
set_option maxHeartbeats 8000000 in
set_option maxRecDepth 100000 in
theorem Ab3.calls (k : Nat) (a0 : Int) (A1 : Option Addr) (c1 : Nat) (l1 : List Int) (r1 : Int) (r2 : List Int) (w : World) (hr1 : Kd.C (Kd.int .i64) w A1 l1.length l1) (hc1 : l1.length ≤ c1) (h : Ab3.f k a0 l1 = some (r1,r2)) :
 Calls Tryd.prog 137 #[.int .i64 a0,.slice A1 l1.length c1] w fun e w'=>∃ v1_ : Value,e = .returned (.agg #[.int .i64 r1,v1_]) ∧ Kd.R (Kd.int .i64) 3 w' w.heap.size (fun _=>True) v1_ r2 ∧ Below w.heap.size w w':=by
 have hu26:=Tryd.underlying26;have HR1:=A_ hr1;have HC1:=A_ hc1;clear hr1 hc1;have HB:=A_ (Below.refl w.heap.size w);have H : ((Aak.f k (l1.length : Int) (fun x0_ x1_=>Abx.f x0_ x1_ l1 a0)).bind fun Ao=>(some (Ao.1,Ao.2))) = some (r1,r2):=h;clear h;replace H:=Option.bind_eq_some_iff.mp H;obtain ⟨⟨Ad,Ag⟩,A30,H⟩:=H;replace H : (some (Ad,Ag)) = some (r1,r2):=H;have A3:=A_ A30;clear A30;simp only [Option.some.injEq,Prod.mk.injEq] at H
 obtain ⟨rfl,rfl⟩:=H;go_enter Tryd.func137,Tryd.ntmps137
 go_wp2_with (first|((with_reducible refine gate_dst (N:=2) rfl ?_);refine box_event ?hg (N:=2) ?hd (cs:=#[.int .i64 a0]) (t:=3) ?hr ?_;(case hd=>rfl);(case hg=>rfl);(case hr=>go_simp;try rfl);intro Ah hg w4 hbox hb;have Aa:=A_ (hbox);have Au:=A_ (gw_ (w:=w) hg bb_);have Av:=A_ (gw_ (w:=w) hg bb_);replace HB:=A_ (below_step bb_ hb);clear hb hbox hg)|((with_reducible refine gate_dst (N:=3) rfl ?_);refine box_event ?hg (N:=3) ?hd (cs:=#[.slice A1 l1.length c1]) (t:=24) ?hr ?_;(case hd=>rfl);(case hg=>rfl);(case hr=>go_simp;try rfl);intro Ae hg w5 hbox hb;have Ab:=A_ (hbox);have Aq:=A_ (gw_ (w:=w) hg bb_);have Ar:=A_ (gw_ (w:=w) hg bb_);replace HB:=A_ (below_step bb_ hb);have Al:=A_ (nl_ hg Aa);have Af:=A_ (ng_ hg Aa);replace Aa:=bz Aa hb;clear hb hbox hg)|((with_reducible refine gate_dst (N:=4) rfl ?_);refine box_event ?hg (N:=4) ?hd (cs:=#[.int .i64 0,.slice none 0 0]) (t:=26) ?hr ?_;(case hd=>rfl);(case hg=>rfl);(case hr=>go_simp;try rfl);intro Ai hg w6 hbox hb;have Ac:=A_ (hbox);have As:=A_ (gw_ (w:=w) hg bb_);have At:=A_ (gw_ (w:=w) hg bb_);replace HB:=A_ (below_step bb_ hb);have Am:=A_ (nl_ hg Aa);have An:=A_ (ng_ hg Aa);replace Aa:=bz Aa hb;have Aj:=A_ (nl_ hg Ab);have Ak:=A_ (ng_ hg Ab);replace Ab:=bz Ab hb;clear hb hbox hg;have Z:=Af.1;have Z:=Al.1;have Z:=Aj.1;have Z:=Ak.1;have Z : w6.cell? ⟨Ae,0,none⟩ = some (.slice A1 l1.length c1):=blk_cell Ab.1 0;have Z:=blk_frozen Ab.1 0)|((with_reducible refine gate_callee (f:=66) rfl ?_);refine goesL_ (some 8) rfl rfl Tryd.func66 (by kernel_rfl) rfl #[.int .i64 (l1.length : Int),.func (.func 152) #[] #[.pointer (some ⟨Ae,0,none⟩),.pointer (some ⟨Ah,0,none⟩)]] rfl au_ ?_;(with_reducible refine (Aak.calls k (l1.length : Int) (fun x0_ x1_=>Abx.f x0_ x1_ l1 a0) Ad Ag _ _ _ ?side1 ?side2 A3.1).mono ?_);(case side1=>exact fun a_ w_=>enters_of Tryd.func152 (by kernel_rfl) rfl a_ w_);(case side2=>(intro W_ x0_ x1_ r_ hB_ h_;refine Calls.mono (Abx.calls x0_ x1_ Ae _ _ l1 Ah a0 r_ W_ (blk_below (g:=Ae) (o:=.cells #[.slice A1 l1.length c1] 24 (0,0)) (bl_ Ab) hB_) (Kd.C_below (by exact cl_ (Kd.C_below HR1.1 HB.1)) hB_) (by exact HC1.1) (blk_below (g:=Ah) (o:=.cells #[.int .i64 a0] 3 (0,0)) (bl_ Aa) hB_) Af.1 h_) ?_;rintro e_ w_ ⟨h1_,h2_⟩;exact ⟨h1_,h2_⟩));rintro e w10 ⟨Aw,rfl,ho0,hb⟩;refine ⟨_,rfl,?_⟩;have Ap:=A_ (Kd.R_lower (Kd.R_newB ho0 (g:=Ah) (o:=.cells #[.int .i64 a0] 3 (0,0)) (bl_ Aa)) (below_size bb_));replace Aa:=bz Aa hb;replace Ab:=bz Ab hb;replace Ac:=bz Ac hb;replace HB:=A_ (below_step bb_ hb);(try clear hb);(try clear hb2);(try clear hk);(try clear hi);(try clear ho0);have Z:=An.1;have Z:=Am.1;obtain ⟨Z,Z,Z,Z⟩:=o2_ Ac.1;obtain ⟨Ao13,co13,eo13⟩:=Kd.R_slice Ap.1;subst eo13))
 refine bodyPost_ret (results_cell_row rfl _ _ Ai 26 #[.int .i64 Ad,.slice Ao13 Ag.length co13] (0,0) _ rfl (by (with_reducible repeat (first|refine blk_drewN ?_ _|refine blk_drew ?_|refine blk_alloc ?_ _));refine blk_put (cs:=#[.int .i64 Ad,.slice none 0 0]) ?_ 1 _ rfl;(with_reducible repeat (first|refine blk_drewN ?_ _|refine blk_drew ?_|refine blk_alloc ?_ _));refine blk_put (cs:=#[.int .i64 0,.slice none 0 0]) ?_ 0 _ rfl;(with_reducible repeat (first|refine blk_drewN ?_ _|refine blk_drew ?_|refine blk_alloc ?_ _));exact Ac.1) Tryd.underlying26 rfl (by kernel_rfl)) rfl ?_
 exact ⟨_,by first|rfl|(simp [errW_none,errW_some] <;> rfl)|(simp [*,errW_none,errW_some] <;> rfl),rq_ (Kd.R_mono (Kd.R_far (p:=⟨Ai,1,none⟩) (Kd.R_far (p:=⟨Ai,0,none⟩) (Kd.R_types Ap.1 Ac.1 (by decide)) (fun _ hk=>hk.2) (.int .i64 Ad)) (fun _ hk=>hk.2) (.slice Ao13 Ag.length co13)) (fun _ hk=>trivial)),bb_⟩
def Aa1.l0 : Nat → List Int → List Int → Int → Int → Option (Bool)
 | 0,_,_,_,_=>none
 | k + 1,x0,x1,x12,x13=>if x13 < x12 then (if 0 ≤ x13 then (if x13 < (x0.length : Int) then (if x13 < (x1.length : Int) then (if (rd x0 x13) = (rd x1 x13) then (Aa1.l0 k x0 x1 x12 (wrap64 (x13 + 1))) else (some false)) else (none)) else (none)) else (none)) else (some true)
def Aa1.f (k : Nat) (l0 : List Int) (l1 : List Int) : Option (Bool) := if (l0.length : Int) = (l1.length : Int) then (Aa1.l0 k l0 l1 (l0.length : Int) 0) else (some false)
set_option maxHeartbeats 8000000 in
set_option maxRecDepth 100000 in
theorem Aa1.calls (k : Nat) (A0 : Option Addr) (c0 : Nat) (l0 : List Int) (A1 : Option Addr) (c1 : Nat) (l1 : List Int) (r : Bool) (w : World) (hr0 : Kd.C (Kd.int .i64) w A0 l0.length l0) (hc0 : l0.length ≤ c0) (hr1 : Kd.C (Kd.int .i64) w A1 l1.length l1) (hc1 : l1.length ≤ c1) (h : Aa1.f k l0 l1 = some r) :
 Calls Tryd.prog 153 #[.slice A0 l0.length c0,.slice A1 l1.length c1] w fun e w'=>e = .returned (.bool r) ∧ Drawn0 w w':=by
 have HR0:=A_ hr0;have HC0:=A_ hc0;clear hr0 hc0;have HR1:=A_ hr1;have HC1:=A_ hc1;clear hr1 hc1;have H : (if (l0.length : Int) = (l1.length : Int) then (Aa1.l0 k l0 l1 (l0.length : Int) 0) else (some false)) = some r:=h;clear h;by_cases c3 : (l0.length : Int) = (l1.length : Int)
 ·rw [if_pos c3] at H;have c3b0 : ((l0.length : Int) == (l1.length : Int)) = true:=beq_iff_eq.mpr c3;have c3b1 : ((l0.length : Int) != (l1.length : Int)) = false:=bne_eq_false_iff_eq.mpr c3;have c3b2 : (l0.length == l1.length) = true:=by first|simpa using c3|(simp at c3 ⊢;omega)
  clear c3;have H':=A_ H;clear H;go_enter Tryd.func153,Tryd.ntmps153
  go_wp2
  repeat (go_quiet (fail);try go_wp2)
  go_loopg [13] k (fun kq v13 w'=>∃ (x13_1 : Int),v13 = .int .i64 x13_1 ∧ Aside0 (Aa1.l0 kq l0 l1 (l0.length : Int) x13_1 = some r) ∧ Aside0 (kq ≤ k) ∧ Drawn0 w w')
  case atStart=>exact ⟨(0),(by first|rfl|(simp;done)|(simp [*];done)),H',⟨Nat.le_refl _⟩,by repeat (first|exact Drawn0.refl _|apply Drawn0.step)⟩
  case round =>
   clear H';try clear c1
   try clear p2
   try clear c3
   try clear c3b0
   try clear c3b1
   try clear c3b2
   obtain ⟨x13_1,rfl,HA,HK1,⟨m1,rfl⟩⟩:=hrel;cases gk with
   | zero=>exact absurd HA.1 (by simp [Aa1.l0])
   | succ k1 =>
    have H:=HA.1;clear HA;simp only [Aa1.l0] at H
    by_cases c4 : x13_1 < (l0.length : Int)
    ·rw [if_pos c4] at H;have c4b0 : decide (x13_1 < (l0.length : Int)) = true:=decide_eq_true c4;clear c4;by_cases c5 : 0 ≤ x13_1
     ·rw [if_pos c5] at H;have c5b0 : decide (0 ≤ x13_1) = true:=decide_eq_true c5;clear c5;by_cases c6 : x13_1 < (l0.length : Int)
      ·rw [if_pos c6] at H;have c6b0 : decide (x13_1 < (l0.length : Int)) = true:=decide_eq_true c6;clear c6;by_cases c7 : x13_1 < (l1.length : Int)
       ·rw [if_pos c7] at H;have c7b0 : decide (x13_1 < (l1.length : Int)) = true:=decide_eq_true c7;clear c7;by_cases c8 : (rd l0 x13_1) = (rd l1 x13_1)
        ·rw [if_pos c8] at H;have c8b0 : ((rd l0 x13_1) == (rd l1 x13_1)) = true:=beq_iff_eq.mpr c8;have c8b1 : ((rd l0 x13_1) != (rd l1 x13_1)) = false:=bne_eq_false_iff_eq.mpr c8;clear c8;have H':=A_ H;clear H;have Aa : 0 ≤ (x13_1 : Int):=of_decide_eq_true (by first|(with_reducible assumption)|assumption);have Ab : x13_1 < (l0.length : Int):=of_decide_eq_true (by first|(with_reducible assumption)|assumption);obtain ⟨Ai,Ae,Ag⟩:=Kd.at_int HR0.1 x13_1 Aa Ab;cases Ae
         replace Aa:=eq_true Aa;replace Ab:=eq_true Ab;have Ac : 0 ≤ (x13_1 : Int):=of_decide_eq_true (by first|(with_reducible assumption)|assumption);have Ad : x13_1 < (l1.length : Int):=of_decide_eq_true (by first|(with_reducible assumption)|assumption);obtain ⟨Aj,Af,Ah⟩:=Kd.at_int HR1.1 x13_1 Ac Ad;cases Af
         replace Ac:=eq_true Ac;replace Ad:=eq_true Ad;go_wp2
         repeat (go_quiet (fail);try go_wp2)
         go_roundg k1
         case measure=>have:=HK1.1;omega
         case rel=>exact ⟨(wrap64 (x13_1 + 1)),(by first|rfl|(simp;done)|(simp [*];done)),H',⟨by have:=HK1.1;omega⟩,by repeat (first|exact Drawn0.refl _|apply Drawn0.step)⟩
        ·rw [if_neg c8] at H;have c8b0 : ((rd l0 x13_1) == (rd l1 x13_1)) = false:=beq_eq_false_iff_ne.mpr c8;have c8b1 : ((rd l0 x13_1) != (rd l1 x13_1)) = true:=bne_iff_ne.mpr c8;obtain rfl:=Option.some.inj H;have Aa : 0 ≤ (x13_1 : Int):=of_decide_eq_true (by first|(with_reducible assumption)|assumption);have Ab : x13_1 < (l0.length : Int):=of_decide_eq_true (by first|(with_reducible assumption)|assumption);obtain ⟨Ai,Ae,Ag⟩:=Kd.at_int HR0.1 x13_1 Aa Ab;cases Ae
         replace Aa:=eq_true Aa;replace Ab:=eq_true Ab;have Ac : 0 ≤ (x13_1 : Int):=of_decide_eq_true (by first|(with_reducible assumption)|assumption);have Ad : x13_1 < (l1.length : Int):=of_decide_eq_true (by first|(with_reducible assumption)|assumption);obtain ⟨Aj,Af,Ah⟩:=Kd.at_int HR1.1 x13_1 Ac Ad;cases Af
         replace Ac:=eq_true Ac;replace Ad:=eq_true Ad;go_wp2
         repeat (go_quiet (fail);try go_wp2)
         go_ret
         exact ⟨by first|rfl|(simp;done)|(simp [*];done),by repeat (first|exact Drawn0.refl _|apply Drawn0.step)⟩
       ·rw [if_neg c7] at H;exact absurd H (by simp)
      ·rw [if_neg c6] at H;exact absurd H (by simp)
     ·rw [if_neg c5] at H;exact absurd H (by simp)
    ·rw [if_neg c4] at H;have c4b0 : decide (x13_1 < (l0.length : Int)) = false:=decide_eq_false c4;clear c4;obtain rfl:=Option.some.inj H;go_wp2
     repeat (go_quiet (fail);try go_wp2)
     go_ret
     exact ⟨by first|rfl|(simp;done)|(simp [*];done),by repeat (first|exact Drawn0.refl _|apply Drawn0.step)⟩
 ·rw [if_neg c3] at H;have c3b0 : ((l0.length : Int) == (l1.length : Int)) = false:=beq_eq_false_iff_ne.mpr c3;have c3b1 : ((l0.length : Int) != (l1.length : Int)) = true:=bne_iff_ne.mpr c3;have c3b2 : (l0.length == l1.length) = false:=by first|simpa using c3|(simp at c3 ⊢;omega)
  obtain rfl:=Option.some.inj H;go_enter Tryd.func153,Tryd.ntmps153
  go_wp2
  repeat (go_quiet (fail);try go_wp2)
  go_ret
  exact ⟨by first|rfl|(simp;done)|(simp [*];done),by repeat (first|exact Drawn0.refl _|apply Drawn0.step)⟩
def Ab1.f (k : Nat) (a0_0 : Int) (l0_1 : List Int) (a1_0 : Int) (l1_1 : List Int) : Option (Bool) := if a0_0 = a1_0 then ((Aa1.f k l0_1 l1_1).bind fun t1010 => (some t1010)) else (some false)
set_option maxHeartbeats 8000000 in
set_option maxRecDepth 100000 in
theorem Ab1.calls (k : Nat) (a0_0 : Int) (A0_1 : Option Addr) (c0_1 : Nat) (l0_1 : List Int) (a1_0 : Int) (A1_1 : Option Addr) (c1_1 : Nat) (l1_1 : List Int) (r : Bool) (w : World) (hr0_1 : Kd.C (Kd.int .i64) w A0_1 l0_1.length l0_1) (hc0_1 : l0_1.length ≤ c0_1) (hr1_1 : Kd.C (Kd.int .i64) w A1_1 l1_1.length l1_1) (hc1_1 : l1_1.length ≤ c1_1) (h : Ab1.f k a0_0 l0_1 a1_0 l1_1 = some r) :
 Calls Tryd.prog 138 #[.agg #[.int .i64 a0_0,.slice A0_1 l0_1.length c0_1],.agg #[.int .i64 a1_0,.slice A1_1 l1_1.length c1_1]] w fun e w'=>e = .returned (.bool r) ∧ Below w.heap.size w w':=by
 have hu26:=Tryd.underlying26;have HR0_1:=A_ hr0_1;have HC0_1:=A_ hc0_1;clear hr0_1 hc0_1;have HR1_1:=A_ hr1_1;have HC1_1:=A_ hc1_1;clear hr1_1 hc1_1;have HB:=A_ (Below.refl w.heap.size w);have H : (if a0_0 = a1_0 then ((Aa1.f k l0_1 l1_1).bind fun Ae=>(some Ae)) else (some false)) = some r:=h;clear h;by_cases c3 : a0_0 = a1_0
 ·rw [if_pos c3] at H;have c3b0 : (a0_0 == a1_0) = true:=beq_iff_eq.mpr c3;have c3b1 : (a0_0 != a1_0) = false:=bne_eq_false_iff_eq.mpr c3;clear c3;replace H:=Option.bind_eq_some_iff.mp H;obtain ⟨Ae,A40,H⟩:=H;(try dsimp only at H);have A4:=A_ A40;clear A40;obtain rfl:=Option.some.inj H;go_enter Tryd.func138,Tryd.ntmps138
  go_wp2_with (first|((with_reducible refine gate_dst (N:=2) rfl ?_);refine box_event ?hg (N:=2) ?hd (cs:=#[.int .i64 a0_0,.slice A0_1 l0_1.length c0_1]) (t:=26) ?hr ?_;(case hd=>rfl);(case hg=>rfl);(case hr=>go_simp;try rfl);intro Af hg w5 hbox hb;have Aa:=A_ (hbox);have Ag:=A_ (gw_ (w:=w) hg bb_);have Ah:=A_ (gw_ (w:=w) hg bb_);replace HB:=A_ (below_step bb_ hb);clear hb hbox hg)|((with_reducible refine gate_dst (N:=3) rfl ?_);refine box_event ?hg (N:=3) ?hd (cs:=#[.int .i64 a1_0,.slice A1_1 l1_1.length c1_1]) (t:=26) ?hr ?_;(case hd=>rfl);(case hg=>rfl);(case hr=>go_simp;try rfl);intro Ai hg w6 hbox hb;have Ad:=A_ (hbox);have Aj:=A_ (gw_ (w:=w) hg bb_);have Ak:=A_ (gw_ (w:=w) hg bb_);replace HB:=A_ (below_step bb_ hb);have Ab:=A_ (nl_ hg Aa);have Ac:=A_ (ng_ hg Aa);replace Aa:=bz Aa hb;clear hb hbox hg;have hnb7:=Ab.1;have hnc7:=Ac.1;obtain ⟨hcz8_0,hcz8_1,hfz8_0,hfz8_1⟩:=o2_ Aa.1;obtain ⟨hcz9_0,hcz9_1,hfz9_0,hfz9_1⟩:=o2_ Ad.1)|(go_at_call 153;(with_reducible refine (Aa1.calls k _ _ l0_1 _ _ l1_1 Ae _ ?side1 ?side2 ?side3 ?side4 A4.1).mono ?_);(case side1=>exact cl_ (Kd.C_below HR0_1.1 HB.1));(case side2=>exact HC0_1.1);(case side3=>exact cl_ (Kd.C_below HR1_1.1 HB.1));(case side4=>exact HC1_1.1);rintro e w' ⟨rfl,⟨nd,rfl⟩⟩))
  go_ret
  exact ⟨by first|rfl|(simp [errW_none,errW_some] <;> rfl)|(simp [*,errW_none,errW_some] <;> rfl),bb_⟩
 ·rw [if_neg c3] at H;have c3b0 : (a0_0 == a1_0) = false:=beq_eq_false_iff_ne.mpr c3;have c3b1 : (a0_0 != a1_0) = true:=bne_iff_ne.mpr c3;obtain rfl:=Option.some.inj H;go_enter Tryd.func138,Tryd.ntmps138
  go_wp2_with (first|((with_reducible refine gate_dst (N:=2) rfl ?_);refine box_event ?hg (N:=2) ?hd (cs:=#[.int .i64 a0_0,.slice A0_1 l0_1.length c0_1]) (t:=26) ?hr ?_;(case hd=>rfl);(case hg=>rfl);(case hr=>go_simp;try rfl);intro Af hg w10 hbox hb;have Aa:=A_ (hbox);have Ag:=A_ (gw_ (w:=w) hg bb_);have Ah:=A_ (gw_ (w:=w) hg bb_);replace HB:=A_ (below_step bb_ hb);clear hb hbox hg)|((with_reducible refine gate_dst (N:=3) rfl ?_);refine box_event ?hg (N:=3) ?hd (cs:=#[.int .i64 a1_0,.slice A1_1 l1_1.length c1_1]) (t:=26) ?hr ?_;(case hd=>rfl);(case hg=>rfl);(case hr=>go_simp;try rfl);intro Ai hg w11 hbox hb;have Ad:=A_ (hbox);have Aj:=A_ (gw_ (w:=w) hg bb_);have Ak:=A_ (gw_ (w:=w) hg bb_);replace HB:=A_ (below_step bb_ hb);have Ab:=A_ (nl_ hg Aa);have Ac:=A_ (ng_ hg Aa);replace Aa:=bz Aa hb;clear hb hbox hg;have hnb12:=Ab.1;have hnc12:=Ac.1;obtain ⟨hcz13_0,hcz13_1,hfz13_0,hfz13_1⟩:=o2_ Aa.1;obtain ⟨hcz14_0,hcz14_1,hfz14_0,hfz14_1⟩:=o2_ Ad.1))
  go_ret
  exact ⟨by first|rfl|(simp [errW_none,errW_some] <;> rfl)|(simp [*,errW_none,errW_some] <;> rfl),bb_⟩
def Aaw.f (k : Nat) (a0_0 : Int) (l0_1 : List Int) (a1 : Int) (l2 : List Int) : Option (Bool) := (Aat.f k l2 0 1000).bind fun t1012 => (if t1012 = true then ((Ab3.f k a1 l2).bind fun bt1013 => ((Ab1.f k bt1013.1 bt1013.2 a0_0 l0_1).bind fun t1017 => (some t1017))) else (some false))
def Aaw.T1 : Bool × List (List Nat × List Nat) := (true, [([], []), ([0], [0]), ([1, 1], [1]), ([2], [2]), ([2], [2]), ([3, 4, 2, 2], [2, 3, 4]), ([2], [2]), ([5, 6, 5, 2], [2, 5, 6]), ([2, 7], [2, 7]), ([8, 7, 0, 1, 2, 3, 4, 5, 6, 7, 8], [8])])
def Aaw.B1 : List Nat := [0, 1, 3, 7, 7, 31, 7, 127, 255, 511]
theorem Aaw.tab1 : rtab .any (opsOf Tryd.f97 1) = Aaw.T1:=by kernel_rfl
theorem Aaw.bits1 : waitsOk Aaw.T1.2 Aaw.B1 = true:=by kernel_rfl
set_option maxHeartbeats 8000000 in
set_option maxRecDepth 100000 in
theorem Aaw.calls (k : Nat) (a0_0 : Int) (A0_1 : Option Addr) (c0_1 : Nat) (l0_1 : List Int) (a1 : Int) (A2 : Option Addr) (c2 : Nat) (l2 : List Int) (r : Bool) (w : World) (hr0_1 : Kd.C (Kd.int .i64) w A0_1 l0_1.length l0_1) (hc0_1 : l0_1.length ≤ c0_1) (hr2 : Kd.C (Kd.int .i64) w A2 l2.length l2) (hc2 : l2.length ≤ c2) (h : Aaw.f k a0_0 l0_1 a1 l2 = some r) :
 Calls Tryd.prog 97 #[.agg #[.int .i64 a0_0,.slice A0_1 l0_1.length c0_1],.int .i64 a1,.slice A2 l2.length c2] w fun e w'=>e = .returned (.bool r) ∧ Below w.heap.size w w':=by
 have hu26:=Tryd.underlying26;have HR0_1:=A_ hr0_1;have HC0_1:=A_ hc0_1;clear hr0_1 hc0_1;have HR2:=A_ hr2;have HC2:=A_ hc2;clear hr2 hc2;have HB:=A_ (Below.refl w.heap.size w);have H : ((Aat.f k l2 0 1000).bind fun Ad=>(if Ad = true then ((Ab3.f k a1 l2).bind fun Ah=>((Ab1.f k Ah.1 Ah.2 a0_0 l0_1).bind fun Ae=>(some Ae))) else (some false))) = some r:=h;clear h;replace H:=Option.bind_eq_some_iff.mp H;obtain ⟨Ad,A40,H⟩:=H;(try dsimp only at H);have A4:=A_ A40;clear A40;by_cases c5 : Ad = true
 ·subst c5;rw [if_pos rfl] at H;replace H:=Option.bind_eq_some_iff.mp H;obtain ⟨⟨Af,Ag⟩,A60,H⟩:=H;(try dsimp only at H);have A6:=A_ A60;clear A60;replace H:=Option.bind_eq_some_iff.mp H;obtain ⟨Ae,A70,H⟩:=H;(try dsimp only at H);have A7:=A_ A70;clear A70;obtain rfl:=Option.some.inj H;go_enter Tryd.func97,Tryd.ntmps97
  try go_wp2_with (first|((with_reducible refine gate_dst (N:=3) rfl ?_);refine box_event ?hg (N:=3) ?hd (cs:=#[.int .i64 a0_0,.slice A0_1 l0_1.length c0_1]) (t:=26) ?hr ?_;(case hd=>rfl);(case hg=>rfl);(case hr=>go_simp;try rfl);intro Ac hg w8 hbox hb;have Aa:=A_ (hbox);have Ai:=A_ (gw_ (w:=w) hg bb_);have Aj:=A_ (gw_ (w:=w) hg bb_);replace HB:=A_ (below_step bb_ hb);clear hb hbox hg))
  replace Aa:=A_ (blk_drew Aa.1);replace HB:=A_ (below_drew1 HB.1);refine start_ (n:=10) (S:=fun w'=>w'.cell? ⟨Ac,0,none⟩ = some (.int .i64 a0_0) ∧ w'.cell? ⟨Ac,1,none⟩ = some (.slice A0_1 l0_1.length c0_1)) (ds:=[]) #[F,F,F,F,F,F,F,F,F,F] (by kernel_rfl) rfl rfl ⟨blk_cell Aa.1 0,blk_cell Aa.1 1⟩ (fun hHeld=>?_);refine with_tabW Aaw.tab1 Aaw.bits1 (fun HT_ HW_=>?_)
  generalize w8.drew = w9 at Aa HB hHeld ⊢
  refine pu_ (i:=0) (N:=7) #[T,F,F,F,F,F,F,F,F,F] HT_.1 rfl rfl (fun _ _ _ h=>h) rfl (h:=?_)
  refine one_ (i:=1) (N:=some 8) #[T,T,F,F,F,F,F,F,F,F] rfl rfl (one_of HT_.1 (by kernel_rfl)) (by decide) (fun K hK=>?_)
  refine goes_ Tryd.func115 (by kernel_rfl) rfl #[.slice A2 l2.length c2,.int .i64 0,.int .i64 1000] (by rfl) rfl rfl au_ ?_
  with_reducible refine (Aat.calls k _ _ l2 0 1000 true _ ?side1 ?side2 A4.1).mono ?_
  (case side1=>exact cl_ (Kd.C_below HR2.1 HB.1))
  (case side2=>exact HC2.1)
  rintro e w' ⟨rfl,⟨nd,rfl⟩⟩
  refine ⟨_,rfl,?_⟩
  refine hK.out _ _ ⟨blk_cell Aa.1 0,blk_cell Aa.1 1⟩ (fun hHeld=>?_)
  clear hK K;refine norm_ (a':=?_) ?_ ?_
  rotate_left
  ·show Act.put _ (some 8) _ = _
   simp only [Act.put,L_,M_,N_,i64_w,i32_w]
   rfl
  refine pu_ (i:=2) (N:=9) #[T,T,T,F,F,F,F,F,F,F] HT_.1 rfl rfl (fun _ _ _ h=>h) rfl (h:=?_)
  refine pu_ (i:=3) (N:=10) #[T,T,T,T,F,F,F,F,F,F] HT_.1 rfl rfl (fun _ _ _ h=>h) rfl (h:=?_)
  refine pu_ (i:=4) (N:=11) #[T,T,T,T,T,F,F,F,F,F] HT_.1 rfl rfl (fun _ _ _ h=>h) rfl (h:=?_)
  refine take_ (i:=6) (N:=some 13) (v:=?_) (a':=?_) #[T,T,T,T,T,F,T,F,F,F] rfl rfl (take_ofW HT_.1 HW_.1 (by kernel_rfl)) (fun _ _ _ h=>h) (Or.inl ⟨by rfl,?_⟩) hHeld ?_ ?_
  rotate_left
  ·rintro w' ⟨s0,s1⟩
   go_simp
   with_reducible rfl
  rotate_left;·simp only [Act.put,L_,M_,N_,i64_w,i32_w];rfl
  refine one_ (i:=5) (N:=some 12) #[T,T,T,T,T,T,T,F,F,F] rfl rfl (one_of HT_.1 (by kernel_rfl)) (by decide) (fun K hK=>?_)
  refine goes_ Tryd.func137 (by kernel_rfl) rfl #[.int .i64 a1,.slice A2 l2.length c2] (by rfl) rfl rfl au_ ?_
  with_reducible refine (Ab3.calls k a1 _ _ l2 Af Ag _ ?side1 ?side2 A6.1).mono ?_
  (case side1=>exact cl_ (Kd.C_below HR2.1 bb_))
  (case side2=>exact HC2.1)
  rintro e w10 ⟨Ak,rfl,ho0,hb⟩
  refine ⟨_,rfl,?_⟩
  have Ab:=A_ (Kd.R_lower ho0 (below_size bb_));replace Aa:=bz Aa hb;replace HB:=A_ (below_step bb_ hb);(try clear hb);(try clear hb2);(try clear hk);(try clear hi);(try clear ho0);obtain ⟨Ao11,co11,eo11⟩:=Kd.R_slice Ab.1;(first|subst eo11|(injection eo11 with f1_ f2_ f3_;have f4_:=f1_.symm;have f5_:=f3_.symm;clear f1_ f2_ f3_;subst f4_;subst f5_))
  refine hK.out _ _ ⟨blk_cell Aa.1 0,blk_cell Aa.1 1⟩ (fun hHeld=>?_)
  clear hK K;refine norm_ (a':=?_) ?_ ?_
  rotate_left
  ·show Act.put _ (some 12) _ = _
   simp only [Act.put,L_,M_,N_,i64_w,i32_w]
   rfl
  refine one_ (i:=7) (N:=some 14) #[T,T,T,T,T,T,T,T,F,F] rfl rfl (one_of HT_.1 (by kernel_rfl)) (by decide) (fun K hK=>?_)
  refine goes_ Tryd.func138 (by kernel_rfl) rfl #[.agg #[.int .i64 Af,.slice Ao11 Ag.length co11],.agg #[.int .i64 a0_0,.slice A0_1 l0_1.length c0_1]] (by rfl) rfl rfl au_ ?_
  with_reducible refine (Ab1.calls k Af _ _ Ag a0_0 _ _ l0_1 Ae _ ?side1 ?side2 ?side3 ?side4 A7.1).mono ?_
  (case side1=>exact cl_ (Kd.R_reads' Ab.1).2.2)
  (case side2=>exact (Kd.R_reads' Ab.1).2.1)
  (case side3=>exact cl_ (Kd.C_below HR0_1.1 HB.1))
  (case side4=>exact HC0_1.1)
  rintro e w12 ⟨rfl,hb⟩
  refine ⟨_,rfl,?_⟩
  replace Ab:=rb_ Ab hb;replace Aa:=bz Aa hb;replace HB:=A_ (below_step bb_ hb);(try clear hb);(try clear hb2);(try clear hk);(try clear hi);refine hK.out _ _ ⟨blk_cell Aa.1 0,blk_cell Aa.1 1⟩ (fun hHeld=>?_)
  clear hK K;refine norm_ (a':=?_) ?_ ?_
  rotate_left
  ·show Act.put _ (some 14) _ = _
   simp only [Act.put,L_,M_,N_,i64_w,i32_w]
   rfl
  refine pu_ (i:=8) (N:=15) #[T,T,T,T,T,T,T,T,T,F] HT_.1 rfl rfl (fun _ _ _ h=>h) rfl (h:=?_)
  refine pu_ (i:=9) (N:=6) #[T,T,T,T,T,T,T,T,T,T] HT_.1 rfl rfl (fun _ _ _ h=>h) rfl (h:=?_)
  refine done_ (done_of HT_.1 (by kernel_rfl)) ?_
  try go_wp2
  go_ret
  exact ⟨by first|rfl|(simp [errW_none,errW_some] <;> rfl)|(simp [*,errW_none,errW_some] <;> rfl),bb_⟩
 ·replace c5:=Bool.eq_false_iff.mpr c5;subst c5;rw [if_neg nf_] at H;obtain rfl:=Option.some.inj H;go_enter Tryd.func97,Tryd.ntmps97
  try go_wp2_with (first|((with_reducible refine gate_dst (N:=3) rfl ?_);refine box_event ?hg (N:=3) ?hd (cs:=#[.int .i64 a0_0,.slice A0_1 l0_1.length c0_1]) (t:=26) ?hr ?_;(case hd=>rfl);(case hg=>rfl);(case hr=>go_simp;try rfl);intro Ac hg w13 hbox hb;have Aa:=A_ (hbox);have Ai:=A_ (gw_ (w:=w) hg bb_);have Aj:=A_ (gw_ (w:=w) hg bb_);replace HB:=A_ (below_step bb_ hb);clear hb hbox hg))
  replace Aa:=A_ (blk_drew Aa.1);replace HB:=A_ (below_drew1 HB.1);refine start_ (n:=10) (S:=fun w'=>True) (ds:=[]) #[F,F,F,F,F,F,F,F,F,F] (by kernel_rfl) rfl rfl trivial (fun hHeld=>?_);refine with_tabW Aaw.tab1 Aaw.bits1 (fun HT_ HW_=>?_)
  generalize w13.drew = w14 at Aa HB hHeld ⊢
  refine pu_ (i:=0) (N:=7) #[T,F,F,F,F,F,F,F,F,F] HT_.1 rfl rfl (fun _ _ _ h=>h) rfl (h:=?_)
  refine one_ (i:=1) (N:=some 8) #[T,T,F,F,F,F,F,F,F,F] rfl rfl (one_of HT_.1 (by kernel_rfl)) (by decide) (fun K hK=>?_)
  refine goes_ Tryd.func115 (by kernel_rfl) rfl #[.slice A2 l2.length c2,.int .i64 0,.int .i64 1000] (by rfl) rfl rfl au_ ?_
  with_reducible refine (Aat.calls k _ _ l2 0 1000 false _ ?side1 ?side2 A4.1).mono ?_
  (case side1=>exact cl_ (Kd.C_below HR2.1 HB.1))
  (case side2=>exact HC2.1)
  rintro e w' ⟨rfl,⟨nd,rfl⟩⟩
  refine ⟨_,rfl,?_⟩
  refine hK.out _ _ trivial (fun hHeld=>?_)
  clear hK K;refine norm_ (a':=?_) ?_ ?_
  rotate_left
  ·show Act.put _ (some 8) _ = _
   simp only [Act.put,L_,M_,N_,i64_w,i32_w]
   rfl
  refine pu_ (i:=2) (N:=9) #[T,T,T,F,F,F,F,F,F,F] HT_.1 rfl rfl (fun _ _ _ h=>h) rfl (h:=?_)
  refine pure_ (i:=3) (N:=some 10) (v:=undef) (a':=?_) #[T,T,T,T,F,F,F,F,F,F] rfl rfl (any_of HT_.1 (by kernel_rfl)) (fun _ _ _ h=>h) (Or.inr ⟨by rfl,rfl⟩) ?_ ?_
  rotate_left;·simp only [Act.put,L_,M_,N_,i64_w,i32_w];rfl
  refine pure_ (i:=4) (N:=some 11) (v:=undef) (a':=?_) #[T,T,T,T,T,F,F,F,F,F] rfl rfl (any_of HT_.1 (by kernel_rfl)) (fun _ _ _ h=>h) (Or.inr ⟨by rfl,rfl⟩) ?_ ?_
  rotate_left;·simp only [Act.put,L_,M_,N_,i64_w,i32_w];rfl
  refine pure_ (i:=5) (N:=some 12) (v:=undef) (a':=?_) #[T,T,T,T,T,T,F,F,F,F] rfl rfl (any_of HT_.1 (by kernel_rfl)) (fun _ _ _ h=>h) (Or.inr ⟨by rfl,rfl⟩) ?_ ?_
  rotate_left;·simp only [Act.put,L_,M_,N_,i64_w,i32_w];rfl
  refine pure_ (i:=6) (N:=some 13) (v:=undef) (a':=?_) #[T,T,T,T,T,T,T,F,F,F] rfl rfl (any_of HT_.1 (by kernel_rfl)) (fun _ _ _ h=>h) (Or.inr ⟨by rfl,rfl⟩) ?_ ?_
  rotate_left;·simp only [Act.put,L_,M_,N_,i64_w,i32_w];rfl
  refine pure_ (i:=7) (N:=some 14) (v:=undef) (a':=?_) #[T,T,T,T,T,T,T,T,F,F] rfl rfl (any_of HT_.1 (by kernel_rfl)) (fun _ _ _ h=>h) (Or.inr ⟨by rfl,rfl⟩) ?_ ?_
  rotate_left;·simp only [Act.put,L_,M_,N_,i64_w,i32_w];rfl
  refine pu_ (i:=8) (N:=15) #[T,T,T,T,T,T,T,T,T,F] HT_.1 rfl rfl (fun _ _ _ h=>h) rfl (h:=?_)
  refine pu_ (i:=9) (N:=6) #[T,T,T,T,T,T,T,T,T,T] HT_.1 rfl rfl (fun _ _ _ h=>h) rfl (h:=?_)
  refine done_ (done_of HT_.1 (by kernel_rfl)) ?_
  try go_wp2
  go_ret
  exact ⟨by first|rfl|(simp [errW_none,errW_some] <;> rfl)|(simp [*,errW_none,errW_some] <;> rfl),bb_⟩
def Aby.f (k : Nat) (a0_0 : Int) (l0_1 : List Int) (a1 : Int) (l2 : List Int) : Option (Bool × Bool) := (Abf.f k a0_0 l0_1 a1).bind fun t1019 => (if t1019 = true then ((Aaw.f k a0_0 l0_1 a1 l2).bind fun t1020 => (some (t1020, true))) else (some (false, false)))
set_option maxHeartbeats 8000000 in
set_option maxRecDepth 100000 in
theorem Aby.calls (k : Nat) (a0_0 : Int) (A0_1 : Option Addr) (c0_1 : Nat) (l0_1 : List Int) (a1 : Int) (A2 : Option Addr) (c2 : Nat) (l2 : List Int) (r1 : Bool) (r2 : Bool) (w : World) (hr0_1 : Kd.C (Kd.int .i64) w A0_1 l0_1.length l0_1) (hc0_1 : l0_1.length ≤ c0_1) (hr2 : Kd.C (Kd.int .i64) w A2 l2.length l2) (hc2 : l2.length ≤ c2) (hT : TabOK w) (h : Aby.f k a0_0 l0_1 a1 l2 = some (r1,r2)) :
 Calls Tryd.prog 41 #[.agg #[.int .i64 a0_0,.slice A0_1 l0_1.length c0_1],.int .i64 a1,.slice A2 l2.length c2] w fun e w'=>e = .returned (.tuple #[.bool r1,.bool r2]) ∧ Below w.heap.size w w':=by
 have hu26:=Tryd.underlying26;have HT:=A_ hT;clear hT;have HR0_1:=A_ hr0_1;have HC0_1:=A_ hc0_1;clear hr0_1 hc0_1;have HR2:=A_ hr2;have HC2:=A_ hc2;clear hr2 hc2;have HB:=A_ (Below.refl w.heap.size w);have H : ((Abf.f k a0_0 l0_1 a1).bind fun Ac=>(if Ac = true then ((Aaw.f k a0_0 l0_1 a1 l2).bind fun Ab=>(some (Ab,true))) else (some (false,false)))) = some (r1,r2):=h;clear h;replace H:=Option.bind_eq_some_iff.mp H;obtain ⟨Ac,A40,H⟩:=H;replace H : (if Ac = true then ((Aaw.f k a0_0 l0_1 a1 l2).bind fun Ab=>(some (Ab,true))) else (some (false,false))) = some (r1,r2):=H;have A4:=A_ A40;clear A40;by_cases c5 : Ac = true
 ·subst c5;have H1 : ((Aaw.f k a0_0 l0_1 a1 l2).bind fun Ab=>(some (Ab,true))) = some (r1,r2):=by rw [if_pos rfl] at H;exact H
  clear H;have H:=H1;clear H1;replace H:=Option.bind_eq_some_iff.mp H;obtain ⟨Ab,A60,H⟩:=H;replace H : (some (Ab,true)) = some (r1,r2):=H;have A6:=A_ A60;clear A60;simp only [Option.some.injEq,Prod.mk.injEq] at H
  obtain ⟨rfl,rfl⟩:=H;go_enter Tryd.func41,Tryd.ntmps41
  go_wp2_with (first|((with_reducible refine gate_dst (N:=3) rfl ?_);refine box_event ?hg (N:=3) ?hd (cs:=#[.int .i64 a0_0,.slice A0_1 l0_1.length c0_1]) (t:=26) ?hr ?_;(case hd=>rfl);(case hg=>rfl);(case hr=>go_simp;try rfl);intro Ad hg w7 hbox hb;have Aa:=A_ (hbox);have Ae:=A_ (gw_ (w:=w) hg bb_);have Af:=A_ (gw_ (w:=w) hg bb_);replace HB:=A_ (below_step bb_ hb);clear hb hbox hg;obtain ⟨Z,Z,Z,Z⟩:=o2_ Aa.1)|((with_reducible refine gate_callee (f:=96) rfl ?_);refine goesL_ (some 10) rfl rfl Tryd.func96 (by kernel_rfl) rfl #[.agg #[.int .i64 a0_0,.slice A0_1 l0_1.length c0_1],.int .i64 a1] rfl au_ ?_;(with_reducible refine (Abf.calls k a0_0 _ _ l0_1 a1 true _ ?side1 ?side2 ?side3 A4.1).mono ?_);(case side1=>exact cl_ (Kd.C_below HR0_1.1 HB.1));(case side2=>exact HC0_1.1);(case side3=>first|exact HT.1|exact HT.1.below bb_|(repeat (first|exact HT.1|apply TabOK.drewN|apply TabOK.drew|apply TabOK.alloc)));rintro e w9 ⟨rfl,hb⟩;refine ⟨_,rfl,?_⟩;replace Aa:=bz Aa hb;replace HB:=A_ (below_step bb_ hb);(try clear hb);(try clear hb2);(try clear hk);(try clear hi);obtain ⟨Z,Z,Z,Z⟩:=o2_ Aa.1)|((with_reducible refine gate_callee (f:=97) rfl ?_);refine goesL_ (some 15) rfl rfl Tryd.func97 (by kernel_rfl) rfl #[.agg #[.int .i64 a0_0,.slice A0_1 l0_1.length c0_1],.int .i64 a1,.slice A2 l2.length c2] rfl au_ ?_;(with_reducible refine (Aaw.calls k a0_0 _ _ l0_1 a1 _ _ l2 Ab _ ?side1 ?side2 ?side3 ?side4 A6.1).mono ?_);(case side1=>exact cl_ (Kd.C_below HR0_1.1 HB.1));(case side2=>exact HC0_1.1);(case side3=>exact cl_ (Kd.C_below HR2.1 HB.1));(case side4=>exact HC2.1);rintro e w11 ⟨rfl,hb⟩;refine ⟨_,rfl,?_⟩;replace Aa:=bz Aa hb;replace HB:=A_ (below_step bb_ hb);(try clear hb);(try clear hb2);(try clear hk);(try clear hi)))
  go_ret2
  exact ⟨by first|rfl|(simp [errW_none,errW_some] <;> rfl)|(simp [*,errW_none,errW_some] <;> rfl),bb_⟩
 ·replace c5:=Bool.eq_false_iff.mpr c5;subst c5;have H1 : (some (false,false)) = some (r1,r2):=by rw [if_neg (show ¬ (false = true) by decide)] at H;exact H
  clear H;have H:=H1;clear H1;simp only [Option.some.injEq,Prod.mk.injEq] at H
  obtain ⟨rfl,rfl⟩:=H;go_enter Tryd.func41,Tryd.ntmps41
  go_wp2_with (first|((with_reducible refine gate_dst (N:=3) rfl ?_);refine box_event ?hg (N:=3) ?hd (cs:=#[.int .i64 a0_0,.slice A0_1 l0_1.length c0_1]) (t:=26) ?hr ?_;(case hd=>rfl);(case hg=>rfl);(case hr=>go_simp;try rfl);intro Ad hg w12 hbox hb;have Aa:=A_ (hbox);have Ae:=A_ (gw_ (w:=w) hg bb_);have Af:=A_ (gw_ (w:=w) hg bb_);replace HB:=A_ (below_step bb_ hb);clear hb hbox hg;obtain ⟨Z,Z,Z,Z⟩:=o2_ Aa.1)|((with_reducible refine gate_callee (f:=96) rfl ?_);refine goesL_ (some 10) rfl rfl Tryd.func96 (by kernel_rfl) rfl #[.agg #[.int .i64 a0_0,.slice A0_1 l0_1.length c0_1],.int .i64 a1] rfl au_ ?_;(with_reducible refine (Abf.calls k a0_0 _ _ l0_1 a1 false _ ?side1 ?side2 ?side3 A4.1).mono ?_);(case side1=>exact cl_ (Kd.C_below HR0_1.1 HB.1));(case side2=>exact HC0_1.1);(case side3=>first|exact HT.1|exact HT.1.below bb_|(repeat (first|exact HT.1|apply TabOK.drewN|apply TabOK.drew|apply TabOK.alloc)));rintro e w14 ⟨rfl,hb⟩;refine ⟨_,rfl,?_⟩;replace Aa:=bz Aa hb;replace HB:=A_ (below_step bb_ hb);(try clear hb);(try clear hb2);(try clear hk);(try clear hi)))
  go_ret2
  exact ⟨by first|rfl|(simp [errW_none,errW_some] <;> rfl)|(simp [*,errW_none,errW_some] <;> rfl),bb_⟩
end Go.Proofs.YtfjpilcmjabikaaDoor.P

