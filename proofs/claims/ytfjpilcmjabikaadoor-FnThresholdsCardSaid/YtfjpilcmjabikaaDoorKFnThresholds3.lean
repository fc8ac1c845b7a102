/- A part of the proof that the law FnThresholds holds at every input. Written by wip/pack.py: the kit's printed words that are used, the functions' walks as wip/gen.py prints them, and hand proofs. -/
import Derived.Test.YtfjpilcmjabikaaDoorKFnThresholds2
namespace Go.Proofs.YtfjpilcmjabikaaDoor.P
open Go.RowKit Go.Proofs.YtfjpilcmjabikaaDoorW.PrintWords Go.Proofs.YtfjpilcmjabikaaDoorW.PrintLast Go.Proofs.YtfjpilcmjabikaaDoorW.PrintMore
open Bool renaming true → T, false → F
open List renaming setIfInBounds_toArray → L_, set_cons_zero → M_, set_cons_succ → N_, map_toArray → P_, map_cons → Q_, map_nil → R_, length_drop → S_, length_take → U_
open Aside0 renaming mk → A_
attribute [local go_sem] max2_int min2_int max_two min_two max_three min_three max_four min_four
set_option linter.unusedVariables false
set_option linter.unusedSimpArgs false
attribute [local go_sem] fldOrder_0 fldOrder_1
theorem Aar.nilAt {P : Program} (w : World) (d : Nat) (t e : TypeId) (a : Option Addr) (l c : Nat) (h : P.underlying t = some (.slice e)) : (Op.equalIn (d + 1) t (.slice a l c) (.slice none 0 0)).run P w = .ok a.isNone w:=by
 cases a <;> simp [Op.equalIn,run_underlying h]
theorem Aar.nilNo {P : Program} (w : World) (t e : TypeId) (a : Option Addr) (l c : Nat) (h : P.underlying t = some (.slice e)) : (binOp .neq t (.slice a l c) (.slice none 0 0)).run P w = .ok (.bool (!a.isNone)) w:=by
 have h1 : (Op.equal t (.slice a l c) (.slice none 0 0)).run P w = .ok a.isNone w:=Aar.nilAt w 9999 t e a l c h;simp [binOp,h1]
theorem Aar.nilN (w : World) (a : Option Addr) (l c : Nat) : (binOp .neq 24 (.slice a l c) (.slice none 0 0)).run Tryd.prog w = .ok (.bool (!a.isNone)) w:=Aar.nilNo w _ _ a l c Tryd.underlying24
attribute [local go_sem] Aar.nilN
def Aar.l0 : Nat → Int → Int → List Int → Option (Int × Bool)
 | 0,_,_,_=>none
 | k + 1,x4,x807000,x807001=>if x4 ≤ 10 then ((Aad.f k x807000 x807001 x4).bind fun bt808=>(if (bt808.1 != ([] : List Int) || x807000 == 0) = false then (Aar.l0 k (wrap64 (x4 + 1)) x807000 x807001) else (some (x4,true)))) else (some (0,false))
def Aar.f (k : Nat) (a0_0 : Int) (l0_1 : List Int) : Option (Int × Bool) := (Aap.f k a0_0 l0_1).bind fun t807 => (if t807 = true then (Aar.l0 k 1 a0_0 l0_1) else (some (0, false)))
set_option maxHeartbeats 8000000 in
set_option maxRecDepth 100000 in
theorem Aar.calls (k : Nat) (a0_0 : Int) (A0_1 : Option Addr) (c0_1 : Nat) (l0_1 : List Int) (r1 : Int) (r2 : Bool) (w : World) (hr0_1 : Kd.C (Kd.int .i64) w A0_1 l0_1.length l0_1) (hc0_1 : l0_1.length ≤ c0_1) (hT : TabOK w) (h : Aar.f k a0_0 l0_1 = some (r1,r2)) :
 Calls Tryd.prog 31 #[.agg #[.int .i64 a0_0,.slice A0_1 l0_1.length c0_1]] w fun e w'=>e = .returned (.tuple #[.int .i64 r1,.bool r2]) ∧ Below w.heap.size w w':=by
 have hu26:=Tryd.underlying26;have HT:=A_ hT;clear hT;have HR0_1:=A_ hr0_1;have HC0_1:=A_ hc0_1;clear hr0_1 hc0_1;have HB:=A_ (Below.refl w.heap.size w);have H : ((Aap.f k a0_0 l0_1).bind fun Ab=>(if Ab = true then (Aar.l0 k 1 a0_0 l0_1) else (some (0,false)))) = some (r1,r2):=h;clear h;replace H:=Option.bind_eq_some_iff.mp H;obtain ⟨Ab,A20,H⟩:=H;replace H : (if Ab = true then (Aar.l0 k 1 a0_0 l0_1) else (some (0,false))) = some (r1,r2):=H;have A2:=A_ A20;clear A20;by_cases c3 : Ab = true
 ·subst c3;have H1 : (Aar.l0 k 1 a0_0 l0_1) = some (r1,r2):=by rw [if_pos rfl] at H;exact H
  clear H;have H:=H1;clear H1;have H':=A_ H;clear H;go_enter Tryd.func31,Tryd.ntmps31
  go_wp2_with (first|((with_reducible refine gate_dst (N:=1) rfl ?_);refine box_event ?hg (N:=1) ?hd (cs:=#[.int .i64 a0_0,.slice A0_1 l0_1.length c0_1]) (t:=26) ?hr ?_;(case hd=>rfl);(case hg=>rfl);(case hr=>go_simp;try rfl);intro Ae hg w4 hbox hb;have Aa:=A_ (hbox);have Ah:=A_ (gw_ (w:=w) hg bb_);have Ai:=A_ (gw_ (w:=w) hg bb_);replace HB:=A_ (below_step bb_ hb);clear hb hbox hg;obtain ⟨Z,Z,Z,Z⟩:=o2_ Aa.1)|((with_reducible refine gate_callee (f:=16) rfl ?_);refine goesL_ (some 9) rfl rfl Tryd.func16 (by kernel_rfl) rfl #[.agg #[.int .i64 a0_0,.slice A0_1 l0_1.length c0_1]] rfl au_ ?_;(with_reducible refine (Aap.calls k a0_0 _ _ l0_1 true _ ?side1 ?side2 ?side3 A2.1).mono ?_);(case side1=>exact cl_ (Kd.C_below HR0_1.1 HB.1));(case side2=>exact HC0_1.1);(case side3=>first|exact HT.1|exact HT.1.below bb_|(repeat (first|exact HT.1|apply TabOK.drewN|apply TabOK.drew|apply TabOK.alloc)));rintro e w6 ⟨rfl,hb⟩;refine ⟨_,rfl,?_⟩;replace Aa:=bz Aa hb;replace HB:=A_ (below_step bb_ hb);(try clear hb);(try clear hb2);(try clear hk);(try clear hi)))
  go_loopg [4] k (fun kq v4 w'=>∃ (x4_1 : Int),v4 = .int .i64 x4_1 ∧ Aside0 (Aar.l0 kq x4_1 a0_0 l0_1 = some (r1,r2)) ∧ Aside0 (kq ≤ k) ∧ Aside0 (w'.heap[Ae]? = some (.cells #[.int .i64 a0_0,(.slice A0_1 l0_1.length c0_1)] 26 (0,0))) ∧ Aside0 (Below w.heap.size w w'))
  case atStart=>exact ⟨(1),(by first|rfl|(simp;done)|(simp [*];done)),H',⟨Nat.le_refl _⟩,⟨bl_ Aa⟩,⟨bb_⟩⟩
  case round =>
   clear H';try clear c1
   try clear p2
   try clear c3
   repeat clear Z
   obtain ⟨x4_1,rfl,HA,HK1,Aa,HB⟩:=hrel;cases gk with
   | zero=>exact absurd HA.1 (by simp [Aar.l0])
   | succ k1 =>
    have H:=HA.1;clear HA;simp only [Aar.l0] at H
    by_cases c7 : x4_1 ≤ 10
    ·rw [if_pos c7] at H;have c7b0 : decide (x4_1 ≤ 10) = true:=decide_eq_true c7;clear c7;replace H:=Option.bind_eq_some_iff.mp H;obtain ⟨⟨Ac,Af,Ag⟩,A80,H⟩:=H;replace H : (if (Ac != ([] : List Int) || a0_0 == 0) = false then (Aar.l0 k1 (wrap64 (x4_1 + 1)) a0_0 l0_1) else (some (x4_1,true))) = some (r1,r2):=H;have A8:=A_ A80;clear A80;by_cases c9 : (Ac != ([] : List Int) || a0_0 == 0) = false
     ·rw [if_pos c9] at H;have c9b0:=A_ c9;clear c9;have H':=A_ H;clear H;obtain ⟨Z,Z,Z,Z⟩:=o2_ Aa.1;go_wp2_with (first|((with_reducible refine gate_callee (f:=88) rfl ?_);refine goesL_ (some 18) rfl rfl Tryd.func88 (by kernel_rfl) rfl #[.agg #[.int .i64 a0_0,.slice A0_1 l0_1.length c0_1],.int .i64 x4_1] rfl au_ ?_;(with_reducible refine (Aad.calls k1 a0_0 _ _ l0_1 x4_1 Ac Af Ag _ ?side1 ?side2 A8.1).mono ?_);(case side1=>exact cl_ (Kd.C_below HR0_1.1 HB.1));(case side2=>exact HC0_1.1);rintro e w11 ⟨Ak,Al,rfl,ho0,ho1,hb,hz_⟩;have HZ_:=A_ hz_;clear hz_;refine ⟨_,rfl,?_⟩;have Ad:=A_ (Kd.R_lower ho0 (below_size bb_));have Aj:=A_ (Kd.R_lower ho1 (below_size bb_));replace Aa:=bz Aa hb;replace HB:=A_ (below_step bb_ hb);(try clear hb);(try clear hb2);(try clear hk);(try clear hi);(try clear ho0);(try clear ho1);obtain ⟨Ao12,co12,eo12⟩:=Kd.R_slice Ad.1;subst eo12;(try have hnl12:=HZ_.1 _ _ _ rfl);(try clear HZ_);(try rw [c9b0.1] at hnl12);(try simp only [Bool.not_false,Bool.not_true] at hnl12)))
      go_roundg k1
      case measure=>have:=HK1.1;omega
      case rel=>exact ⟨(wrap64 (x4_1 + 1)),(by first|rfl|(simp;done)|(simp [*];done)),H',⟨by have:=HK1.1;omega⟩,⟨bl_ Aa⟩,⟨bb_⟩⟩
     ·rw [if_neg c9] at H;have c9b0:=A_ (eq_true_of_ne_false c9);simp only [Option.some.injEq,Prod.mk.injEq] at H
      obtain ⟨rfl,rfl⟩:=H;obtain ⟨Z,Z,Z,Z⟩:=o2_ Aa.1;go_wp2_with (first|((with_reducible refine gate_callee (f:=88) rfl ?_);refine goesL_ (some 18) rfl rfl Tryd.func88 (by kernel_rfl) rfl #[.agg #[.int .i64 a0_0,.slice A0_1 l0_1.length c0_1],.int .i64 x4_1] rfl au_ ?_;(with_reducible refine (Aad.calls k1 a0_0 _ _ l0_1 x4_1 Ac Af Ag _ ?side1 ?side2 A8.1).mono ?_);(case side1=>exact cl_ (Kd.C_below HR0_1.1 HB.1));(case side2=>exact HC0_1.1);rintro e w14 ⟨Ak,Al,rfl,ho0,ho1,hb,hz_⟩;have HZ_:=A_ hz_;clear hz_;refine ⟨_,rfl,?_⟩;have Ad:=A_ (Kd.R_lower ho0 (below_size bb_));have Aj:=A_ (Kd.R_lower ho1 (below_size bb_));replace Aa:=bz Aa hb;replace HB:=A_ (below_step bb_ hb);(try clear hb);(try clear hb2);(try clear hk);(try clear hi);(try clear ho0);(try clear ho1);obtain ⟨Ao15,co15,eo15⟩:=Kd.R_slice Ad.1;subst eo15;(try have hnl15:=HZ_.1 _ _ _ rfl);(try clear HZ_);(try rw [c9b0.1] at hnl15);(try simp only [Bool.not_false,Bool.not_true] at hnl15)))
      go_ret2
      exact ⟨by first|rfl|(rw [hnl12,Bool.not_not] <;> rfl)|(rw [hnl15,Bool.not_not] <;> rfl)|(simp [*,errW_none,errW_some] <;> rfl)|(simp [errW_none,errW_some] <;> rfl)|(simp [*,errW_none,errW_some] <;> rfl),bb_⟩
    ·rw [if_neg c7] at H;have c7b0 : decide (x4_1 ≤ 10) = false:=decide_eq_false c7;clear c7;simp only [Option.some.injEq,Prod.mk.injEq] at H
     obtain ⟨rfl,rfl⟩:=H;go_wp2
     go_ret2
     exact ⟨by first|rfl|(rw [hnl12,Bool.not_not] <;> rfl)|(rw [hnl15,Bool.not_not] <;> rfl)|(simp [*,errW_none,errW_some] <;> rfl)|(simp [errW_none,errW_some] <;> rfl)|(simp [*,errW_none,errW_some] <;> rfl),bb_⟩
 ·replace c3:=Bool.eq_false_iff.mpr c3;subst c3;have H1 : (some (0,false)) = some (r1,r2):=by rw [if_neg (show ¬ (false = true) by decide)] at H;exact H
  clear H;have H:=H1;clear H1;simp only [Option.some.injEq,Prod.mk.injEq] at H
  obtain ⟨rfl,rfl⟩:=H;go_enter Tryd.func31,Tryd.ntmps31
  go_wp2_with (first|((with_reducible refine gate_dst (N:=1) rfl ?_);refine box_event ?hg (N:=1) ?hd (cs:=#[.int .i64 a0_0,.slice A0_1 l0_1.length c0_1]) (t:=26) ?hr ?_;(case hd=>rfl);(case hg=>rfl);(case hr=>go_simp;try rfl);intro Ae hg w16 hbox hb;have Aa:=A_ (hbox);have Ah:=A_ (gw_ (w:=w) hg bb_);have Ai:=A_ (gw_ (w:=w) hg bb_);replace HB:=A_ (below_step bb_ hb);clear hb hbox hg;obtain ⟨Z,Z,Z,Z⟩:=o2_ Aa.1)|((with_reducible refine gate_callee (f:=16) rfl ?_);refine goesL_ (some 9) rfl rfl Tryd.func16 (by kernel_rfl) rfl #[.agg #[.int .i64 a0_0,.slice A0_1 l0_1.length c0_1]] rfl au_ ?_;(with_reducible refine (Aap.calls k a0_0 _ _ l0_1 false _ ?side1 ?side2 ?side3 A2.1).mono ?_);(case side1=>exact cl_ (Kd.C_below HR0_1.1 HB.1));(case side2=>exact HC0_1.1);(case side3=>first|exact HT.1|exact HT.1.below bb_|(repeat (first|exact HT.1|apply TabOK.drewN|apply TabOK.drew|apply TabOK.alloc)));rintro e w18 ⟨rfl,hb⟩;refine ⟨_,rfl,?_⟩;replace Aa:=bz Aa hb;replace HB:=A_ (below_step bb_ hb);(try clear hb);(try clear hb2);(try clear hk);(try clear hi)))
  go_ret2
  exact ⟨by first|rfl|(rw [hnl12,Bool.not_not] <;> rfl)|(rw [hnl15,Bool.not_not] <;> rfl)|(simp [*,errW_none,errW_some] <;> rfl)|(simp [errW_none,errW_some] <;> rfl)|(simp [*,errW_none,errW_some] <;> rfl),bb_⟩
def Aay.l0 : Nat → Int → List Int → Int → Option (List Int)
 | 0,_,_,_=>none
 | k + 1,x0,x3,x4=>if 0 ≤ x4 then (if (shr .i64 x0 x4) > 0 then ((Aa8.f x0 x4).bind fun t320=>(if t320 = true then (if x3.length < 17592186044416 then (Aay.l0 k x0 (x3 ++ [x4]) (wrap64 (x4 + 1))) else (none)) else (Aay.l0 k x0 x3 (wrap64 (x4 + 1))))) else (some x3)) else (none)
def Aay.f (k : Nat) (a0 : Int) : Option (List Int) := Aay.l0 k a0 ([] : List Int) 0
set_option maxHeartbeats 8000000 in
set_option maxRecDepth 100000 in
theorem Aay.calls (k : Nat) (a0 : Int) (r : List Int) (w : World) (h : Aay.f k a0 = some r) :
 Calls Tryd.prog 71 #[.int .i64 a0] w fun e w'=>∃ v0_ : Value,e = .returned (v0_) ∧ Kd.R (Kd.int .i64) 3 w' w.heap.size (fun _=>True) v0_ r ∧ Below w.heap.size w w':=by
 have HB:=A_ (Below.refl w.heap.size w);have H : (Aay.l0 k a0 ([] : List Int) 0) = some r:=h;clear h;have H':=A_ H;clear H;go_enter Tryd.func71,Tryd.ntmps71
 go_wp2
 go_loopg [3,4] k (fun kq v3 v4 w'=>∃ (x3_1 : List Int) (x4_1 : Int),v4 = .int .i64 x4_1 ∧ Aside0 (Aay.l0 kq a0 x3_1 x4_1 = some r) ∧ Aside0 (kq ≤ k) ∧ Aside0 (Kd.R (Kd.int .i64) 3 w' w.heap.size (fun _=>True) v3 x3_1) ∧ Aside0 (Below w.heap.size w w'))
 case atStart=>exact ⟨(([] : List Int)),(0),(by first|rfl|(simp;done)|(simp [*];done)),H',⟨Nat.le_refl _⟩,⟨by first|exact Kd.R_nil _ _ _ _ _|exact Kd.N_nil _ _ _ _ _|exact Kd.V_nil _ _ _ _ _|exact Kd.Q_nil _ _ _ _ _|exact Kd.S_nil _ _ _ _ _⟩,⟨bb_⟩⟩
 case round =>
  clear H';obtain ⟨x3_1,x4_1,rfl,HA,HK1,HO_3,HB⟩:=hrel;cases gk with
  | zero => exact absurd HA.1 (by simp [Aay.l0])
  | succ k1 =>
   have H:=HA.1;clear HA;simp only [Aay.l0] at H
   by_cases c2 : 0 ≤ x4_1
   ·rw [if_pos c2] at H;have c2b0:=eq_true c2;have c2b1 : decide (0 ≤ x4_1) = true:=decide_eq_true c2;clear c2;obtain ⟨ji3,hji3⟩ : ∃ j_ : Int,(shr .i64 a0 x4_1) = j_:=⟨_,rfl⟩;replace H : (if (ji3) > 0 then ((Aa8.f a0 x4_1).bind fun Ab=>(if Ab = true then (if x3_1.length < 17592186044416 then (Aay.l0 k1 a0 (x3_1 ++ [x4_1]) (wrap64 (x4_1 + 1))) else (none)) else (Aay.l0 k1 a0 x3_1 (wrap64 (x4_1 + 1))))) else (some x3_1)) = some r:=by first|(rw [hji3] at H;exact H)|(simp only [hji3] at H ⊢;exact H)
    have hji3_ : (a0 / 2 ^ min x4_1.toNat 64) = ji3:=hji3;have hji3z : x4_1 ≤ 64 → (a0 / 2 ^ x4_1.toNat) = ji3:=shr_small hji3;by_cases c4 : (ji3) > 0
    ·rw [if_pos c4] at H;have c4b0 : decide (0 < (ji3)) = true:=decide_eq_true c4;clear c4;replace H:=Option.bind_eq_some_iff.mp H;obtain ⟨Ab,A50,H⟩:=H;(try dsimp only at H);have A5:=A_ A50;clear A50;by_cases c6 : Ab = true
     ·subst c6;rw [if_pos rfl] at H;by_cases c7 : x3_1.length < 17592186044416
      ·rw [if_pos c7] at H;have LMc7:=A_ c7;clear c7;obtain ⟨Ac,Aa⟩ : ∃ y_ : List Int,y_ = (x3_1 ++ [x4_1]):=⟨_,rfl⟩;replace H : (Aay.l0 k1 a0 Ac (wrap64 (x4_1 + 1))) = some r:=by first|(rw [Aa];with_reducible exact H)|(have H2_:=(Option.bind_some _ _).symm.trans H;rw [Aa];with_reducible exact H2_)|(have H2_:=(Option.bind_some _ _).symm.trans H;with_reducible exact H2_)|with_reducible exact H|(rw [Aa];exact H)|exact H
       have Ad:=A_ Aa;clear Aa;have H':=A_ H;clear H;go_wp2_with (first|((with_reducible refine gate_callee (f:=65) rfl ?_);refine goesL_ (some 13) rfl rfl Tryd.func65 (by kernel_rfl) rfl #[.int .i64 a0,.int .i64 x4_1] rfl au_ ?_;(with_reducible refine (Aa8.calls a0 x4_1 true _ A5.1).mono ?_);rintro e w' ⟨rfl,⟨nd,rfl⟩⟩;refine ⟨_,rfl,?_⟩)|((with_reducible refine gate_builtin (b:=.append) (xs:=#[.tmp 14,.tmp 16]) rfl ?_);at_builtin;refine Kd.R_append (Kd.int .i64) (w0:=w) w.heap.size rfl (.tmp 14) (.tmp 16) 24 3 (.int .i64 0) 8 rfl Tryd.underlying24 info3 rfl (by decide) (by omega) u3 x3_1 x4_1 [.int .i64 x4_1] (fun _=>True) (fun _=>False) rfl rfl ?aP (fun _ hk=>hk.elim) ?aF ?aO ?aB ?aS ?aL ?_;(case aP=>exact rfl);(case aB=>exact bb_);(case aF=>exact (fun _ _=>trivial));(case aO=>exact (rl_ HO_3));(case aS=>exact (below_size bb_));(case aL=>have:=LMc7.1;omega);intro Af w8 ho hb hg hat;rw [← Ad.1] at ho;replace HB:=A_ (hb);have Ae:=A_ (ho);clear HO_3;clear ho hb hg hat))
       go_roundg k1
       case measure=>have:=HK1.1;omega
       case rel=>exact ⟨(Ac),(wrap64 (x4_1 + 1)),(by first|rfl|(simp;done)|(simp [*];done)),H',⟨by have:=HK1.1;omega⟩,⟨rl_ Ae⟩,⟨bb_⟩⟩
      ·rw [if_neg c7] at H;exact absurd H (by simp)
     ·replace c6:=Bool.eq_false_iff.mpr c6;subst c6;rw [if_neg nf_] at H;have H':=A_ H;clear H;go_wp2_with (first|((with_reducible refine gate_callee (f:=65) rfl ?_);refine goesL_ (some 13) rfl rfl Tryd.func65 (by kernel_rfl) rfl #[.int .i64 a0,.int .i64 x4_1] rfl au_ ?_;(with_reducible refine (Aa8.calls a0 x4_1 false _ A5.1).mono ?_);rintro e w' ⟨rfl,⟨nd,rfl⟩⟩;refine ⟨_,rfl,?_⟩))
      go_roundg k1
      case measure=>have:=HK1.1;omega
      case rel=>exact ⟨(x3_1),(wrap64 (x4_1 + 1)),(by first|rfl|(simp;done)|(simp [*];done)),H',⟨by have:=HK1.1;omega⟩,⟨rl_ HO_3⟩,⟨bb_⟩⟩
    ·rw [if_neg c4] at H;have c4b0 : decide (0 < (ji3)) = false:=decide_eq_false c4;clear c4;obtain rfl:=Option.some.inj H;go_wp2
     go_ret
     exact ⟨_,by first|rfl|(simp [errW_none,errW_some] <;> rfl)|(simp only [← hji3];first|rfl|(simp [errW_none,errW_some] <;> rfl))|(simp [*,errW_none,errW_some] <;> rfl),rl_ HO_3,bb_⟩
   ·rw [if_neg c2] at H;exact absurd H (by simp)
mutual
def Aas.l0 : Nat → List Int → Int → Int → Int → List Int → Option (Bool)
 | 0,_,_,_,_,_=>none
 | k + 1,x11,x12,x13,x325000,x325001=>if x13 < x12 then (if 0 ≤ x13 then (if x13 < (x11.length : Int) then ((Aa8.f (rd x11 x13) x13).bind fun t327=>(if t327 = true then (some false) else ((Aay.f k (rd x11 x13)).bind fun t328=>(Aas.l1 k (rd x11 x13) x11 x12 x13 t328 (t328.length : Int) 0 x325000 x325001)))) else (none)) else (none)) else (some true)
def Aas.l1 : Nat → Int → List Int → Int → Int → List Int → Int → Int → Int → List Int → Option (Bool)
 | 0,_,_,_,_,_,_,_,_,_=>none
 | k + 1,x4,x11,x12,x13,x22,x23,x24,x325000,x325001=>if x24 < x23 then (if 0 ≤ x24 then (if x24 < (x22.length : Int) then (if 0 ≤ (rd x22 x24) then (if (rd x22 x24) < (x325001.length : Int) then (if (Go.bits .andNot .i64 (rd x325001 (rd x22 x24)) x4) = 0 then (Aas.l1 k x4 x11 x12 x13 x22 x23 (wrap64 (x24 + 1)) x325000 x325001) else (some false)) else (none)) else (none)) else (none)) else (none)) else (Aas.l0 k x11 x12 (wrap64 (x13 + 1)) x325000 x325001)
end
def Aas.f (k : Nat) (a0_0 : Int) (l0_1 : List Int) : Option (Bool) := (Abj.f k a0_0 l0_1).bind fun t325 => (if t325 = true then (Aas.l0 k l0_1 (l0_1.length : Int) 0 a0_0 l0_1) else (some false))
set_option maxHeartbeats 8000000 in
set_option maxRecDepth 100000 in
theorem Aas.calls (k : Nat) (a0_0 : Int) (A0_1 : Option Addr) (c0_1 : Nat) (l0_1 : List Int) (r : Bool) (w : World) (hr0_1 : Kd.C (Kd.int .i64) w A0_1 l0_1.length l0_1) (hc0_1 : l0_1.length ≤ c0_1) (h : Aas.f k a0_0 l0_1 = some r) :
 Calls Tryd.prog 70 #[.agg #[.int .i64 a0_0,.slice A0_1 l0_1.length c0_1]] w fun e w'=>e = .returned (.bool r) ∧ Below w.heap.size w w':=by
 have hu26:=Tryd.underlying26;have HR0_1:=A_ hr0_1;have HC0_1:=A_ hc0_1;clear hr0_1 hc0_1;have HB:=A_ (Below.refl w.heap.size w);have H : ((Abj.f k a0_0 l0_1).bind fun An=>(if An = true then (Aas.l0 k l0_1 (l0_1.length : Int) 0 a0_0 l0_1) else (some false))) = some r:=h;clear h;replace H:=Option.bind_eq_some_iff.mp H;obtain ⟨An,A20,H⟩:=H;(try dsimp only at H);have A2:=A_ A20;clear A20;by_cases c3 : An = true
 ·subst c3;rw [if_pos rfl] at H;have H':=A_ H;clear H;go_enter Tryd.func70,Tryd.ntmps70
  go_wp2_with (first|((with_reducible refine gate_dst (N:=1) rfl ?_);refine box_event ?hg (N:=1) ?hd (cs:=#[.int .i64 a0_0,.slice A0_1 l0_1.length c0_1]) (t:=26) ?hr ?_;(case hd=>rfl);(case hg=>rfl);(case hr=>go_simp;try rfl);intro Al hg w4 hbox hb;have Ab:=A_ (hbox);have Av:=A_ (gw_ (w:=w) hg bb_);have Aw:=A_ (gw_ (w:=w) hg bb_);replace HB:=A_ (below_step bb_ hb);clear hb hbox hg;obtain ⟨Z,Z,Z,Z⟩:=o2_ Ab.1)|((with_reducible refine gate_callee (f:=63) rfl ?_);refine goesL_ (some 8) rfl rfl Tryd.func63 (by kernel_rfl) rfl #[.agg #[.int .i64 a0_0,.slice A0_1 l0_1.length c0_1]] rfl au_ ?_;(with_reducible refine (Abj.calls k a0_0 _ _ l0_1 true _ ?side1 ?side2 A2.1).mono ?_);(case side1=>exact cl_ (Kd.C_below HR0_1.1 HB.1));(case side2=>exact HC0_1.1);rintro e w6 ⟨rfl,hb⟩;refine ⟨_,rfl,?_⟩;replace Ab:=bz Ab hb;replace HB:=A_ (below_step bb_ hb);(try clear hb);(try clear hb2);(try clear hk);(try clear hi);obtain ⟨Z,Z,Z,Z⟩:=o2_ Ab.1))
  go_loopg [13] k (fun kq v13 w'=>∃ (x13_1 : Int),v13 = .int .i64 x13_1 ∧ Aside0 (Aas.l0 kq l0_1 (l0_1.length : Int) x13_1 a0_0 l0_1 = some r) ∧ Aside0 (kq ≤ k) ∧ Aside0 (w'.heap[Al]? = some (.cells #[.int .i64 a0_0,(.slice A0_1 l0_1.length c0_1)] 26 (0,0))) ∧ Aside0 (Below w.heap.size w w'))
  case atStart=>exact ⟨(0),(by first|rfl|(simp;done)|(simp [*];done)),H',⟨Nat.le_refl _⟩,⟨bl_ Ab⟩,⟨bb_⟩⟩
  case round =>
   clear H';try clear p2
   try clear c3
   try clear c6
   try clear c7
   repeat clear Z
   obtain ⟨x13_1,rfl,HA,HK1,Ab,HB⟩:=hrel;cases gk with
   | zero=>exact absurd HA.1 (by simp [Aas.l0])
   | succ k1 =>
    have H:=HA.1;clear HA;simp only [Aas.l0] at H
    by_cases c8 : x13_1 < (l0_1.length : Int)
    ·rw [if_pos c8] at H;have c8b0 : decide (x13_1 < (l0_1.length : Int)) = true:=decide_eq_true c8;clear c8;by_cases c9 : 0 ≤ x13_1
     ·rw [if_pos c9] at H;have c9b0 : decide (0 ≤ x13_1) = true:=decide_eq_true c9;clear c9;by_cases c10 : x13_1 < (l0_1.length : Int)
      ·rw [if_pos c10] at H;have c10b0 : decide (x13_1 < (l0_1.length : Int)) = true:=decide_eq_true c10;clear c10;replace H:=Option.bind_eq_some_iff.mp H;obtain ⟨Ay,At,H⟩:=H;(try dsimp only at H);have A11:=A_ At;clear At;by_cases c12 : Ay = true
       ·subst c12;rw [if_pos rfl] at H;obtain rfl:=Option.some.inj H;have Ae : 0 ≤ (x13_1 : Int):=of_decide_eq_true (by first|(with_reducible assumption)|assumption);have Af : x13_1 < (l0_1.length : Int):=of_decide_eq_true (by first|(with_reducible assumption)|assumption);obtain ⟨Ak,Ao,Ac⟩:=Kd.at_int HR0_1.1 x13_1 Ae Af;cases Ao
        (try replace Ac:=(HB.1.cell (World.block_lt_of_cell? w _ Ac)).trans Ac);replace Ae:=eq_true Ae;replace Af:=eq_true Af;go_wp2_with (first|((with_reducible refine gate_callee (f:=65) rfl ?_);refine goesL_ (some 20) rfl rfl Tryd.func65 (by kernel_rfl) rfl #[.int .i64 (rd l0_1 x13_1),.int .i64 x13_1] rfl au_ ?_;(with_reducible refine (Aa8.calls (rd l0_1 x13_1) x13_1 true _ A11.1).mono ?_);rintro e w' ⟨rfl,⟨nd,rfl⟩⟩;refine ⟨_,rfl,?_⟩))
        go_ret
        exact ⟨by first|rfl|(simp [errW_none,errW_some] <;> rfl)|(simp [*,errW_none,errW_some] <;> rfl),bb_⟩
       ·replace c12:=Bool.eq_false_iff.mpr c12;subst c12;rw [if_neg nf_] at H;replace H:=Option.bind_eq_some_iff.mp H;obtain ⟨Aa,Au,H⟩:=H;(try dsimp only at H);have A13:=A_ Au;clear Au;have H':=A_ H;clear H;have Ae : 0 ≤ (x13_1 : Int):=of_decide_eq_true (by first|(with_reducible assumption)|assumption);have Af : x13_1 < (l0_1.length : Int):=of_decide_eq_true (by first|(with_reducible assumption)|assumption);obtain ⟨Ak,Ao,Ac⟩:=Kd.at_int HR0_1.1 x13_1 Ae Af;cases Ao
        (try replace Ac:=(HB.1.cell (World.block_lt_of_cell? w _ Ac)).trans Ac);replace Ae:=eq_true Ae;replace Af:=eq_true Af;go_wp2_with (first|((with_reducible refine gate_callee (f:=65) rfl ?_);refine goesL_ (some 20) rfl rfl Tryd.func65 (by kernel_rfl) rfl #[.int .i64 (rd l0_1 x13_1),.int .i64 x13_1] rfl au_ ?_;(with_reducible refine (Aa8.calls (rd l0_1 x13_1) x13_1 false _ A11.1).mono ?_);rintro e w' ⟨rfl,⟨nd,rfl⟩⟩;refine ⟨_,rfl,?_⟩)|((with_reducible refine gate_callee (f:=71) rfl ?_);refine goesL_ (some 22) rfl rfl Tryd.func71 (by kernel_rfl) rfl #[.int .i64 (rd l0_1 x13_1)] rfl au_ ?_;(with_reducible refine (Aay.calls k1 (rd l0_1 x13_1) Aa _ A13.1).mono ?_);rintro e w14 ⟨Az,rfl,ho0,hb⟩;refine ⟨_,rfl,?_⟩;have Ar:=A_ (Kd.R_lower ho0 (below_size bb_));replace Ab:=bz Ab hb;replace HB:=A_ (below_step bb_ hb);(try clear hb);(try clear hb2);(try clear hk);(try clear hi);(try clear ho0);obtain ⟨Ao15,co15,eo15⟩:=Kd.R_slice Ar.1;subst eo15))
        go_loopg [24] k1 (fun kq v24 w'=>∃ (x24_2 : Int),v24 = .int .i64 x24_2 ∧ Aside0 (Aas.l1 kq (rd l0_1 x13_1) l0_1 (l0_1.length : Int) x13_1 Aa (Aa.length : Int) x24_2 a0_0 l0_1 = some r) ∧ Aside0 (kq ≤ k1) ∧ Aside0 (Kd.R (Kd.int .i64) 3 w' w.heap.size (fun _=>True) (.slice Ao15 Aa.length co15) Aa) ∧ Aside0 (w'.heap[Al]? = some (.cells #[.int .i64 a0_0,(.slice (some Ak) l0_1.length c0_1)] 26 (0,0))) ∧ Aside0 (Below w.heap.size w w'))
        case atStart=>exact ⟨(0),(by first|rfl|(simp;done)|(simp [*];done)),H',⟨Nat.le_refl _⟩,⟨rl_ Ar⟩,⟨bl_ Ab⟩,⟨bb_⟩⟩
        case round =>
         clear H';try clear c1
         try clear p2
         try clear c3
         try clear p3
         try clear q3
         try clear hx3
         try clear c6
         try clear c7
         try clear c8
         try clear c8b0
         try clear c9
         try clear c9b0
         try clear c10
         try clear c10b0
         try clear c12
         repeat clear Z
         try clear Ac
         try clear p2
         try clear Ae
         try clear Af
         obtain ⟨x24_2,rfl,HA,HK2,HO_22,Ab,HB⟩:=hrel;cases gk with
         | zero=>exact absurd HA.1 (by simp [Aas.l1])
         | succ k2 =>
          have H:=HA.1;clear HA;simp only [Aas.l1] at H
          by_cases c16 : x24_2 < (Aa.length : Int)
          ·rw [if_pos c16] at H;have c16b0 : decide (x24_2 < (Aa.length : Int)) = true:=decide_eq_true c16;clear c16;by_cases c17 : 0 ≤ x24_2
           ·rw [if_pos c17] at H;have c17b0 : decide (0 ≤ x24_2) = true:=decide_eq_true c17;clear c17;by_cases c18 : x24_2 < (Aa.length : Int)
            ·rw [if_pos c18] at H;have c18b0 : decide (x24_2 < (Aa.length : Int)) = true:=decide_eq_true c18;clear c18;by_cases c19 : 0 ≤ (rd Aa x24_2)
             ·rw [if_pos c19] at H;have c19b0 : decide (0 ≤ (rd Aa x24_2)) = true:=decide_eq_true c19;clear c19;by_cases c20 : (rd Aa x24_2) < (l0_1.length : Int)
              ·rw [if_pos c20] at H;have c20b0 : decide ((rd Aa x24_2) < (l0_1.length : Int)) = true:=decide_eq_true c20;clear c20;by_cases c21 : (Go.bits .andNot .i64 (rd l0_1 (rd Aa x24_2)) (rd l0_1 x13_1)) = 0
               ·rw [if_pos c21] at H;have c21b0 : ((Go.bits .andNot .i64 (rd l0_1 (rd Aa x24_2)) (rd l0_1 x13_1)) == 0) = true:=beq_iff_eq.mpr c21;have c21b1 : ((Go.bits .andNot .i64 (rd l0_1 (rd Aa x24_2)) (rd l0_1 x13_1)) != 0) = false:=bne_eq_false_iff_eq.mpr c21;clear c21;have H':=A_ H;clear H;have Ag : 0 ≤ (x24_2 : Int):=of_decide_eq_true (by first|(with_reducible assumption)|assumption);have Ah : x24_2 < (Aa.length : Int):=of_decide_eq_true (by first|(with_reducible assumption)|assumption);obtain ⟨Ax,Ap,As⟩:=Kd.at_int (Kd.R_reads' HO_22.1).2.2 x24_2 Ag Ah;cases Ap
                replace Ag:=eq_true Ag;replace Ah:=eq_true Ah;obtain ⟨Z,Z,Z,Z⟩:=o2_ Ab.1;have Ai : 0 ≤ ((rd Aa x24_2) : Int):=of_decide_eq_true (by first|(with_reducible assumption)|assumption);have Aj : (rd Aa x24_2) < (l0_1.length : Int):=of_decide_eq_true (by first|(with_reducible assumption)|assumption);obtain ⟨Am,Aq,Ad⟩:=Kd.at_int HR0_1.1 (rd Aa x24_2) Ai Aj;obtain rfl : Ak = Am:=(by injection Aq);(try replace Ad:=(HB.1.cell (World.block_lt_of_cell? w _ Ad)).trans Ad);replace Ai:=eq_true Ai;replace Aj:=eq_true Aj;go_wp2
                go_roundg k2
                case measure=>have:=HK1.1;have:=HK2.1;omega
                case rel=>exact ⟨(wrap64 (x24_2 + 1)),(by first|rfl|(simp;done)|(simp [*];done)),H',⟨by have:=HK1.1;have:=HK2.1;omega⟩,⟨rl_ HO_22⟩,⟨bl_ Ab⟩,⟨bb_⟩⟩
               ·rw [if_neg c21] at H;have c21b0 : ((Go.bits .andNot .i64 (rd l0_1 (rd Aa x24_2)) (rd l0_1 x13_1)) == 0) = false:=beq_eq_false_iff_ne.mpr c21;have c21b1 : ((Go.bits .andNot .i64 (rd l0_1 (rd Aa x24_2)) (rd l0_1 x13_1)) != 0) = true:=bne_iff_ne.mpr c21;obtain rfl:=Option.some.inj H;have Ag : 0 ≤ (x24_2 : Int):=of_decide_eq_true (by first|(with_reducible assumption)|assumption);have Ah : x24_2 < (Aa.length : Int):=of_decide_eq_true (by first|(with_reducible assumption)|assumption);obtain ⟨Ax,Ap,As⟩:=Kd.at_int (Kd.R_reads' HO_22.1).2.2 x24_2 Ag Ah;cases Ap
                replace Ag:=eq_true Ag;replace Ah:=eq_true Ah;obtain ⟨Z,Z,Z,Z⟩:=o2_ Ab.1;have Ai : 0 ≤ ((rd Aa x24_2) : Int):=of_decide_eq_true (by first|(with_reducible assumption)|assumption);have Aj : (rd Aa x24_2) < (l0_1.length : Int):=of_decide_eq_true (by first|(with_reducible assumption)|assumption);obtain ⟨Am,Aq,Ad⟩:=Kd.at_int HR0_1.1 (rd Aa x24_2) Ai Aj;obtain rfl : Ak = Am:=(by injection Aq);(try replace Ad:=(HB.1.cell (World.block_lt_of_cell? w _ Ad)).trans Ad);replace Ai:=eq_true Ai;replace Aj:=eq_true Aj;go_wp2
                go_ret
                exact ⟨by first|rfl|(simp [errW_none,errW_some] <;> rfl)|(simp [*,errW_none,errW_some] <;> rfl),bb_⟩
              ·rw [if_neg c20] at H;exact absurd H (by simp)
             ·rw [if_neg c19] at H;exact absurd H (by simp)
            ·rw [if_neg c18] at H;exact absurd H (by simp)
           ·rw [if_neg c17] at H;exact absurd H (by simp)
          ·rw [if_neg c16] at H;have c16b0 : decide (x24_2 < (Aa.length : Int)) = false:=decide_eq_false c16;clear c16;have H':=A_ H;clear H;go_wp2
           go_roundg k2
           case measure=>have:=HK1.1;have:=HK2.1;omega
           case rel=>exact ⟨(wrap64 (x13_1 + 1)),(by first|rfl|(simp;done)|(simp [*];done)),H',⟨by have:=HK1.1;have:=HK2.1;omega⟩,⟨bl_ Ab⟩,⟨bb_⟩⟩
      ·rw [if_neg c10] at H;exact absurd H (by simp)
     ·rw [if_neg c9] at H;exact absurd H (by simp)
    ·rw [if_neg c8] at H;have c8b0 : decide (x13_1 < (l0_1.length : Int)) = false:=decide_eq_false c8;clear c8;obtain rfl:=Option.some.inj H;go_wp2
     go_ret
     exact ⟨by first|rfl|(simp [errW_none,errW_some] <;> rfl)|(simp [*,errW_none,errW_some] <;> rfl),bb_⟩
 ·replace c3:=Bool.eq_false_iff.mpr c3;subst c3;rw [if_neg nf_] at H;obtain rfl:=Option.some.inj H;go_enter Tryd.func70,Tryd.ntmps70
  go_wp2_with (first|((with_reducible refine gate_dst (N:=1) rfl ?_);refine box_event ?hg (N:=1) ?hd (cs:=#[.int .i64 a0_0,.slice A0_1 l0_1.length c0_1]) (t:=26) ?hr ?_;(case hd=>rfl);(case hg=>rfl);(case hr=>go_simp;try rfl);intro Al hg w24 hbox hb;have Ab:=A_ (hbox);have Av:=A_ (gw_ (w:=w) hg bb_);have Aw:=A_ (gw_ (w:=w) hg bb_);replace HB:=A_ (below_step bb_ hb);clear hb hbox hg;obtain ⟨Z,Z,Z,Z⟩:=o2_ Ab.1)|((with_reducible refine gate_callee (f:=63) rfl ?_);refine goesL_ (some 8) rfl rfl Tryd.func63 (by kernel_rfl) rfl #[.agg #[.int .i64 a0_0,.slice A0_1 l0_1.length c0_1]] rfl au_ ?_;(with_reducible refine (Abj.calls k a0_0 _ _ l0_1 false _ ?side1 ?side2 A2.1).mono ?_);(case side1=>exact cl_ (Kd.C_below HR0_1.1 HB.1));(case side2=>exact HC0_1.1);rintro e w26 ⟨rfl,hb⟩;refine ⟨_,rfl,?_⟩;replace Ab:=bz Ab hb;replace HB:=A_ (below_step bb_ hb);(try clear hb);(try clear hb2);(try clear hk);(try clear hi)))
  go_ret
  exact ⟨by first|rfl|(simp [errW_none,errW_some] <;> rfl)|(simp [*,errW_none,errW_some] <;> rfl),bb_⟩
def Abd.l0 : Nat → Int → Int → List Int → Int → Int → Option (Int)
 | 0,_,_,_,_,_=>none
 | k + 1,x1,x5,x9,x10,x11=>if x11 < x10 then (if 0 ≤ x11 then (if x11 < (x9.length : Int) then ((Aa8.f (rd x9 x11) x1).bind fun t817=>(if t817 = true then (Abd.l0 k x1 (Go.bits .or .i64 x5 (shl .i64 1 x11)) x9 x10 (wrap64 (x11 + 1))) else (Abd.l0 k x1 x5 x9 x10 (wrap64 (x11 + 1))))) else (none)) else (none)) else (some x5)
def Abd.f (k : Nat) (a0_0 : Int) (l0_1 : List Int) (a1 : Int) : Option (Int) := Abd.l0 k a1 0 l0_1 (l0_1.length : Int) 0
set_option maxHeartbeats 8000000 in
set_option maxRecDepth 100000 in
theorem Abd.calls (k : Nat) (a0_0 : Int) (A0_1 : Option Addr) (c0_1 : Nat) (l0_1 : List Int) (a1 : Int) (r : Int) (w : World) (hr0_1 : Kd.C (Kd.int .i64) w A0_1 l0_1.length l0_1) (hc0_1 : l0_1.length ≤ c0_1) (h : Abd.f k a0_0 l0_1 a1 = some r) :
 Calls Tryd.prog 135 #[.agg #[.int .i64 a0_0,.slice A0_1 l0_1.length c0_1],.int .i64 a1] w fun e w'=>e = .returned (.int .i64 r) ∧ Below w.heap.size w w':=by
 have hu26:=Tryd.underlying26;have HR0_1:=A_ hr0_1;have HC0_1:=A_ hc0_1;clear hr0_1 hc0_1;have HB:=A_ (Below.refl w.heap.size w);have H : (Abd.l0 k a1 0 l0_1 (l0_1.length : Int) 0) = some r:=h;clear h;have H':=A_ H;clear H;go_enter Tryd.func135,Tryd.ntmps135
 go_wp2_with (first|((with_reducible refine gate_dst (N:=2) rfl ?_);refine box_event ?hg (N:=2) ?hd (cs:=#[.int .i64 a0_0,.slice A0_1 l0_1.length c0_1]) (t:=26) ?hr ?_;(case hd=>rfl);(case hg=>rfl);(case hr=>go_simp;try rfl);intro Af hg w3 hbox hb;have Ad:=A_ (hbox);have Ai:=A_ (gw_ (w:=w) hg bb_);have Aj:=A_ (gw_ (w:=w) hg bb_);replace HB:=A_ (below_step bb_ hb);clear hb hbox hg;obtain ⟨Z,Z,Z,Z⟩:=o2_ Ad.1))
 go_loopg [5,11] k (fun kq v5 v11 w'=>∃ (x5_1 : Int) (x11_1 : Int),v5 = .int .i64 x5_1 ∧ v11 = .int .i64 x11_1 ∧ Aside0 (Abd.l0 kq a1 x5_1 l0_1 (l0_1.length : Int) x11_1 = some r) ∧ Aside0 (kq ≤ k) ∧ Aside0 (w'.heap[Af]? = some (.cells #[.int .i64 a0_0,(.slice A0_1 l0_1.length c0_1)] 26 (0,0))) ∧ Aside0 (Below w.heap.size w w'))
 case atStart=>exact ⟨(0),(0),(by first|rfl|(simp;done)|(simp [*];done)),(by first|rfl|(simp;done)|(simp [*];done)),H',⟨Nat.le_refl _⟩,⟨bl_ Ad⟩,⟨bb_⟩⟩
 case round =>
  clear H';try clear c1
  try clear p2
  repeat clear Z
  obtain ⟨x5_1,x11_1,rfl,rfl,HA,HK1,Ad,HB⟩:=hrel;cases gk with
  | zero => exact absurd HA.1 (by simp [Abd.l0])
  | succ k1 =>
   have H:=HA.1;clear HA;simp only [Abd.l0] at H
   by_cases c5 : x11_1 < (l0_1.length : Int)
   ·rw [if_pos c5] at H;have c5b0 : decide (x11_1 < (l0_1.length : Int)) = true:=decide_eq_true c5;clear c5;by_cases c6 : 0 ≤ x11_1
    ·rw [if_pos c6] at H;have c6b0 : decide (0 ≤ x11_1) = true:=decide_eq_true c6;clear c6;by_cases c7 : x11_1 < (l0_1.length : Int)
     ·rw [if_pos c7] at H;have c7b0 : decide (x11_1 < (l0_1.length : Int)) = true:=decide_eq_true c7;clear c7;replace H:=Option.bind_eq_some_iff.mp H;obtain ⟨Ah,A80,H⟩:=H;(try dsimp only at H);have A8:=A_ A80;clear A80;by_cases c9 : Ah = true
      ·subst c9;rw [if_pos rfl] at H;have c10b0:=eq_true (of_decide_eq_true (by first|(with_reducible assumption)|assumption) : 0 ≤ x11_1);obtain ⟨ji11,hji11⟩ : ∃ j_ : Int,(shl .i64 1 x11_1) = j_:=⟨_,rfl⟩;replace H : (Abd.l0 k1 a1 (Go.bits .or .i64 x5_1 (ji11)) l0_1 (l0_1.length : Int) (wrap64 (x11_1 + 1))) = some r:=by first|(rw [hji11] at H;exact H)|(simp only [hji11] at H ⊢;exact H)
       (try rw [hji11] at A8);have hji11_ : (IntKind.i64.wrap (1 * 2 ^ min x11_1.toNat 64)) = ji11:=hji11;have hji11z : x11_1 ≤ 64 → (IntKind.i64.wrap (1 * 2 ^ x11_1.toNat)) = ji11:=shl_small hji11;have hji11u : (IntKind.i64.wrap (2 ^ min x11_1.toNat 64)) = ji11:=by have h_:=hji11_;rw [Int.one_mul] at h_;exact h_
       have hji11v : x11_1 ≤ 64 → (IntKind.i64.wrap (2 ^ x11_1.toNat)) = ji11:=fun hle_=>by have h_:=hji11z hle_;rw [Int.one_mul] at h_;exact h_
       have hji11y : (wrap64 (1 * 2 ^ min x11_1.toNat 64)) = ji11:=(i64_w _).symm.trans hji11_;have hji11x : x11_1 ≤ 64 → (wrap64 (1 * 2 ^ x11_1.toNat)) = ji11:=fun h_=>(i64_w _).symm.trans (hji11z h_)
       have H':=A_ H;clear H;have Ab : 0 ≤ (x11_1 : Int):=of_decide_eq_true (by first|(with_reducible assumption)|assumption);have Ac : x11_1 < (l0_1.length : Int):=of_decide_eq_true (by first|(with_reducible assumption)|assumption);obtain ⟨Ag,Ae,Aa⟩:=Kd.at_int HR0_1.1 x11_1 Ab Ac;cases Ae
       (try replace Aa:=(HB.1.cell (World.block_lt_of_cell? w _ Aa)).trans Aa);replace Ab:=eq_true Ab;replace Ac:=eq_true Ac;go_wp2_with (first|((with_reducible refine gate_callee (f:=65) rfl ?_);refine goesL_ (some 18) rfl rfl Tryd.func65 (by kernel_rfl) rfl #[.int .i64 (rd l0_1 x11_1),.int .i64 a1] rfl au_ ?_;(with_reducible refine (Aa8.calls (rd l0_1 x11_1) a1 true _ A8.1).mono ?_);rintro e w' ⟨rfl,⟨nd,rfl⟩⟩;refine ⟨_,rfl,?_⟩))
       go_roundg k1
       case measure=>have:=HK1.1;omega
       case rel=>exact ⟨(Go.bits .or .i64 x5_1 (ji11)),(wrap64 (x11_1 + 1)),(by first|rfl|(simp;done)|(simp only [← hji11] <;> (first|rfl|simp))|(simp [*];done)),(by first|rfl|(simp;done)|(simp [*];done)),H',⟨by have:=HK1.1;omega⟩,⟨bl_ Ad⟩,⟨bb_⟩⟩
      ·replace c9:=Bool.eq_false_iff.mpr c9;subst c9;rw [if_neg nf_] at H;have H':=A_ H;clear H;have Ab : 0 ≤ (x11_1 : Int):=of_decide_eq_true (by first|(with_reducible assumption)|assumption);have Ac : x11_1 < (l0_1.length : Int):=of_decide_eq_true (by first|(with_reducible assumption)|assumption);obtain ⟨Ag,Ae,Aa⟩:=Kd.at_int HR0_1.1 x11_1 Ab Ac;cases Ae
       (try replace Aa:=(HB.1.cell (World.block_lt_of_cell? w _ Aa)).trans Aa);replace Ab:=eq_true Ab;replace Ac:=eq_true Ac;go_wp2_with (first|((with_reducible refine gate_callee (f:=65) rfl ?_);refine goesL_ (some 18) rfl rfl Tryd.func65 (by kernel_rfl) rfl #[.int .i64 (rd l0_1 x11_1),.int .i64 a1] rfl au_ ?_;(with_reducible refine (Aa8.calls (rd l0_1 x11_1) a1 false _ A8.1).mono ?_);rintro e w' ⟨rfl,⟨nd,rfl⟩⟩;refine ⟨_,rfl,?_⟩))
       go_roundg k1
       case measure=>have:=HK1.1;omega
       case rel=>exact ⟨(x5_1),(wrap64 (x11_1 + 1)),(by first|rfl|(simp;done)|(simp [*];done)),(by first|rfl|(simp;done)|(simp [*];done)),H',⟨by have:=HK1.1;omega⟩,⟨bl_ Ad⟩,⟨bb_⟩⟩
     ·rw [if_neg c7] at H;exact absurd H (by simp)
    ·rw [if_neg c6] at H;exact absurd H (by simp)
   ·rw [if_neg c5] at H;have c5b0 : decide (x11_1 < (l0_1.length : Int)) = false:=decide_eq_false c5;clear c5;obtain rfl:=Option.some.inj H;go_wp2
    go_ret
    exact ⟨by first|rfl|(simp [errW_none,errW_some] <;> rfl)|(simp [*,errW_none,errW_some] <;> rfl),bb_⟩
def Aa9.f (k : Nat) (a0_0 : Int) (l0_1 : List Int) (a1 : Int) : Option (Int) := if 0 ≤ a0_0 then (if 0 ≤ a1 then (if a1 < (l0_1.length : Int) then ((Abd.f k a0_0 l0_1 a1).bind fun t820 => (some (Go.bits .andNot .i64 (wrap64 ((shl .i64 1 a0_0) - 1)) (Go.bits .or .i64 (Go.bits .or .i64 (rd l0_1 a1) t820) (shl .i64 1 a1))))) else (none)) else (none)) else (none)
def Aa9.T1 : Bool × List (List Nat × List Nat) := (true, [([], []), ([0], [0]), ([1], [1]), ([2], [2]), ([], []), ([4], [4]), ([], []), ([5, 6], [5, 6]), ([7], [7]), ([], []), ([], []), ([9, 10], [9, 10]), ([8, 11], [8, 11]), ([], []), ([13], [13]), ([12, 14], [12, 14]), ([3, 15], [3, 15]), ([16, 11, 0, 1, 2, 3, 4, 5, 6, 7, 8, 9, 10, 11, 12, 13, 14, 15, 16], [16])])
def Aa9.B1 : List Nat := [0, 1, 3, 7, 0, 16, 0, 112, 240, 0, 0, 1536, 4080, 0, 8192, 32752, 65535, 131071]
theorem Aa9.tab1 : rtab .any (opsOf Tryd.f93 1) = Aa9.T1:=by kernel_rfl
theorem Aa9.bits1 : waitsOk Aa9.T1.2 Aa9.B1 = true:=by kernel_rfl
set_option maxHeartbeats 8000000 in
set_option maxRecDepth 100000 in
theorem Aa9.calls (k : Nat) (a0_0 : Int) (A0_1 : Option Addr) (c0_1 : Nat) (l0_1 : List Int) (a1 : Int) (r : Int) (w : World) (hr0_1 : Kd.C (Kd.int .i64) w A0_1 l0_1.length l0_1) (hc0_1 : l0_1.length ≤ c0_1) (h : Aa9.f k a0_0 l0_1 a1 = some r) :
 Calls Tryd.prog 93 #[.agg #[.int .i64 a0_0,.slice A0_1 l0_1.length c0_1],.int .i64 a1] w fun e w'=>e = .returned (.int .i64 r) ∧ Below w.heap.size w w':=by
 have hu26:=Tryd.underlying26;have HR0_1:=A_ hr0_1;have HC0_1:=A_ hc0_1;clear hr0_1 hc0_1;have HB:=A_ (Below.refl w.heap.size w);have H : (if 0 ≤ a0_0 then (if 0 ≤ a1 then (if a1 < (l0_1.length : Int) then ((Abd.f k a0_0 l0_1 a1).bind fun Ad=>(some (Go.bits .andNot .i64 (wrap64 ((shl .i64 1 a0_0) - 1)) (Go.bits .or .i64 (Go.bits .or .i64 (rd l0_1 a1) Ad) (shl .i64 1 a1))))) else (none)) else (none)) else (none)) = some r:=h;clear h;by_cases c3 : 0 ≤ a0_0
 ·rw [if_pos c3] at H;have c3b0:=eq_true c3;have c3b1 : decide (0 ≤ a0_0) = true:=decide_eq_true c3;clear c3;obtain ⟨ji4,hji4⟩ : ∃ j_ : Int,(shl .i64 1 a0_0) = j_:=⟨_,rfl⟩;replace H : (if 0 ≤ a1 then (if a1 < (l0_1.length : Int) then ((Abd.f k a0_0 l0_1 a1).bind fun Ad=>(some (Go.bits .andNot .i64 (wrap64 ((ji4) - 1)) (Go.bits .or .i64 (Go.bits .or .i64 (rd l0_1 a1) Ad) (shl .i64 1 a1))))) else (none)) else (none)) = some r:=by first|(rw [hji4] at H;exact H)|(simp only [hji4] at H ⊢;exact H)
  have hji4_ : (IntKind.i64.wrap (1 * 2 ^ min a0_0.toNat 64)) = ji4:=hji4;have hji4z : a0_0 ≤ 64 → (IntKind.i64.wrap (1 * 2 ^ a0_0.toNat)) = ji4:=shl_small hji4;have hji4u : (IntKind.i64.wrap (2 ^ min a0_0.toNat 64)) = ji4:=by have h_:=hji4_;rw [Int.one_mul] at h_;exact h_
  have hji4v : a0_0 ≤ 64 → (IntKind.i64.wrap (2 ^ a0_0.toNat)) = ji4:=fun hle_=>by have h_:=hji4z hle_;rw [Int.one_mul] at h_;exact h_
  have hji4y : (wrap64 (1 * 2 ^ min a0_0.toNat 64)) = ji4:=(i64_w _).symm.trans hji4_;have hji4x : a0_0 ≤ 64 → (wrap64 (1 * 2 ^ a0_0.toNat)) = ji4:=fun h_=>(i64_w _).symm.trans (hji4z h_)
  by_cases c5 : 0 ≤ a1
  ·rw [if_pos c5] at H;have c5b0 : decide (0 ≤ a1) = true:=decide_eq_true c5;clear c5;by_cases c6 : a1 < (l0_1.length : Int)
   ·rw [if_pos c6] at H;have c6b0 : decide (a1 < (l0_1.length : Int)) = true:=decide_eq_true c6;clear c6;replace H:=Option.bind_eq_some_iff.mp H;obtain ⟨Ad,A70,H⟩:=H;(try dsimp only at H);have A7:=A_ A70;clear A70;have c8b0:=eq_true (of_decide_eq_true (by first|(with_reducible assumption)|assumption) : 0 ≤ a1);obtain ⟨ji9,hji9⟩ : ∃ j_ : Int,(shl .i64 1 a1) = j_:=⟨_,rfl⟩;replace H : (some (Go.bits .andNot .i64 (wrap64 ((ji4) - 1)) (Go.bits .or .i64 (Go.bits .or .i64 (rd l0_1 a1) Ad) (ji9)))) = some r:=by first|(rw [hji9] at H;exact H)|(simp only [hji9] at H ⊢;exact H)
    (try rw [hji9] at A7);have hji9_ : (IntKind.i64.wrap (1 * 2 ^ min a1.toNat 64)) = ji9:=hji9;have hji9z : a1 ≤ 64 → (IntKind.i64.wrap (1 * 2 ^ a1.toNat)) = ji9:=shl_small hji9;have hji9u : (IntKind.i64.wrap (2 ^ min a1.toNat 64)) = ji9:=by have h_:=hji9_;rw [Int.one_mul] at h_;exact h_
    have hji9v : a1 ≤ 64 → (IntKind.i64.wrap (2 ^ a1.toNat)) = ji9:=fun hle_=>by have h_:=hji9z hle_;rw [Int.one_mul] at h_;exact h_
    have hji9y : (wrap64 (1 * 2 ^ min a1.toNat 64)) = ji9:=(i64_w _).symm.trans hji9_;have hji9x : a1 ≤ 64 → (wrap64 (1 * 2 ^ a1.toNat)) = ji9:=fun h_=>(i64_w _).symm.trans (hji9z h_)
    obtain rfl:=Option.some.inj H;go_enter Tryd.func93,Tryd.ntmps93
    try go_wp2_with (first|((with_reducible refine gate_dst (N:=2) rfl ?_);refine box_event ?hg (N:=2) ?hd (cs:=#[.int .i64 a0_0,.slice A0_1 l0_1.length c0_1]) (t:=26) ?hr ?_;(case hd=>rfl);(case hg=>rfl);(case hr=>go_simp;try rfl);intro Ah hg w10 hbox hb;have Aa:=A_ (hbox);have Aj:=A_ (gw_ (w:=w) hg bb_);have Ak:=A_ (gw_ (w:=w) hg bb_);replace HB:=A_ (below_step bb_ hb);clear hb hbox hg))
    replace Aa:=A_ (blk_drew Aa.1);replace HB:=A_ (below_drew1 HB.1);have Af : 0 ≤ (a1 : Int):=of_decide_eq_true (by first|(with_reducible assumption)|assumption);have Ag : a1 < (l0_1.length : Int):=of_decide_eq_true (by first|(with_reducible assumption)|assumption);obtain ⟨Ae,Ai,Ab⟩:=Kd.at_int HR0_1.1 a1 Af Ag;have Ac:=Ab;cases Ai
    (try replace Ab:=(HB.1.cell (World.block_lt_of_cell? w _ Ab)).trans Ab);replace Af:=eq_true Af;replace Ag:=eq_true Ag;refine start_ (n:=18) (S:=fun w'=>w'.cell? ⟨Ah,0,none⟩ = some (.int .i64 a0_0) ∧ w'.cell? ⟨Ah,1,none⟩ = some (.slice (some Ae) l0_1.length c0_1) ∧ w'.cell? (Ae.add (a1).toNat) = some (.int .i64 (rd l0_1 a1))) (ds:=[]) #[F,F,F,F,F,F,F,F,F,F,F,F,F,F,F,F,F,F] (by kernel_rfl) rfl rfl ⟨blk_cell Aa.1 0,blk_cell Aa.1 1,((HB.1.cell (World.block_lt_of_cell? w _ Ac)).trans Ac)⟩ (fun hHeld=>?_);refine with_tabW Aa9.tab1 Aa9.bits1 (fun HT_ HW_=>?_)
    generalize w10.drew = w11 at Aa HB Ab hHeld ⊢
    refine pu_ (i:=0) (N:=5) #[T,F,F,F,F,F,F,F,F,F,F,F,F,F,F,F,F,F] HT_.1 rfl rfl (fun _ _ _ h=>h) rfl (h:=?_)
    refine pu_ (i:=4) (N:=9) #[T,F,F,F,T,F,F,F,F,F,F,F,F,F,F,F,F,F] HT_.1 rfl rfl (fun _ _ _ h=>h) rfl (h:=?_)
    refine pu_ (i:=6) (N:=11) #[T,F,F,F,T,F,T,F,F,F,F,F,F,F,F,F,F,F] HT_.1 rfl rfl (fun _ _ _ h=>h) rfl (h:=?_)
    refine pu_ (i:=10) (N:=15) #[T,F,F,F,T,F,T,F,F,F,T,F,F,F,F,F,F,F] HT_.1 rfl rfl (fun _ _ _ h=>h) rfl (h:=?_)
    refine pu_ (i:=13) (N:=18) #[T,F,F,F,T,F,T,F,F,F,T,F,F,T,F,F,F,F] HT_.1 rfl rfl (fun _ _ _ h=>h) rfl (h:=?_)
    refine pu_ (i:=14) (N:=19) #[T,F,F,F,T,F,T,F,F,F,T,F,F,T,T,F,F,F] HT_.1 rfl rfl (fun _ _ _ h=>h) rfl (h:=?_)
    refine take_ (i:=1) (N:=some 6) (v:=?_) (a':=?_) #[T,T,F,F,T,F,T,F,F,F,T,F,F,T,T,F,F,F] rfl rfl (take_ofW HT_.1 HW_.1 (by kernel_rfl)) (fun _ _ _ h=>h) (Or.inl ⟨by rfl,?_⟩) hHeld ?_ ?_
    rotate_left
    ·rintro w' ⟨s0,s1,s2⟩
     go_simp
     with_reducible rfl
    rotate_left;·simp only [Act.put,L_,M_,N_,i64_w,i32_w];rfl
    refine pu_ (i:=2) (N:=7) #[T,T,T,F,T,F,T,F,F,F,T,F,F,T,T,F,F,F] HT_.1 rfl rfl (fun _ _ _ h=>h) rfl (h:=?_)
    refine pu_ (i:=3) (N:=8) #[T,T,T,T,T,F,T,F,F,F,T,F,F,T,T,F,F,F] HT_.1 rfl rfl (fun _ _ _ h=>h) rfl (h:=?_)
    refine take_ (i:=5) (N:=some 10) (v:=?_) (a':=?_) #[T,T,T,T,T,T,T,F,F,F,T,F,F,T,T,F,F,F] rfl rfl (take_ofW HT_.1 HW_.1 (by kernel_rfl)) (fun _ _ _ h=>h) (Or.inl ⟨by rfl,?_⟩) hHeld ?_ ?_
    rotate_left
    ·rintro w' ⟨s0,s1,s2⟩
     go_simp
     with_reducible rfl
    rotate_left;·simp only [Act.put,L_,M_,N_,i64_w,i32_w];rfl
    refine pu_ (i:=7) (N:=12) #[T,T,T,T,T,T,T,T,F,F,T,F,F,T,T,F,F,F] HT_.1 rfl rfl (fun _ _ _ h=>h) rfl (h:=?_)
    refine take_ (i:=8) (N:=some 13) (v:=?_) (a':=?_) #[T,T,T,T,T,T,T,T,T,F,T,F,F,T,T,F,F,F] rfl rfl (take_ofW HT_.1 HW_.1 (by kernel_rfl)) (fun _ _ _ h=>h) (Or.inl ⟨by rfl,?_⟩) hHeld ?_ ?_
    rotate_left
    ·rintro w' ⟨s0,s1,s2⟩
     go_simp
     with_reducible rfl
    rotate_left;·simp only [Act.put,L_,M_,N_,i64_w,i32_w];rfl
    refine take_ (i:=9) (N:=some 14) (v:=?_) (a':=?_) #[T,T,T,T,T,T,T,T,T,T,T,F,F,T,T,F,F,F] rfl rfl (take_ofW HT_.1 HW_.1 (by kernel_rfl)) (fun _ _ _ h=>h) (Or.inl ⟨by rfl,?_⟩) hHeld ?_ ?_
    rotate_left
    ·rintro w' ⟨s0,s1,s2⟩
     go_simp
     with_reducible rfl
    rotate_left;·simp only [Act.put,L_,M_,N_,i64_w,i32_w];rfl
    refine one_ (i:=11) (N:=some 16) #[T,T,T,T,T,T,T,T,T,T,T,T,F,T,T,F,F,F] rfl rfl (one_of HT_.1 (by kernel_rfl)) (by decide) (fun K hK=>?_)
    refine goes_ Tryd.func135 (by kernel_rfl) rfl #[.agg #[.int .i64 a0_0,.slice (some Ae) l0_1.length c0_1],.int .i64 a1] (by rfl) rfl rfl au_ ?_
    with_reducible refine (Abd.calls k a0_0 _ _ l0_1 a1 Ad _ ?side1 ?side2 A7.1).mono ?_
    (case side1=>exact cl_ (Kd.C_below HR0_1.1 HB.1))
    (case side2=>exact HC0_1.1)
    rintro e w12 ⟨rfl,hb⟩
    refine ⟨_,rfl,?_⟩
    replace Aa:=bz Aa hb;replace HB:=A_ (below_step bb_ hb);(try clear hb);(try clear hb2);(try clear hk);(try clear hi);refine hK.out _ _ ⟨blk_cell Aa.1 0,blk_cell Aa.1 1,((HB.1.cell (World.block_lt_of_cell? w _ Ac)).trans Ac)⟩ (fun hHeld=>?_)
    clear hK K;refine norm_ (a':=?_) ?_ ?_
    rotate_left
    ·show Act.put _ (some 16) _ = _
     simp only [Act.put,L_,M_,N_,i64_w,i32_w]
     rfl
    refine pu_ (i:=12) (N:=17) #[T,T,T,T,T,T,T,T,T,T,T,T,T,T,T,F,F,F] HT_.1 rfl rfl (fun _ _ _ h=>h) rfl (h:=?_)
    refine pu_ (i:=15) (N:=20) #[T,T,T,T,T,T,T,T,T,T,T,T,T,T,T,T,F,F] HT_.1 rfl rfl (fun _ _ _ h=>h) rfl (h:=?_)
    refine pu_ (i:=16) (N:=21) #[T,T,T,T,T,T,T,T,T,T,T,T,T,T,T,T,T,F] HT_.1 rfl rfl (fun _ _ _ h=>h) rfl (h:=?_)
    refine pu_ (i:=17) (N:=4) #[T,T,T,T,T,T,T,T,T,T,T,T,T,T,T,T,T,T] HT_.1 rfl rfl (fun _ _ _ h=>h) rfl (h:=?_)
    refine done_ (done_of HT_.1 (by kernel_rfl)) ?_
    try go_wp2
    go_ret
    exact ⟨by first|rfl|(simp [errW_none,errW_some] <;> rfl)|(simp only [← hji4,← hji9];first|rfl|(simp [errW_none,errW_some] <;> rfl))|(simp [*,errW_none,errW_some] <;> rfl),bb_⟩
   ·rw [if_neg c6] at H;exact absurd H (by simp)
  ·rw [if_neg c5] at H;exact absurd H (by simp)
 ·rw [if_neg c3] at H;exact absurd H (by simp)
def Aa3.f (k : Nat) (a0_0 : Int) (l0_1 : List Int) (a1 : Int) (a2 : Int) : Option (Bool) := (Aa9.f k a0_0 l0_1 a1).bind fun t822 => ((Aa8.f t822 a2).bind fun t823 => (some t823))
set_option maxHeartbeats 8000000 in
set_option maxRecDepth 100000 in
theorem Aa3.calls (k : Nat) (a0_0 : Int) (A0_1 : Option Addr) (c0_1 : Nat) (l0_1 : List Int) (a1 : Int) (a2 : Int) (r : Bool) (w : World) (hr0_1 : Kd.C (Kd.int .i64) w A0_1 l0_1.length l0_1) (hc0_1 : l0_1.length ≤ c0_1) (h : Aa3.f k a0_0 l0_1 a1 a2 = some r) :
 Calls Tryd.prog 151 #[.agg #[.int .i64 a0_0,.slice A0_1 l0_1.length c0_1],.int .i64 a1,.int .i64 a2] w fun e w'=>e = .returned (.bool r) ∧ Below w.heap.size w w':=by
 have hu26:=Tryd.underlying26;have HR0_1:=A_ hr0_1;have HC0_1:=A_ hc0_1;clear hr0_1 hc0_1;have HB:=A_ (Below.refl w.heap.size w);have H : ((Aa9.f k a0_0 l0_1 a1).bind fun Aa=>((Aa8.f Aa a2).bind fun Ac=>(some Ac))) = some r:=h;clear h;replace H:=Option.bind_eq_some_iff.mp H;obtain ⟨Aa,A40,H⟩:=H;(try dsimp only at H);have A4:=A_ A40;clear A40;replace H:=Option.bind_eq_some_iff.mp H;obtain ⟨Ac,A50,H⟩:=H;(try dsimp only at H);have A5:=A_ A50;clear A50;obtain rfl:=Option.some.inj H;go_enter Tryd.func151,Tryd.ntmps151
 go_wp2_with (first|((with_reducible refine gate_dst (N:=3) rfl ?_);refine box_event ?hg (N:=3) ?hd (cs:=#[.int .i64 a0_0,.slice A0_1 l0_1.length c0_1]) (t:=26) ?hr ?_;(case hd=>rfl);(case hg=>rfl);(case hr=>go_simp;try rfl);intro Ad hg w6 hbox hb;have Ab:=A_ (hbox);have Ae:=A_ (gw_ (w:=w) hg bb_);have Af:=A_ (gw_ (w:=w) hg bb_);replace HB:=A_ (below_step bb_ hb);clear hb hbox hg;obtain ⟨Z,Z,Z,Z⟩:=o2_ Ab.1)|((with_reducible refine gate_callee (f:=93) rfl ?_);refine goesL_ (some 9) rfl rfl Tryd.func93 (by kernel_rfl) rfl #[.agg #[.int .i64 a0_0,.slice A0_1 l0_1.length c0_1],.int .i64 a1] rfl au_ ?_;(with_reducible refine (Aa9.calls k a0_0 _ _ l0_1 a1 Aa _ ?side1 ?side2 A4.1).mono ?_);(case side1=>exact cl_ (Kd.C_below HR0_1.1 HB.1));(case side2=>exact HC0_1.1);rintro e w8 ⟨rfl,hb⟩;refine ⟨_,rfl,?_⟩;replace Ab:=bz Ab hb;replace HB:=A_ (below_step bb_ hb);(try clear hb);(try clear hb2);(try clear hk);(try clear hi))|((with_reducible refine gate_callee (f:=65) rfl ?_);refine goesL_ (some 11) rfl rfl Tryd.func65 (by kernel_rfl) rfl #[.int .i64 Aa,.int .i64 a2] rfl au_ ?_;(with_reducible refine (Aa8.calls Aa a2 Ac _ A5.1).mono ?_);rintro e w' ⟨rfl,⟨nd,rfl⟩⟩;refine ⟨_,rfl,?_⟩))
 go_ret
 exact ⟨by first|rfl|(simp [errW_none,errW_some] <;> rfl)|(simp [*,errW_none,errW_some] <;> rfl),bb_⟩
def Abk.f (k : Nat) (a0_0 : Int) (l0_1 : List Int) (a1 : Int) (a2 : Int) (a3 : Int) : Option (Int × Bool) := if 0 ≤ a2 then (if a2 < (l0_1.length : Int) then ((Aa8.f (rd l0_1 a2) a3).bind fun t826 => (if t826 = true then (some (a1, true)) else ((Aa3.f k a0_0 l0_1 a2 a3).bind fun t827 => (if t827 = true then (some (wrap64 (1 - a1), true)) else (some (0, false)))))) else (none)) else (none)
set_option maxHeartbeats 8000000 in
set_option maxRecDepth 100000 in
theorem Abk.calls (k : Nat) (a0_0 : Int) (A0_1 : Option Addr) (c0_1 : Nat) (l0_1 : List Int) (a1 : Int) (a2 : Int) (a3 : Int) (r1 : Int) (r2 : Bool) (w : World) (hr0_1 : Kd.C (Kd.int .i64) w A0_1 l0_1.length l0_1) (hc0_1 : l0_1.length ≤ c0_1) (h : Abk.f k a0_0 l0_1 a1 a2 a3 = some (r1,r2)) :
 Calls Tryd.prog 133 #[.agg #[.int .i64 a0_0,.slice A0_1 l0_1.length c0_1],.int .i64 a1,.int .i64 a2,.int .i64 a3] w fun e w'=>e = .returned (.tuple #[.int .i64 r1,.bool r2]) ∧ Below w.heap.size w w':=by
 have hu26:=Tryd.underlying26;have HR0_1:=A_ hr0_1;have HC0_1:=A_ hc0_1;clear hr0_1 hc0_1;have HB:=A_ (Below.refl w.heap.size w);have H : (if 0 ≤ a2 then (if a2 < (l0_1.length : Int) then ((Aa8.f (rd l0_1 a2) a3).bind fun Ah=>(if Ah = true then (some (a1,true)) else ((Aa3.f k a0_0 l0_1 a2 a3).bind fun Ae=>(if Ae = true then (some (wrap64 (1 - a1),true)) else (some (0,false)))))) else (none)) else (none)) = some (r1,r2):=h;clear h;by_cases c5 : 0 ≤ a2
 ·rw [if_pos c5] at H;have c5b0 : decide (0 ≤ a2) = true:=decide_eq_true c5;clear c5;by_cases c6 : a2 < (l0_1.length : Int)
  ·rw [if_pos c6] at H;have c6b0 : decide (a2 < (l0_1.length : Int)) = true:=decide_eq_true c6;clear c6;replace H:=Option.bind_eq_some_iff.mp H;obtain ⟨Ah,A70,H⟩:=H;replace H : (if Ah = true then (some (a1,true)) else ((Aa3.f k a0_0 l0_1 a2 a3).bind fun Ae=>(if Ae = true then (some (wrap64 (1 - a1),true)) else (some (0,false))))) = some (r1,r2):=H;have A7:=A_ A70;clear A70;by_cases c8 : Ah = true
   ·subst c8;have H1 : (some (a1,true)) = some (r1,r2):=by rw [if_pos rfl] at H;exact H
    clear H;have H:=H1;clear H1;simp only [Option.some.injEq,Prod.mk.injEq] at H
    obtain ⟨rfl,rfl⟩:=H;go_enter Tryd.func133,Tryd.ntmps133
    go_wp2_with (first|((with_reducible refine gate_dst (N:=4) rfl ?_);refine box_event ?hg (N:=4) ?hd (cs:=#[.int .i64 a0_0,.slice A0_1 l0_1.length c0_1]) (t:=26) ?hr ?_;(case hd=>rfl);(case hg=>rfl);(case hr=>go_simp;try rfl);intro Ai hg w9 hbox hb;have Ab:=A_ (hbox);have Aj:=A_ (gw_ (w:=w) hg bb_);have Ak:=A_ (gw_ (w:=w) hg bb_);replace HB:=A_ (below_step bb_ hb);clear hb hbox hg;obtain ⟨Z,Z,Z,Z⟩:=o2_ Ab.1;have Ac : 0 ≤ (a2 : Int):=of_decide_eq_true (by first|(with_reducible assumption)|assumption);have Ad : a2 < (l0_1.length : Int):=of_decide_eq_true (by first|(with_reducible assumption)|assumption);obtain ⟨Af,Ag,Aa⟩:=Kd.at_int HR0_1.1 a2 Ac Ad;cases Ag;(try replace Aa:=(HB.1.cell (World.block_lt_of_cell? w _ Aa)).trans Aa);replace Ac:=eq_true Ac;replace Ad:=eq_true Ad)|((with_reducible refine gate_callee (f:=65) rfl ?_);refine goesL_ (some 17) rfl rfl Tryd.func65 (by kernel_rfl) rfl #[.int .i64 (rd l0_1 a2),.int .i64 a3] rfl au_ ?_;(with_reducible refine (Aa8.calls (rd l0_1 a2) a3 true _ A7.1).mono ?_);rintro e w' ⟨rfl,⟨nd,rfl⟩⟩;refine ⟨_,rfl,?_⟩))
    go_ret2
    exact ⟨by first|rfl|(simp [errW_none,errW_some] <;> rfl)|(simp [*,errW_none,errW_some] <;> rfl),bb_⟩
   ·replace c8:=Bool.eq_false_iff.mpr c8;subst c8;have H1 : ((Aa3.f k a0_0 l0_1 a2 a3).bind fun Ae=>(if Ae = true then (some (wrap64 (1 - a1),true)) else (some (0,false)))) = some (r1,r2):=by rw [if_neg (show ¬ (false = true) by decide)] at H;exact H
    clear H;have H:=H1;clear H1;replace H:=Option.bind_eq_some_iff.mp H;obtain ⟨Ae,Al,H⟩:=H;replace H : (if Ae = true then (some (wrap64 (1 - a1),true)) else (some (0,false))) = some (r1,r2):=H;have A11:=A_ Al;clear Al;by_cases c12 : Ae = true
    ·subst c12;have H1 : (some (wrap64 (1 - a1),true)) = some (r1,r2):=by rw [if_pos rfl] at H;exact H
     clear H;have H:=H1;clear H1;simp only [Option.some.injEq,Prod.mk.injEq] at H
     obtain ⟨rfl,rfl⟩:=H;go_enter Tryd.func133,Tryd.ntmps133
     go_wp2_with (first|((with_reducible refine gate_dst (N:=4) rfl ?_);refine box_event ?hg (N:=4) ?hd (cs:=#[.int .i64 a0_0,.slice A0_1 l0_1.length c0_1]) (t:=26) ?hr ?_;(case hd=>rfl);(case hg=>rfl);(case hr=>go_simp;try rfl);intro Ai hg w13 hbox hb;have Ab:=A_ (hbox);have Aj:=A_ (gw_ (w:=w) hg bb_);have Ak:=A_ (gw_ (w:=w) hg bb_);replace HB:=A_ (below_step bb_ hb);clear hb hbox hg;obtain ⟨Z,Z,Z,Z⟩:=o2_ Ab.1;have Ac : 0 ≤ (a2 : Int):=of_decide_eq_true (by first|(with_reducible assumption)|assumption);have Ad : a2 < (l0_1.length : Int):=of_decide_eq_true (by first|(with_reducible assumption)|assumption);obtain ⟨Af,Ag,Aa⟩:=Kd.at_int HR0_1.1 a2 Ac Ad;cases Ag;(try replace Aa:=(HB.1.cell (World.block_lt_of_cell? w _ Aa)).trans Aa);replace Ac:=eq_true Ac;replace Ad:=eq_true Ad)|((with_reducible refine gate_callee (f:=65) rfl ?_);refine goesL_ (some 17) rfl rfl Tryd.func65 (by kernel_rfl) rfl #[.int .i64 (rd l0_1 a2),.int .i64 a3] rfl au_ ?_;(with_reducible refine (Aa8.calls (rd l0_1 a2) a3 false _ A7.1).mono ?_);rintro e w' ⟨rfl,⟨nd,rfl⟩⟩;refine ⟨_,rfl,?_⟩)|((with_reducible refine gate_callee (f:=151) rfl ?_);refine goesL_ (some 23) rfl rfl Tryd.func151 (by kernel_rfl) rfl #[.agg #[.int .i64 a0_0,.slice (some Af) l0_1.length c0_1],.int .i64 a2,.int .i64 a3] rfl au_ ?_;(with_reducible refine (Aa3.calls k a0_0 _ _ l0_1 a2 a3 true _ ?side1 ?side2 A11.1).mono ?_);(case side1=>exact cl_ (Kd.C_below HR0_1.1 bb_));(case side2=>exact HC0_1.1);rintro e w15 ⟨rfl,hb⟩;refine ⟨_,rfl,?_⟩;replace Ab:=bz Ab hb;replace HB:=A_ (below_step bb_ hb);(try clear hb);(try clear hb2);(try clear hk);(try clear hi)))
     go_ret2
     exact ⟨by first|rfl|(simp [errW_none,errW_some] <;> rfl)|(simp [*,errW_none,errW_some] <;> rfl),bb_⟩
    ·replace c12:=Bool.eq_false_iff.mpr c12;subst c12;have H1 : (some (0,false)) = some (r1,r2):=by rw [if_neg (show ¬ (false = true) by decide)] at H;exact H
     clear H;have H:=H1;clear H1;simp only [Option.some.injEq,Prod.mk.injEq] at H
     obtain ⟨rfl,rfl⟩:=H;go_enter Tryd.func133,Tryd.ntmps133
     go_wp2_with (first|((with_reducible refine gate_dst (N:=4) rfl ?_);refine box_event ?hg (N:=4) ?hd (cs:=#[.int .i64 a0_0,.slice A0_1 l0_1.length c0_1]) (t:=26) ?hr ?_;(case hd=>rfl);(case hg=>rfl);(case hr=>go_simp;try rfl);intro Ai hg w16 hbox hb;have Ab:=A_ (hbox);have Aj:=A_ (gw_ (w:=w) hg bb_);have Ak:=A_ (gw_ (w:=w) hg bb_);replace HB:=A_ (below_step bb_ hb);clear hb hbox hg;obtain ⟨Z,Z,Z,Z⟩:=o2_ Ab.1;have Ac : 0 ≤ (a2 : Int):=of_decide_eq_true (by first|(with_reducible assumption)|assumption);have Ad : a2 < (l0_1.length : Int):=of_decide_eq_true (by first|(with_reducible assumption)|assumption);obtain ⟨Af,Ag,Aa⟩:=Kd.at_int HR0_1.1 a2 Ac Ad;cases Ag;(try replace Aa:=(HB.1.cell (World.block_lt_of_cell? w _ Aa)).trans Aa);replace Ac:=eq_true Ac;replace Ad:=eq_true Ad)|((with_reducible refine gate_callee (f:=65) rfl ?_);refine goesL_ (some 17) rfl rfl Tryd.func65 (by kernel_rfl) rfl #[.int .i64 (rd l0_1 a2),.int .i64 a3] rfl au_ ?_;(with_reducible refine (Aa8.calls (rd l0_1 a2) a3 false _ A7.1).mono ?_);rintro e w' ⟨rfl,⟨nd,rfl⟩⟩;refine ⟨_,rfl,?_⟩)|((with_reducible refine gate_callee (f:=151) rfl ?_);refine goesL_ (some 23) rfl rfl Tryd.func151 (by kernel_rfl) rfl #[.agg #[.int .i64 a0_0,.slice (some Af) l0_1.length c0_1],.int .i64 a2,.int .i64 a3] rfl au_ ?_;(with_reducible refine (Aa3.calls k a0_0 _ _ l0_1 a2 a3 false _ ?side1 ?side2 A11.1).mono ?_);(case side1=>exact cl_ (Kd.C_below HR0_1.1 bb_));(case side2=>exact HC0_1.1);rintro e w18 ⟨rfl,hb⟩;refine ⟨_,rfl,?_⟩;replace Ab:=bz Ab hb;replace HB:=A_ (below_step bb_ hb);(try clear hb);(try clear hb2);(try clear hk);(try clear hi)))
     go_ret2
     exact ⟨by first|rfl|(simp [errW_none,errW_some] <;> rfl)|(simp [*,errW_none,errW_some] <;> rfl),bb_⟩
  ·rw [if_neg c6] at H;exact absurd H (by simp)
 ·rw [if_neg c5] at H;exact absurd H (by simp)
mutual
def Aao.l0 : Nat → Int → List Int → List Int → Int → Int → Int → List Int → Option (List Int × List Int × Int)
 | 0,_,_,_,_,_,_,_=>none
 | k + 1,x1,x7,x8,x9,x10,x829000,x829001=>if x10 ≤ x829000 then (Aao.l1 k x1 x7 x8 (-1) x10 (x7.length : Int) 0 x829000 x829001) else (some (x7,x8,x9))
def Aao.l1 : Nat → Int → List Int → List Int → Int → Int → Int → Int → Int → List Int → Option (List Int × List Int × Int)
 | 0,_,_,_,_,_,_,_,_,_=>none
 | k + 1,x1,x7,x8,x9,x10,x28,x29,x829000,x829001=>if x29 < x28 then (Aao.l2 k x1 x7 x8 x9 x10 x29 x28 x29 (x7.length : Int) 0 x829000 x829001) else (if x9 < 0 then (some (x7,x8,x9)) else (Aao.l0 k x1 x7 x8 x9 (wrap64 (x10 + 1)) x829000 x829001))
def Aao.l2 : Nat → Int → List Int → List Int → Int → Int → Int → Int → Int → Int → Int → Int → List Int → Option (List Int × List Int × Int)
 | 0,_,_,_,_,_,_,_,_,_,_,_,_=>none
 | k + 1,x1,x7,x8,x9,x10,x11,x28,x29,x33,x34,x829000,x829001=>if x34 < x33 then ((Abk.f k x829000 x829001 x1 x34 x11).bind fun bt835=>(if bt835.2 = true then (if 0 ≤ x11 then (if x11 < (x7.length : Int) then (if 0 ≤ x34 then (if x34 < (x7.length : Int) then (if (rd x7 x11) < (wrap64 ((rd x7 x34) + bt835.1)) then (if x11 < (x8.length : Int) then (Aao.l2 k x1 (x7.set (x11 : Int).toNat (wrap64 ((rd x7 x34) + bt835.1))) (x8.set (x11 : Int).toNat x34) x11 x10 x11 x28 x29 x33 (wrap64 (x34 + 1)) x829000 x829001) else (none)) else (Aao.l2 k x1 x7 x8 x9 x10 x11 x28 x29 x33 (wrap64 (x34 + 1)) x829000 x829001)) else (none)) else (none)) else (none)) else (none)) else (Aao.l2 k x1 x7 x8 x9 x10 x11 x28 x29 x33 (wrap64 (x34 + 1)) x829000 x829001))) else (Aao.l1 k x1 x7 x8 x9 x10 x28 (wrap64 (x29 + 1)) x829000 x829001)
end
def Aao.f (k : Nat) (a0_0 : Int) (l0_1 : List Int) (a1 : Int) : Option (List Int × List Int × Int) := if 0 ≤ a0_0 then (if (a0_0 : Int).toNat ≤ 35184372088832 then (Aao.l0 k a1 (List.replicate (a0_0 : Int).toNat 0) (List.replicate (a0_0 : Int).toNat 0) (-1) 0 a0_0 l0_1) else (none)) else (none)
set_option maxHeartbeats 8000000 in
set_option maxRecDepth 100000 in
theorem Aao.calls (k : Nat) (a0_0 : Int) (A0_1 : Option Addr) (c0_1 : Nat) (l0_1 : List Int) (a1 : Int) (r1 : List Int) (r2 : List Int) (r3 : Int) (w : World) (hr0_1 : Kd.C (Kd.int .i64) w A0_1 l0_1.length l0_1) (hc0_1 : l0_1.length ≤ c0_1) (h : Aao.f k a0_0 l0_1 a1 = some (r1,r2,r3)) :
 Calls Tryd.prog 89 #[.agg #[.int .i64 a0_0,.slice A0_1 l0_1.length c0_1],.int .i64 a1] w fun e w'=>∃ v0_ v1_ : Value,e = .returned (.tuple #[v0_,v1_,.int .i64 r3]) ∧ Kd.R (Kd.int .i64) 3 w' w.heap.size (fun k_=>some k_ ≠ (v1_ : Value).ownBlock) v0_ r1 ∧ Kd.R (Kd.int .i64) 3 w' w.heap.size (fun k_=>some k_ ≠ (v0_ : Value).ownBlock) v1_ r2 ∧ Below w.heap.size w w':=by
 have hu26:=Tryd.underlying26;have HR0_1:=A_ hr0_1;have HC0_1:=A_ hc0_1;clear hr0_1 hc0_1;have HB:=A_ (Below.refl w.heap.size w);have H : (if 0 ≤ a0_0 then (if (a0_0 : Int).toNat ≤ 35184372088832 then (Aao.l0 k a1 (List.replicate (a0_0 : Int).toNat 0) (List.replicate (a0_0 : Int).toNat 0) (-1) 0 a0_0 l0_1) else (none)) else (none)) = some (r1,r2,r3):=h;clear h;by_cases c3 : 0 ≤ a0_0
 ·rw [if_pos c3] at H;have c3b0:=eq_true c3;have c3b1 : decide (0 ≤ a0_0) = true:=decide_eq_true c3;clear c3;by_cases c4 : (a0_0 : Int).toNat ≤ 35184372088832
  ·rw [if_pos c4] at H;have c4b0:=eq_true c4;have c4b1 : decide ((a0_0 : Int).toNat ≤ 35184372088832) = true:=decide_eq_true c4;clear c4;obtain ⟨Bg,Au⟩ : ∃ y_ : List Int,y_ = (List.replicate (a0_0 : Int).toNat 0):=⟨_,rfl⟩;replace H : (Aao.l0 k a1 Bg (List.replicate (a0_0 : Int).toNat 0) (-1) 0 a0_0 l0_1) = some (r1,r2,r3):=by first|(rw [Au];with_reducible exact H)|(have H2_:=(Option.bind_some _ _).symm.trans H;rw [Au];with_reducible exact H2_)|(have H2_:=(Option.bind_some _ _).symm.trans H;with_reducible exact H2_)|with_reducible exact H|(rw [Au];exact H)|exact H
   have As:=A_ Au;clear Au;obtain ⟨Bj,Av⟩ : ∃ y_ : List Int,y_ = (List.replicate (a0_0 : Int).toNat 0):=⟨_,rfl⟩;replace H : (Aao.l0 k a1 Bg Bj (-1) 0 a0_0 l0_1) = some (r1,r2,r3):=by first|(rw [Av];with_reducible exact H)|(have H2_:=(Option.bind_some _ _).symm.trans H;rw [Av];with_reducible exact H2_)|(have H2_:=(Option.bind_some _ _).symm.trans H;with_reducible exact H2_)|with_reducible exact H|(rw [Av];exact H)|exact H
   have At:=A_ Av;clear Av;have H':=A_ H;clear H;go_enter Tryd.func89,Tryd.ntmps89
   go_wp2_with (first|((with_reducible refine gate_dst (N:=2) rfl ?_);refine box_event ?hg (N:=2) ?hd (cs:=#[.int .i64 a0_0,.slice A0_1 l0_1.length c0_1]) (t:=26) ?hr ?_;(case hd=>rfl);(case hg=>rfl);(case hr=>go_simp;try rfl);intro Ak hg w5 hbox hb;have Aa:=A_ (hbox);have Bh:=A_ (gw_ (w:=w) hg bb_);have Bi:=A_ (gw_ (w:=w) hg bb_);replace HB:=A_ (below_step bb_ hb);clear hb hbox hg;obtain ⟨Z,Z,Z,Z⟩:=o2_ Aa.1)|((with_reducible refine gate_dst (N:=17) rfl ?_);refine Kd.R_make (Kd.int .i64) _ 3 rfl (N:=17) rfl 24 _ _ rfl a0_0 rfl rfl Tryd.underlying24 (.int .i64 0) 8 info3 rfl (by decide) (by omega) 0 (ok:=fun _=>True) (okp:=fun _=>True) rfl (fun _ hk=>hk) trivial (of_decide_eq_true (by first|(with_reducible assumption)|assumption)) (Nat.le_trans (Nat.mul_le_mul_right _ (of_decide_eq_true (by first|(with_reducible assumption)|assumption) : a0_0.toNat ≤ 35184372088832)) (by omega)) (Below.refl _ _) (Nat.le_refl _) ?_;intro Bc w7 ho8 hb hg_ hnew_;clear hg_ hnew_;(first|rw [← As.1] at ho8|(simp only [Int.reduceToNat] at ho8;rw [← As.1] at ho8));have Ah:=A_ (Kd.R_lower ho8 (below_size bb_));replace Aa:=bz Aa hb;replace HB:=A_ (below_step bb_ hb);clear hb ho8;obtain ⟨Z,Z,Z,Z⟩:=o2_ Aa.1)|((with_reducible refine gate_dst (N:=20) rfl ?_);refine Kd.R_make (Kd.int .i64) _ 3 rfl (N:=20) rfl 24 _ _ rfl a0_0 rfl rfl Tryd.underlying24 (.int .i64 0) 8 info3 rfl (by decide) (by omega) 0 (ok:=fun _=>True) (okp:=fun _=>True) rfl (fun _ hk=>hk) trivial (of_decide_eq_true (by first|(with_reducible assumption)|assumption)) (Nat.le_trans (Nat.mul_le_mul_right _ (of_decide_eq_true (by first|(with_reducible assumption)|assumption) : a0_0.toNat ≤ 35184372088832)) (by omega)) (Below.refl _ _) (Nat.le_refl _) ?_;intro Am w10 ho11 hb hg_ hnew_;clear hg_ hnew_;(first|rw [← At.1] at ho11|(simp only [Int.reduceToNat] at ho11;rw [← At.1] at ho11));have Bd:=A_ (Kd.R_lower (Kd.R_new' ho11 (Kd.R_lt (rl_ Ah))) (below_size bb_));replace Ah:=A_ (Kd.R_elder' (rl_ Ah) (Kd.R_base ho11) hb);replace Aa:=bz Aa hb;replace HB:=A_ (below_step bb_ hb);clear hb ho11))
   repeat (go_quiet (first|((with_reducible refine gate_dst (N:=2) rfl ?_);refine box_event ?hg (N:=2) ?hd (cs:=#[.int .i64 a0_0,.slice A0_1 l0_1.length c0_1]) (t:=26) ?hr ?_;(case hd=>rfl);(case hg=>rfl);(case hr=>go_simp;try rfl);intro Ak hg w5 hbox hb;have Aa:=A_ (hbox);have Bh:=A_ (gw_ (w:=w) hg bb_);have Bi:=A_ (gw_ (w:=w) hg bb_);replace HB:=A_ (below_step bb_ hb);clear hb hbox hg;obtain ⟨Z,Z,Z,Z⟩:=o2_ Aa.1)|((with_reducible refine gate_dst (N:=17) rfl ?_);refine Kd.R_make (Kd.int .i64) _ 3 rfl (N:=17) rfl 24 _ _ rfl a0_0 rfl rfl Tryd.underlying24 (.int .i64 0) 8 info3 rfl (by decide) (by omega) 0 (ok:=fun _=>True) (okp:=fun _=>True) rfl (fun _ hk=>hk) trivial (of_decide_eq_true (by first|(with_reducible assumption)|assumption)) (Nat.le_trans (Nat.mul_le_mul_right _ (of_decide_eq_true (by first|(with_reducible assumption)|assumption) : a0_0.toNat ≤ 35184372088832)) (by omega)) (Below.refl _ _) (Nat.le_refl _) ?_;intro Bc w7 ho8 hb hg_ hnew_;clear hg_ hnew_;(first|rw [← As.1] at ho8|(simp only [Int.reduceToNat] at ho8;rw [← As.1] at ho8));have Ah:=A_ (Kd.R_lower ho8 (below_size bb_));replace Aa:=bz Aa hb;replace HB:=A_ (below_step bb_ hb);clear hb ho8;obtain ⟨Z,Z,Z,Z⟩:=o2_ Aa.1)|((with_reducible refine gate_dst (N:=20) rfl ?_);refine Kd.R_make (Kd.int .i64) _ 3 rfl (N:=20) rfl 24 _ _ rfl a0_0 rfl rfl Tryd.underlying24 (.int .i64 0) 8 info3 rfl (by decide) (by omega) 0 (ok:=fun _=>True) (okp:=fun _=>True) rfl (fun _ hk=>hk) trivial (of_decide_eq_true (by first|(with_reducible assumption)|assumption)) (Nat.le_trans (Nat.mul_le_mul_right _ (of_decide_eq_true (by first|(with_reducible assumption)|assumption) : a0_0.toNat ≤ 35184372088832)) (by omega)) (Below.refl _ _) (Nat.le_refl _) ?_;intro Am w10 ho11 hb hg_ hnew_;clear hg_ hnew_;(first|rw [← At.1] at ho11|(simp only [Int.reduceToNat] at ho11;rw [← At.1] at ho11));have Bd:=A_ (Kd.R_lower (Kd.R_new' ho11 (Kd.R_lt (rl_ Ah))) (below_size bb_));replace Ah:=A_ (Kd.R_elder' (rl_ Ah) (Kd.R_base ho11) hb);replace Aa:=bz Aa hb;replace HB:=A_ (below_step bb_ hb);clear hb ho11));try go_wp2_with (first|((with_reducible refine gate_dst (N:=2) rfl ?_);refine box_event ?hg (N:=2) ?hd (cs:=#[.int .i64 a0_0,.slice A0_1 l0_1.length c0_1]) (t:=26) ?hr ?_;(case hd=>rfl);(case hg=>rfl);(case hr=>go_simp;try rfl);intro Ak hg w5 hbox hb;have Aa:=A_ (hbox);have Bh:=A_ (gw_ (w:=w) hg bb_);have Bi:=A_ (gw_ (w:=w) hg bb_);replace HB:=A_ (below_step bb_ hb);clear hb hbox hg;obtain ⟨Z,Z,Z,Z⟩:=o2_ Aa.1)|((with_reducible refine gate_dst (N:=17) rfl ?_);refine Kd.R_make (Kd.int .i64) _ 3 rfl (N:=17) rfl 24 _ _ rfl a0_0 rfl rfl Tryd.underlying24 (.int .i64 0) 8 info3 rfl (by decide) (by omega) 0 (ok:=fun _=>True) (okp:=fun _=>True) rfl (fun _ hk=>hk) trivial (of_decide_eq_true (by first|(with_reducible assumption)|assumption)) (Nat.le_trans (Nat.mul_le_mul_right _ (of_decide_eq_true (by first|(with_reducible assumption)|assumption) : a0_0.toNat ≤ 35184372088832)) (by omega)) (Below.refl _ _) (Nat.le_refl _) ?_;intro Bc w7 ho8 hb hg_ hnew_;clear hg_ hnew_;(first|rw [← As.1] at ho8|(simp only [Int.reduceToNat] at ho8;rw [← As.1] at ho8));have Ah:=A_ (Kd.R_lower ho8 (below_size bb_));replace Aa:=bz Aa hb;replace HB:=A_ (below_step bb_ hb);clear hb ho8;obtain ⟨Z,Z,Z,Z⟩:=o2_ Aa.1)|((with_reducible refine gate_dst (N:=20) rfl ?_);refine Kd.R_make (Kd.int .i64) _ 3 rfl (N:=20) rfl 24 _ _ rfl a0_0 rfl rfl Tryd.underlying24 (.int .i64 0) 8 info3 rfl (by decide) (by omega) 0 (ok:=fun _=>True) (okp:=fun _=>True) rfl (fun _ hk=>hk) trivial (of_decide_eq_true (by first|(with_reducible assumption)|assumption)) (Nat.le_trans (Nat.mul_le_mul_right _ (of_decide_eq_true (by first|(with_reducible assumption)|assumption) : a0_0.toNat ≤ 35184372088832)) (by omega)) (Below.refl _ _) (Nat.le_refl _) ?_;intro Am w10 ho11 hb hg_ hnew_;clear hg_ hnew_;(first|rw [← At.1] at ho11|(simp only [Int.reduceToNat] at ho11;rw [← At.1] at ho11));have Bd:=A_ (Kd.R_lower (Kd.R_new' ho11 (Kd.R_lt (rl_ Ah))) (below_size bb_));replace Ah:=A_ (Kd.R_elder' (rl_ Ah) (Kd.R_base ho11) hb);replace Aa:=bz Aa hb;replace HB:=A_ (below_step bb_ hb);clear hb ho11)))
   go_loopg [9,10] k (fun kq v9 v10 w'=>∃ (x7_1 : List Int) (x8_1 : List Int) (x9_1 : Int) (x10_1 : Int),v9 = .int .i64 x9_1 ∧ v10 = .int .i64 x10_1 ∧ Aside0 (Aao.l0 kq a1 x7_1 x8_1 x9_1 x10_1 a0_0 l0_1 = some (r1,r2,r3)) ∧ Aside0 (kq ≤ k) ∧ Aside0 (Kd.R (Kd.int .i64) 3 w' w.heap.size (fun k_=>some k_ ≠ (Am : Value).ownBlock) Bc x7_1) ∧ Aside0 (Kd.R (Kd.int .i64) 3 w' w.heap.size (fun k_=>some k_ ≠ (Bc : Value).ownBlock) Am x8_1) ∧ Aside0 (w'.heap[Ak]? = some (.cells #[.int .i64 a0_0,(.slice A0_1 l0_1.length c0_1)] 26 (0,0))) ∧ Aside0 (Below w.heap.size w w'))
   case atStart=>exact ⟨(Bg),(Bj),((-1)),(0),(by first|rfl|(simp;done)|(simp [*];done)),(by first|rfl|(simp;done)|(simp [*];done)),H',⟨Nat.le_refl _⟩,⟨rq_ (Kd.R_mono Ah.1 (fun _ hk=>hk.2))⟩,⟨rq_ (Kd.R_mono Bd.1 (fun _ hk=>hk.2))⟩,⟨bl_ Aa⟩,⟨bb_⟩⟩
   case round =>
    clear H';try clear p2
    try clear c3
    try clear c3b0
    try clear c3b1
    try clear c4
    try clear c4b0
    try clear c4b1
    try clear c8
    repeat clear Z
    obtain ⟨x7_1,x8_1,x9_1,x10_1,rfl,rfl,HA,HK1,HO_7,HO_8,Aa,HB⟩:=hrel;cases gk with
    | zero=>exact absurd HA.1 (by simp [Aao.l0])
    | succ k1 =>
     have H:=HA.1;clear HA;simp only [Aao.l0] at H
     by_cases c12 : x10_1 ≤ a0_0
     ·rw [if_pos c12] at H;have c12b0 : decide (x10_1 ≤ a0_0) = true:=decide_eq_true c12;clear c12;have H':=A_ H;clear H;obtain ⟨Z,Z,Z,Z⟩:=o2_ Aa.1;obtain ⟨Ao14,co14,eo14⟩:=Kd.R_slice HO_7.1;subst eo14;go_wp2
      repeat (go_quiet (fail);try go_wp2)
      go_loopg [9,29] k1 (fun kq v9 v29 w'=>∃ (x7_2 : List Int) (x8_2 : List Int) (x9_2 : Int) (x29_2 : Int),v9 = .int .i64 x9_2 ∧ v29 = .int .i64 x29_2 ∧ Aside0 (Aao.l1 kq a1 x7_2 x8_2 x9_2 x10_1 (x7_1.length : Int) x29_2 a0_0 l0_1 = some (r1,r2,r3)) ∧ Aside0 (kq ≤ k1) ∧ Aside0 (Kd.R (Kd.int .i64) 3 w' w.heap.size (fun k_=>some k_ ≠ (Am : Value).ownBlock) (.slice Ao14 x7_1.length co14) x7_2) ∧ Aside0 (Kd.R (Kd.int .i64) 3 w' w.heap.size (fun k_=>some k_ ≠ ((.slice Ao14 x7_1.length co14) : Value).ownBlock) Am x8_2) ∧ Aside0 (w'.heap[Ak]? = some (.cells #[.int .i64 a0_0,(.slice A0_1 l0_1.length c0_1)] 26 (0,0))) ∧ Aside0 (Below w.heap.size w w'))
      case atStart=>exact ⟨(x7_1),(x8_1),((-1)),(0),(by first|rfl|(simp;done)|(simp [*];done)),(by first|rfl|(simp;done)|(simp [*];done)),H',⟨Nat.le_refl _⟩,⟨rl_ HO_7⟩,⟨rl_ HO_8⟩,⟨bl_ Aa⟩,⟨bb_⟩⟩
      case round =>
       clear H';try clear c1
       try clear p2
       try clear c3
       try clear c3b0
       try clear c3b1
       try clear c4
       try clear c4b0
       try clear c4b1
       try clear c8
       try clear c12
       try clear c12b0
       repeat clear Z
       try clear p2
       obtain ⟨x7_2,x8_2,x9_2,x29_2,rfl,rfl,HA,HK2,HO_7,HO_8,Aa,HB⟩:=hrel;have hl7_2:=(Kd.R_reads' HO_7.1).1;rw [hl7_2] at HO_7;(try simp only [hl7_2]);(try simp only [hl7_2] at Aa);(try simp only [hl7_2] at HO_8);cases gk with
       | zero=>exact absurd HA.1 (by simp [Aao.l1])
       | succ k2 =>
        have H:=HA.1;clear HA;simp only [Aao.l1] at H
        by_cases c15 : x29_2 < (x7_1.length : Int)
        ·rw [if_pos c15] at H;have c15b0 : decide (x29_2 < (x7_1.length : Int)) = true:=decide_eq_true c15;(try (have c15b8:=c15b0;simp only [hl7_2] at c15b8));clear c15;have H':=A_ H;clear H;go_wp2
         repeat (go_quiet (fail);try go_wp2)
         go_loopg [9,34] k2 (fun kq v9 v34 w'=>∃ (x7_3 : List Int) (x8_3 : List Int) (x9_3 : Int) (x34_3 : Int),v9 = .int .i64 x9_3 ∧ v34 = .int .i64 x34_3 ∧ Aside0 (Aao.l2 kq a1 x7_3 x8_3 x9_3 x10_1 x29_2 (x7_1.length : Int) x29_2 (x7_2.length : Int) x34_3 a0_0 l0_1 = some (r1,r2,r3)) ∧ Aside0 (kq ≤ k2) ∧ Aside0 (Kd.R (Kd.int .i64) 3 w' w.heap.size (fun k_=>some k_ ≠ (Am : Value).ownBlock) (.slice Ao14 x7_2.length co14) x7_3) ∧ Aside0 (Kd.R (Kd.int .i64) 3 w' w.heap.size (fun k_=>some k_ ≠ ((.slice Ao14 x7_2.length co14) : Value).ownBlock) Am x8_3) ∧ Aside0 (w'.heap[Ak]? = some (.cells #[.int .i64 a0_0,(.slice A0_1 l0_1.length c0_1)] 26 (0,0))) ∧ Aside0 (Below w.heap.size w w'))
         case atStart=>exact ⟨(x7_2),(x8_2),(x9_2),(0),(by first|rfl|(simp;done)|(simp [*];done)),(by first|rfl|(simp;done)|(simp [*];done)),H',⟨Nat.le_refl _⟩,⟨by (try simp only [hl7_2]);(with_reducible repeat (first|apply Kd.R_alloc|apply Kd.R_drewN|apply Kd.R_drew));exact HO_7.1⟩,⟨by (try simp only [hl7_2]);(with_reducible repeat (first|apply Kd.R_alloc|apply Kd.R_drewN|apply Kd.R_drew));exact HO_8.1⟩,⟨by (try simp only [hl7_2]);(with_reducible repeat (first|refine blk_drewN ?_ _|refine blk_drew ?_|refine blk_alloc ?_ _));exact Aa.1⟩,⟨bb_⟩⟩
         case round =>
          clear H';try clear c1
          try clear p2
          try clear c3
          try clear c3b0
          try clear c3b1
          try clear c4
          try clear c4b0
          try clear c4b1
          try clear c8
          try clear c12
          try clear c12b0
          try clear c15
          try clear c15b0
          repeat clear Z
          try clear p2
          obtain ⟨x7_3,x8_3,x9_3,x34_3,rfl,rfl,HA,HK3,HO_7,HO_8,Aa,HB⟩:=hrel;have hl7_3:=(Kd.R_reads' HO_7.1).1;rw [hl7_3] at HO_7;(try simp only [hl7_3]);(try simp only [hl7_3] at Aa);(try simp only [hl7_3] at HO_8);cases gk with
          | zero=>exact absurd HA.1 (by simp [Aao.l2])
          | succ k3 =>
           have H:=HA.1;clear HA;simp only [Aao.l2] at H
           by_cases c16 : x34_3 < (x7_2.length : Int)
           ·rw [if_pos c16] at H;have c16b0 : decide (x34_3 < (x7_2.length : Int)) = true:=decide_eq_true c16;(try (have c16b8:=c16b0;simp only [hl7_2,hl7_3] at c16b8));clear c16;replace H:=Option.bind_eq_some_iff.mp H;obtain ⟨⟨Ab,Bk⟩,Bl,H⟩:=H;replace H : (if Bk = true then (if 0 ≤ x29_2 then (if x29_2 < (x7_3.length : Int) then (if 0 ≤ x34_3 then (if x34_3 < (x7_3.length : Int) then (if (rd x7_3 x29_2) < (wrap64 ((rd x7_3 x34_3) + Ab)) then (if x29_2 < (x8_3.length : Int) then (Aao.l2 k3 a1 (x7_3.set (x29_2 : Int).toNat (wrap64 ((rd x7_3 x34_3) + Ab))) (x8_3.set (x29_2 : Int).toNat x34_3) x29_2 x10_1 x29_2 (x7_1.length : Int) x29_2 (x7_2.length : Int) (wrap64 (x34_3 + 1)) a0_0 l0_1) else (none)) else (Aao.l2 k3 a1 x7_3 x8_3 x9_3 x10_1 x29_2 (x7_1.length : Int) x29_2 (x7_2.length : Int) (wrap64 (x34_3 + 1)) a0_0 l0_1)) else (none)) else (none)) else (none)) else (none)) else (Aao.l2 k3 a1 x7_3 x8_3 x9_3 x10_1 x29_2 (x7_1.length : Int) x29_2 (x7_2.length : Int) (wrap64 (x34_3 + 1)) a0_0 l0_1)) = some (r1,r2,r3):=H;have A17:=A_ Bl;clear Bl;by_cases c18 : Bk = true
            ·subst c18;have H1 : (if 0 ≤ x29_2 then (if x29_2 < (x7_3.length : Int) then (if 0 ≤ x34_3 then (if x34_3 < (x7_3.length : Int) then (if (rd x7_3 x29_2) < (wrap64 ((rd x7_3 x34_3) + Ab)) then (if x29_2 < (x8_3.length : Int) then (Aao.l2 k3 a1 (x7_3.set (x29_2 : Int).toNat (wrap64 ((rd x7_3 x34_3) + Ab))) (x8_3.set (x29_2 : Int).toNat x34_3) x29_2 x10_1 x29_2 (x7_1.length : Int) x29_2 (x7_2.length : Int) (wrap64 (x34_3 + 1)) a0_0 l0_1) else (none)) else (Aao.l2 k3 a1 x7_3 x8_3 x9_3 x10_1 x29_2 (x7_1.length : Int) x29_2 (x7_2.length : Int) (wrap64 (x34_3 + 1)) a0_0 l0_1)) else (none)) else (none)) else (none)) else (none)) = some (r1,r2,r3):=by rw [if_pos rfl] at H;exact H
             clear H;have H:=H1;clear H1;by_cases c19 : 0 ≤ x29_2
             ·rw [if_pos c19] at H;have c19b0 : decide (0 ≤ x29_2) = true:=decide_eq_true c19;clear c19;by_cases c20 : x29_2 < (x7_3.length : Int)
              ·rw [if_pos c20] at H;have c20b0 : decide (x29_2 < (x7_3.length : Int)) = true:=decide_eq_true c20;(try (have c20b8:=c20b0;simp only [hl7_2,hl7_3] at c20b8));clear c20;by_cases c21 : 0 ≤ x34_3
               ·rw [if_pos c21] at H;have c21b0 : decide (0 ≤ x34_3) = true:=decide_eq_true c21;clear c21;by_cases c22 : x34_3 < (x7_3.length : Int)
                ·rw [if_pos c22] at H;have c22b0 : decide (x34_3 < (x7_3.length : Int)) = true:=decide_eq_true c22;(try (have c22b8:=c22b0;simp only [hl7_2,hl7_3] at c22b8));clear c22;by_cases c23 : (rd x7_3 x29_2) < (wrap64 ((rd x7_3 x34_3) + Ab))
                 ·rw [if_pos c23] at H;have c23b0 : decide ((rd x7_3 x29_2) < (wrap64 ((rd x7_3 x34_3) + Ab))) = true:=decide_eq_true c23;clear c23;obtain ⟨Az,Aw⟩ : ∃ y_ : List Int,y_ = (x7_3.set (x29_2 : Int).toNat (wrap64 ((rd x7_3 x34_3) + Ab))):=⟨_,rfl⟩;replace H : (if x29_2 < (x8_3.length : Int) then (Aao.l2 k3 a1 Az (x8_3.set (x29_2 : Int).toNat x34_3) x29_2 x10_1 x29_2 (x7_1.length : Int) x29_2 (x7_2.length : Int) (wrap64 (x34_3 + 1)) a0_0 l0_1) else (none)) = some (r1,r2,r3):=by first|(rw [Aw];with_reducible exact H)|(have H2_:=(Option.bind_some _ _).symm.trans H;rw [Aw];with_reducible exact H2_)|(have H2_:=(Option.bind_some _ _).symm.trans H;with_reducible exact H2_)|with_reducible exact H|(rw [Aw];exact H)|exact H
                  have Be:=A_ Aw;clear Aw;by_cases c25 : x29_2 < (x8_3.length : Int)
                  ·rw [if_pos c25] at H;have c25b0 : decide (x29_2 < (x8_3.length : Int)) = true:=decide_eq_true c25;(try (have c25b8:=c25b0;simp only [hl7_2,hl7_3] at c25b8));clear c25;obtain ⟨Ba,Ax⟩ : ∃ y_ : List Int,y_ = (x8_3.set (x29_2 : Int).toNat x34_3):=⟨_,rfl⟩;replace H : (Aao.l2 k3 a1 Az Ba x29_2 x10_1 x29_2 (x7_1.length : Int) x29_2 (x7_2.length : Int) (wrap64 (x34_3 + 1)) a0_0 l0_1) = some (r1,r2,r3):=by first|(rw [Ax];with_reducible exact H)|(have H2_:=(Option.bind_some _ _).symm.trans H;rw [Ax];with_reducible exact H2_)|(have H2_:=(Option.bind_some _ _).symm.trans H;with_reducible exact H2_)|with_reducible exact H|(rw [Ax];exact H)|exact H
                   have Bf:=A_ Ax;clear Ax;have H':=A_ H;clear H;obtain ⟨Z,Z,Z,Z⟩:=o2_ Aa.1;go_wp2_with (first|(go_at_call 133;(with_reducible refine (Abk.calls k3 a0_0 _ _ l0_1 a1 x34_3 x29_2 Ab true _ ?side1 ?side2 A17.1).mono ?_);(case side1=>exact cl_ (Kd.C_below HR0_1.1 HB.1));(case side2=>exact HC0_1.1);rintro e w28 ⟨rfl,hb⟩;replace HO_7:=rb_ HO_7 hb;replace HO_8:=rb_ HO_8 hb;replace Aa:=bz Aa hb;replace HB:=A_ (below_step bb_ hb);(try clear hb);(try clear hb2);(try clear hk);(try clear hi);have Ac : 0 ≤ (x29_2 : Int):=of_decide_eq_true (by first|(with_reducible assumption)|assumption);have Ad : x29_2 < (x7_3.length : Int):=of_decide_eq_true (by first|(with_reducible assumption)|assumption);obtain ⟨Ag,An,Ai⟩:=Kd.at_int (Kd.R_reads' HO_7.1).2.2 x29_2 Ac Ad;cases An;replace Ac:=eq_true Ac;replace Ad:=eq_true Ad;have Ae : 0 ≤ (x34_3 : Int):=of_decide_eq_true (by first|(with_reducible assumption)|assumption);have Af : x34_3 < (x7_3.length : Int):=of_decide_eq_true (by first|(with_reducible assumption)|assumption);obtain ⟨Al,Ao,Aj⟩:=Kd.at_int (Kd.R_reads' HO_7.1).2.2 x34_3 Ae Af;obtain rfl : Ag = Al:=(by injection Ao);replace Ae:=eq_true Ae;replace Af:=eq_true Af;have Ap : 0 ≤ (x34_3 : Int):=of_decide_eq_true (by first|(with_reducible assumption)|assumption);have Aq : x34_3 < (x7_3.length : Int):=of_decide_eq_true (by first|(with_reducible assumption)|assumption);obtain ⟨Ay,Bb,Ar⟩:=Kd.at_int (Kd.R_reads' HO_7.1).2.2 x34_3 Ap Aq;obtain rfl : Ag = Ay:=(by injection Bb);replace Ap:=eq_true Ap;replace Aq:=eq_true Aq;have p24 : 0 ≤ (x29_2 : Int):=of_decide_eq_true (by first|(with_reducible assumption)|assumption);have q24 : (x29_2 : Int) < ((x7_3.length : Int) : Int):=of_decide_eq_true (by first|(with_reducible assumption)|assumption);obtain ⟨go24,co24,eo24,gb24,gl24,cl24,HG24⟩:=Kd.R_form HO_7.1 (by omega);(first|cases eo24|(injection eo24 with ea_ en_ ec_;(first|subst ea_|(injection ea_ with ea_;subst ea_));subst ec_;clear en_));have GB24:=A_ gb24;have GG24:=A_ HG24;clear gb24 gl24 HG24;(first|simp only [add_plain] at Ai|skip);(first|simp only [add_plain] at Aj|skip);(first|simp only [add_plain] at Ar|skip);obtain ⟨hx24_0,hf24_0⟩:=Kd.R_celln 0 HO_7.1 (x29_2 : Int) p24 q24;replace p24:=eq_true p24;replace q24:=eq_true q24;obtain ⟨hy29_,hz29_⟩:=Kd.R_celln 0 HO_7.1 (x29_2 : Int) (of_decide_eq_true (by first|(with_reducible assumption)|assumption)) (of_decide_eq_true (by first|(with_reducible assumption)|assumption));have HP29:=Kd.R_putg HO_7.1 (x29_2 : Int) (wrap64 ((rd x7_3 x34_3) + Ab)))|((with_reducible refine gate_store (t:=3) (p:=67) rfl ?_);(try (rw [drewN_self w28];generalize hq_ : World.drewN w28 _ = w28;have n0_:=A_ (Kd.R_at hq_ HO_7.1);have n1_:=A_ (Kd.R_at hq_ HO_8.1);have n2_:=A_ (blk_at hq_ Aa.1);have n3_:=A_ (below_at hq_ HB.1);clear hq_ HO_7 HO_8 Aa HB;have HO_7:=n0_;have HO_8:=n1_;have Aa:=n2_;have HB:=n3_;clear n0_ n1_ n2_ n3_;(try (obtain ⟨hy29_,hz29_⟩:=Kd.R_celln 0 HO_7.1 (x29_2 : Int) (of_decide_eq_true (by first|(with_reducible assumption)|assumption)) (of_decide_eq_true (by first|(with_reducible assumption)|assumption))));(try (have HP29:=Kd.R_putg HO_7.1 (x29_2 : Int) (wrap64 ((rd x7_3 x34_3) + Ab))))));refine store_event (t:=3) (p:=67) (v:=?vo_w30) (w1:=(w28.setCell ⟨go24,(x29_2 : Int).toNat,none⟩ (.int .i64 (wrap64 ((rd x7_3 x34_3) + Ab))))) ?hg ?ho ?hn ?hr ?_;(case ho=>rfl);(case hg=>rfl);(case hn=>rfl);(case hr=>go_simp;try rfl);intro w30 hw;have hg : w28.grownBy w30 (some go24):=(by rw [hw];exact HP29.2);have hp_ : Kd.R (Kd.int .i64) 3 w30 w.heap.size (fun k_=>some k_ ≠ (Am : Value).ownBlock) (.slice (some ⟨go24,0,none⟩) x7_3.length co14) Az:=(by rw [hw,Be.1];exact HP29.1);clear HP29;replace HO_8:=A_ (Kd.R_after (v:=(.slice (some ⟨go24,0,none⟩) x7_3.length co14)) (v1:=(.slice (some ⟨go24,0,none⟩) x7_3.length co14)) (ok:=(fun _=>True)) (rq_ (Kd.R_mono HO_8.1 (fun _ hk=>⟨trivial,hk⟩))) hg (.inl rfl));replace Aa:=A_ (blk_grown (g:=Ak) (o:=.cells #[.int .i64 a0_0,.slice A0_1 l0_1.length c0_1] 26 (0,0)) (bl_ Aa) hg (Kd.R_ne HO_7.1 Aa.1 (by decide)));replace HO_7:=A_ (hp_);replace HB:=A_ ((by rw [hw];exact below_set (HB.1) GB24.1 : Below w.heap.size w w30));clear hg hw hp_;have p26 : 0 ≤ (x29_2 : Int):=of_decide_eq_true (by first|(with_reducible assumption)|assumption);have q26 : (x29_2 : Int) < ((x8_3.length : Int) : Int):=of_decide_eq_true (by first|(with_reducible assumption)|assumption);obtain ⟨go26,co26,eo26,gb26,gl26,cl26,HG26⟩:=Kd.R_form HO_8.1 (by omega);(first|cases eo26|(injection eo26 with ea_ en_ ec_;(first|subst ea_|(injection ea_ with ea_;subst ea_));subst ec_;clear en_));have GB26:=A_ gb26;have GG26:=A_ HG26;clear gb26 gl26 HG26;obtain ⟨hx26_0,hf26_0⟩:=Kd.R_celln 0 HO_8.1 (x29_2 : Int) p26 q26;replace p26:=eq_true p26;replace q26:=eq_true q26;have n_:=A_ (Kd.R_mono (ok':=(fun k_=>some k_ ≠ (.slice (some ⟨go24,0,none⟩) x7_3.length co14 : Value).ownBlock)) HO_8.1 (fun k_ hk=>hk.2));clear HO_8;have HO_8:=n_;clear n_;obtain ⟨hy31_,hz31_⟩:=Kd.R_celln 0 HO_8.1 (x29_2 : Int) (of_decide_eq_true (by first|(with_reducible assumption)|assumption)) (of_decide_eq_true (by first|(with_reducible assumption)|assumption));have HP31:=Kd.R_putg HO_8.1 (x29_2 : Int) x34_3)|((with_reducible refine gate_store (t:=3) (p:=71) rfl ?_);(try (rw [drewN_self w30];generalize hq_ : World.drewN w30 _ = w30;have n0_:=A_ (Kd.R_at hq_ HO_7.1);have n1_:=A_ (Kd.R_at hq_ HO_8.1);have n2_:=A_ (blk_at hq_ Aa.1);have n3_:=A_ (below_at hq_ HB.1);clear hq_ HO_7 HO_8 Aa HB;have HO_7:=n0_;have HO_8:=n1_;have Aa:=n2_;have HB:=n3_;clear n0_ n1_ n2_ n3_;(try (have n_:=A_ (Kd.R_mono (ok':=(fun k_=>some k_ ≠ (.slice (some ⟨go24,0,none⟩) x7_3.length co14 : Value).ownBlock)) HO_8.1 (fun k_ hk=>hk.2));clear HO_8;have HO_8:=n_;clear n_));(try (obtain ⟨hy31_,hz31_⟩:=Kd.R_celln 0 HO_8.1 (x29_2 : Int) (of_decide_eq_true (by first|(with_reducible assumption)|assumption)) (of_decide_eq_true (by first|(with_reducible assumption)|assumption))));(try (have HP31:=Kd.R_putg HO_8.1 (x29_2 : Int) x34_3))));refine store_event (t:=3) (p:=71) (v:=?vo_w32) (w1:=(w30.setCell ⟨go26,(x29_2 : Int).toNat,none⟩ (.int .i64 x34_3))) ?hg ?ho ?hn ?hr ?_;(case ho=>rfl);(case hg=>rfl);(case hn=>rfl);(case hr=>go_simp;try rfl);intro w32 hw;have hg : w30.grownBy w32 (some go26):=(by rw [hw];exact HP31.2);have hp_ : Kd.R (Kd.int .i64) 3 w32 w.heap.size (fun k_=>some k_ ≠ (.slice (some ⟨go24,0,none⟩) x7_3.length co14 : Value).ownBlock) (.slice (some ⟨go26,0,none⟩) x8_3.length co26) Ba:=(by rw [hw,Bf.1];exact HP31.1);clear HP31;replace HO_7:=A_ (Kd.R_after (v:=(.slice (some ⟨go26,0,none⟩) x8_3.length co26)) (v1:=(.slice (some ⟨go26,0,none⟩) x8_3.length co26)) (ok:=(fun _=>True)) (rq_ (Kd.R_mono HO_7.1 (fun _ hk=>⟨trivial,hk⟩))) hg (.inl rfl));replace Aa:=A_ (blk_grown (g:=Ak) (o:=.cells #[.int .i64 a0_0,.slice A0_1 l0_1.length c0_1] 26 (0,0)) (bl_ Aa) hg (Kd.R_ne HO_8.1 Aa.1 (by decide)));replace HO_8:=A_ (hp_);replace HB:=A_ ((by rw [hw];exact below_set (HB.1) GB26.1 : Below w.heap.size w w32));clear hg hw hp_))
                   repeat (go_quiet (first|(go_at_call 133;(with_reducible refine (Abk.calls k3 a0_0 _ _ l0_1 a1 x34_3 x29_2 Ab true _ ?side1 ?side2 A17.1).mono ?_);(case side1=>exact cl_ (Kd.C_below HR0_1.1 HB.1));(case side2=>exact HC0_1.1);rintro e w28 ⟨rfl,hb⟩;replace HO_7:=rb_ HO_7 hb;replace HO_8:=rb_ HO_8 hb;replace Aa:=bz Aa hb;replace HB:=A_ (below_step bb_ hb);(try clear hb);(try clear hb2);(try clear hk);(try clear hi);have Ac : 0 ≤ (x29_2 : Int):=of_decide_eq_true (by first|(with_reducible assumption)|assumption);have Ad : x29_2 < (x7_3.length : Int):=of_decide_eq_true (by first|(with_reducible assumption)|assumption);obtain ⟨Ag,An,Ai⟩:=Kd.at_int (Kd.R_reads' HO_7.1).2.2 x29_2 Ac Ad;cases An;replace Ac:=eq_true Ac;replace Ad:=eq_true Ad;have Ae : 0 ≤ (x34_3 : Int):=of_decide_eq_true (by first|(with_reducible assumption)|assumption);have Af : x34_3 < (x7_3.length : Int):=of_decide_eq_true (by first|(with_reducible assumption)|assumption);obtain ⟨Al,Ao,Aj⟩:=Kd.at_int (Kd.R_reads' HO_7.1).2.2 x34_3 Ae Af;obtain rfl : Ag = Al:=(by injection Ao);replace Ae:=eq_true Ae;replace Af:=eq_true Af;have Ap : 0 ≤ (x34_3 : Int):=of_decide_eq_true (by first|(with_reducible assumption)|assumption);have Aq : x34_3 < (x7_3.length : Int):=of_decide_eq_true (by first|(with_reducible assumption)|assumption);obtain ⟨Ay,Bb,Ar⟩:=Kd.at_int (Kd.R_reads' HO_7.1).2.2 x34_3 Ap Aq;obtain rfl : Ag = Ay:=(by injection Bb);replace Ap:=eq_true Ap;replace Aq:=eq_true Aq;have p24 : 0 ≤ (x29_2 : Int):=of_decide_eq_true (by first|(with_reducible assumption)|assumption);have q24 : (x29_2 : Int) < ((x7_3.length : Int) : Int):=of_decide_eq_true (by first|(with_reducible assumption)|assumption);obtain ⟨go24,co24,eo24,gb24,gl24,cl24,HG24⟩:=Kd.R_form HO_7.1 (by omega);(first|cases eo24|(injection eo24 with ea_ en_ ec_;(first|subst ea_|(injection ea_ with ea_;subst ea_));subst ec_;clear en_));have GB24:=A_ gb24;have GG24:=A_ HG24;clear gb24 gl24 HG24;(first|simp only [add_plain] at Ai|skip);(first|simp only [add_plain] at Aj|skip);(first|simp only [add_plain] at Ar|skip);obtain ⟨hx24_0,hf24_0⟩:=Kd.R_celln 0 HO_7.1 (x29_2 : Int) p24 q24;replace p24:=eq_true p24;replace q24:=eq_true q24;obtain ⟨hy29_,hz29_⟩:=Kd.R_celln 0 HO_7.1 (x29_2 : Int) (of_decide_eq_true (by first|(with_reducible assumption)|assumption)) (of_decide_eq_true (by first|(with_reducible assumption)|assumption));have HP29:=Kd.R_putg HO_7.1 (x29_2 : Int) (wrap64 ((rd x7_3 x34_3) + Ab)))|((with_reducible refine gate_store (t:=3) (p:=67) rfl ?_);(try (rw [drewN_self w28];generalize hq_ : World.drewN w28 _ = w28;have n0_:=A_ (Kd.R_at hq_ HO_7.1);have n1_:=A_ (Kd.R_at hq_ HO_8.1);have n2_:=A_ (blk_at hq_ Aa.1);have n3_:=A_ (below_at hq_ HB.1);clear hq_ HO_7 HO_8 Aa HB;have HO_7:=n0_;have HO_8:=n1_;have Aa:=n2_;have HB:=n3_;clear n0_ n1_ n2_ n3_;(try (obtain ⟨hy29_,hz29_⟩:=Kd.R_celln 0 HO_7.1 (x29_2 : Int) (of_decide_eq_true (by first|(with_reducible assumption)|assumption)) (of_decide_eq_true (by first|(with_reducible assumption)|assumption))));(try (have HP29:=Kd.R_putg HO_7.1 (x29_2 : Int) (wrap64 ((rd x7_3 x34_3) + Ab))))));refine store_event (t:=3) (p:=67) (v:=?vo_w30) (w1:=(w28.setCell ⟨go24,(x29_2 : Int).toNat,none⟩ (.int .i64 (wrap64 ((rd x7_3 x34_3) + Ab))))) ?hg ?ho ?hn ?hr ?_;(case ho=>rfl);(case hg=>rfl);(case hn=>rfl);(case hr=>go_simp;try rfl);intro w30 hw;have hg : w28.grownBy w30 (some go24):=(by rw [hw];exact HP29.2);have hp_ : Kd.R (Kd.int .i64) 3 w30 w.heap.size (fun k_=>some k_ ≠ (Am : Value).ownBlock) (.slice (some ⟨go24,0,none⟩) x7_3.length co14) Az:=(by rw [hw,Be.1];exact HP29.1);clear HP29;replace HO_8:=A_ (Kd.R_after (v:=(.slice (some ⟨go24,0,none⟩) x7_3.length co14)) (v1:=(.slice (some ⟨go24,0,none⟩) x7_3.length co14)) (ok:=(fun _=>True)) (rq_ (Kd.R_mono HO_8.1 (fun _ hk=>⟨trivial,hk⟩))) hg (.inl rfl));replace Aa:=A_ (blk_grown (g:=Ak) (o:=.cells #[.int .i64 a0_0,.slice A0_1 l0_1.length c0_1] 26 (0,0)) (bl_ Aa) hg (Kd.R_ne HO_7.1 Aa.1 (by decide)));replace HO_7:=A_ (hp_);replace HB:=A_ ((by rw [hw];exact below_set (HB.1) GB24.1 : Below w.heap.size w w30));clear hg hw hp_;have p26 : 0 ≤ (x29_2 : Int):=of_decide_eq_true (by first|(with_reducible assumption)|assumption);have q26 : (x29_2 : Int) < ((x8_3.length : Int) : Int):=of_decide_eq_true (by first|(with_reducible assumption)|assumption);obtain ⟨go26,co26,eo26,gb26,gl26,cl26,HG26⟩:=Kd.R_form HO_8.1 (by omega);(first|cases eo26|(injection eo26 with ea_ en_ ec_;(first|subst ea_|(injection ea_ with ea_;subst ea_));subst ec_;clear en_));have GB26:=A_ gb26;have GG26:=A_ HG26;clear gb26 gl26 HG26;obtain ⟨hx26_0,hf26_0⟩:=Kd.R_celln 0 HO_8.1 (x29_2 : Int) p26 q26;replace p26:=eq_true p26;replace q26:=eq_true q26;have n_:=A_ (Kd.R_mono (ok':=(fun k_=>some k_ ≠ (.slice (some ⟨go24,0,none⟩) x7_3.length co14 : Value).ownBlock)) HO_8.1 (fun k_ hk=>hk.2));clear HO_8;have HO_8:=n_;clear n_;obtain ⟨hy31_,hz31_⟩:=Kd.R_celln 0 HO_8.1 (x29_2 : Int) (of_decide_eq_true (by first|(with_reducible assumption)|assumption)) (of_decide_eq_true (by first|(with_reducible assumption)|assumption));have HP31:=Kd.R_putg HO_8.1 (x29_2 : Int) x34_3)|((with_reducible refine gate_store (t:=3) (p:=71) rfl ?_);(try (rw [drewN_self w30];generalize hq_ : World.drewN w30 _ = w30;have n0_:=A_ (Kd.R_at hq_ HO_7.1);have n1_:=A_ (Kd.R_at hq_ HO_8.1);have n2_:=A_ (blk_at hq_ Aa.1);have n3_:=A_ (below_at hq_ HB.1);clear hq_ HO_7 HO_8 Aa HB;have HO_7:=n0_;have HO_8:=n1_;have Aa:=n2_;have HB:=n3_;clear n0_ n1_ n2_ n3_;(try (have n_:=A_ (Kd.R_mono (ok':=(fun k_=>some k_ ≠ (.slice (some ⟨go24,0,none⟩) x7_3.length co14 : Value).ownBlock)) HO_8.1 (fun k_ hk=>hk.2));clear HO_8;have HO_8:=n_;clear n_));(try (obtain ⟨hy31_,hz31_⟩:=Kd.R_celln 0 HO_8.1 (x29_2 : Int) (of_decide_eq_true (by first|(with_reducible assumption)|assumption)) (of_decide_eq_true (by first|(with_reducible assumption)|assumption))));(try (have HP31:=Kd.R_putg HO_8.1 (x29_2 : Int) x34_3))));refine store_event (t:=3) (p:=71) (v:=?vo_w32) (w1:=(w30.setCell ⟨go26,(x29_2 : Int).toNat,none⟩ (.int .i64 x34_3))) ?hg ?ho ?hn ?hr ?_;(case ho=>rfl);(case hg=>rfl);(case hn=>rfl);(case hr=>go_simp;try rfl);intro w32 hw;have hg : w30.grownBy w32 (some go26):=(by rw [hw];exact HP31.2);have hp_ : Kd.R (Kd.int .i64) 3 w32 w.heap.size (fun k_=>some k_ ≠ (.slice (some ⟨go24,0,none⟩) x7_3.length co14 : Value).ownBlock) (.slice (some ⟨go26,0,none⟩) x8_3.length co26) Ba:=(by rw [hw,Bf.1];exact HP31.1);clear HP31;replace HO_7:=A_ (Kd.R_after (v:=(.slice (some ⟨go26,0,none⟩) x8_3.length co26)) (v1:=(.slice (some ⟨go26,0,none⟩) x8_3.length co26)) (ok:=(fun _=>True)) (rq_ (Kd.R_mono HO_7.1 (fun _ hk=>⟨trivial,hk⟩))) hg (.inl rfl));replace Aa:=A_ (blk_grown (g:=Ak) (o:=.cells #[.int .i64 a0_0,.slice A0_1 l0_1.length c0_1] 26 (0,0)) (bl_ Aa) hg (Kd.R_ne HO_8.1 Aa.1 (by decide)));replace HO_8:=A_ (hp_);replace HB:=A_ ((by rw [hw];exact below_set (HB.1) GB26.1 : Below w.heap.size w w32));clear hg hw hp_));try go_wp2_with (first|(go_at_call 133;(with_reducible refine (Abk.calls k3 a0_0 _ _ l0_1 a1 x34_3 x29_2 Ab true _ ?side1 ?side2 A17.1).mono ?_);(case side1=>exact cl_ (Kd.C_below HR0_1.1 HB.1));(case side2=>exact HC0_1.1);rintro e w28 ⟨rfl,hb⟩;replace HO_7:=rb_ HO_7 hb;replace HO_8:=rb_ HO_8 hb;replace Aa:=bz Aa hb;replace HB:=A_ (below_step bb_ hb);(try clear hb);(try clear hb2);(try clear hk);(try clear hi);have Ac : 0 ≤ (x29_2 : Int):=of_decide_eq_true (by first|(with_reducible assumption)|assumption);have Ad : x29_2 < (x7_3.length : Int):=of_decide_eq_true (by first|(with_reducible assumption)|assumption);obtain ⟨Ag,An,Ai⟩:=Kd.at_int (Kd.R_reads' HO_7.1).2.2 x29_2 Ac Ad;cases An;replace Ac:=eq_true Ac;replace Ad:=eq_true Ad;have Ae : 0 ≤ (x34_3 : Int):=of_decide_eq_true (by first|(with_reducible assumption)|assumption);have Af : x34_3 < (x7_3.length : Int):=of_decide_eq_true (by first|(with_reducible assumption)|assumption);obtain ⟨Al,Ao,Aj⟩:=Kd.at_int (Kd.R_reads' HO_7.1).2.2 x34_3 Ae Af;obtain rfl : Ag = Al:=(by injection Ao);replace Ae:=eq_true Ae;replace Af:=eq_true Af;have Ap : 0 ≤ (x34_3 : Int):=of_decide_eq_true (by first|(with_reducible assumption)|assumption);have Aq : x34_3 < (x7_3.length : Int):=of_decide_eq_true (by first|(with_reducible assumption)|assumption);obtain ⟨Ay,Bb,Ar⟩:=Kd.at_int (Kd.R_reads' HO_7.1).2.2 x34_3 Ap Aq;obtain rfl : Ag = Ay:=(by injection Bb);replace Ap:=eq_true Ap;replace Aq:=eq_true Aq;have p24 : 0 ≤ (x29_2 : Int):=of_decide_eq_true (by first|(with_reducible assumption)|assumption);have q24 : (x29_2 : Int) < ((x7_3.length : Int) : Int):=of_decide_eq_true (by first|(with_reducible assumption)|assumption);obtain ⟨go24,co24,eo24,gb24,gl24,cl24,HG24⟩:=Kd.R_form HO_7.1 (by omega);(first|cases eo24|(injection eo24 with ea_ en_ ec_;(first|subst ea_|(injection ea_ with ea_;subst ea_));subst ec_;clear en_));have GB24:=A_ gb24;have GG24:=A_ HG24;clear gb24 gl24 HG24;(first|simp only [add_plain] at Ai|skip);(first|simp only [add_plain] at Aj|skip);(first|simp only [add_plain] at Ar|skip);obtain ⟨hx24_0,hf24_0⟩:=Kd.R_celln 0 HO_7.1 (x29_2 : Int) p24 q24;replace p24:=eq_true p24;replace q24:=eq_true q24;obtain ⟨hy29_,hz29_⟩:=Kd.R_celln 0 HO_7.1 (x29_2 : Int) (of_decide_eq_true (by first|(with_reducible assumption)|assumption)) (of_decide_eq_true (by first|(with_reducible assumption)|assumption));have HP29:=Kd.R_putg HO_7.1 (x29_2 : Int) (wrap64 ((rd x7_3 x34_3) + Ab)))|((with_reducible refine gate_store (t:=3) (p:=67) rfl ?_);(try (rw [drewN_self w28];generalize hq_ : World.drewN w28 _ = w28;have n0_:=A_ (Kd.R_at hq_ HO_7.1);have n1_:=A_ (Kd.R_at hq_ HO_8.1);have n2_:=A_ (blk_at hq_ Aa.1);have n3_:=A_ (below_at hq_ HB.1);clear hq_ HO_7 HO_8 Aa HB;have HO_7:=n0_;have HO_8:=n1_;have Aa:=n2_;have HB:=n3_;clear n0_ n1_ n2_ n3_;(try (obtain ⟨hy29_,hz29_⟩:=Kd.R_celln 0 HO_7.1 (x29_2 : Int) (of_decide_eq_true (by first|(with_reducible assumption)|assumption)) (of_decide_eq_true (by first|(with_reducible assumption)|assumption))));(try (have HP29:=Kd.R_putg HO_7.1 (x29_2 : Int) (wrap64 ((rd x7_3 x34_3) + Ab))))));refine store_event (t:=3) (p:=67) (v:=?vo_w30) (w1:=(w28.setCell ⟨go24,(x29_2 : Int).toNat,none⟩ (.int .i64 (wrap64 ((rd x7_3 x34_3) + Ab))))) ?hg ?ho ?hn ?hr ?_;(case ho=>rfl);(case hg=>rfl);(case hn=>rfl);(case hr=>go_simp;try rfl);intro w30 hw;have hg : w28.grownBy w30 (some go24):=(by rw [hw];exact HP29.2);have hp_ : Kd.R (Kd.int .i64) 3 w30 w.heap.size (fun k_=>some k_ ≠ (Am : Value).ownBlock) (.slice (some ⟨go24,0,none⟩) x7_3.length co14) Az:=(by rw [hw,Be.1];exact HP29.1);clear HP29;replace HO_8:=A_ (Kd.R_after (v:=(.slice (some ⟨go24,0,none⟩) x7_3.length co14)) (v1:=(.slice (some ⟨go24,0,none⟩) x7_3.length co14)) (ok:=(fun _=>True)) (rq_ (Kd.R_mono HO_8.1 (fun _ hk=>⟨trivial,hk⟩))) hg (.inl rfl));replace Aa:=A_ (blk_grown (g:=Ak) (o:=.cells #[.int .i64 a0_0,.slice A0_1 l0_1.length c0_1] 26 (0,0)) (bl_ Aa) hg (Kd.R_ne HO_7.1 Aa.1 (by decide)));replace HO_7:=A_ (hp_);replace HB:=A_ ((by rw [hw];exact below_set (HB.1) GB24.1 : Below w.heap.size w w30));clear hg hw hp_;have p26 : 0 ≤ (x29_2 : Int):=of_decide_eq_true (by first|(with_reducible assumption)|assumption);have q26 : (x29_2 : Int) < ((x8_3.length : Int) : Int):=of_decide_eq_true (by first|(with_reducible assumption)|assumption);obtain ⟨go26,co26,eo26,gb26,gl26,cl26,HG26⟩:=Kd.R_form HO_8.1 (by omega);(first|cases eo26|(injection eo26 with ea_ en_ ec_;(first|subst ea_|(injection ea_ with ea_;subst ea_));subst ec_;clear en_));have GB26:=A_ gb26;have GG26:=A_ HG26;clear gb26 gl26 HG26;obtain ⟨hx26_0,hf26_0⟩:=Kd.R_celln 0 HO_8.1 (x29_2 : Int) p26 q26;replace p26:=eq_true p26;replace q26:=eq_true q26;have n_:=A_ (Kd.R_mono (ok':=(fun k_=>some k_ ≠ (.slice (some ⟨go24,0,none⟩) x7_3.length co14 : Value).ownBlock)) HO_8.1 (fun k_ hk=>hk.2));clear HO_8;have HO_8:=n_;clear n_;obtain ⟨hy31_,hz31_⟩:=Kd.R_celln 0 HO_8.1 (x29_2 : Int) (of_decide_eq_true (by first|(with_reducible assumption)|assumption)) (of_decide_eq_true (by first|(with_reducible assumption)|assumption));have HP31:=Kd.R_putg HO_8.1 (x29_2 : Int) x34_3)|((with_reducible refine gate_store (t:=3) (p:=71) rfl ?_);(try (rw [drewN_self w30];generalize hq_ : World.drewN w30 _ = w30;have n0_:=A_ (Kd.R_at hq_ HO_7.1);have n1_:=A_ (Kd.R_at hq_ HO_8.1);have n2_:=A_ (blk_at hq_ Aa.1);have n3_:=A_ (below_at hq_ HB.1);clear hq_ HO_7 HO_8 Aa HB;have HO_7:=n0_;have HO_8:=n1_;have Aa:=n2_;have HB:=n3_;clear n0_ n1_ n2_ n3_;(try (have n_:=A_ (Kd.R_mono (ok':=(fun k_=>some k_ ≠ (.slice (some ⟨go24,0,none⟩) x7_3.length co14 : Value).ownBlock)) HO_8.1 (fun k_ hk=>hk.2));clear HO_8;have HO_8:=n_;clear n_));(try (obtain ⟨hy31_,hz31_⟩:=Kd.R_celln 0 HO_8.1 (x29_2 : Int) (of_decide_eq_true (by first|(with_reducible assumption)|assumption)) (of_decide_eq_true (by first|(with_reducible assumption)|assumption))));(try (have HP31:=Kd.R_putg HO_8.1 (x29_2 : Int) x34_3))));refine store_event (t:=3) (p:=71) (v:=?vo_w32) (w1:=(w30.setCell ⟨go26,(x29_2 : Int).toNat,none⟩ (.int .i64 x34_3))) ?hg ?ho ?hn ?hr ?_;(case ho=>rfl);(case hg=>rfl);(case hn=>rfl);(case hr=>go_simp;try rfl);intro w32 hw;have hg : w30.grownBy w32 (some go26):=(by rw [hw];exact HP31.2);have hp_ : Kd.R (Kd.int .i64) 3 w32 w.heap.size (fun k_=>some k_ ≠ (.slice (some ⟨go24,0,none⟩) x7_3.length co14 : Value).ownBlock) (.slice (some ⟨go26,0,none⟩) x8_3.length co26) Ba:=(by rw [hw,Bf.1];exact HP31.1);clear HP31;replace HO_7:=A_ (Kd.R_after (v:=(.slice (some ⟨go26,0,none⟩) x8_3.length co26)) (v1:=(.slice (some ⟨go26,0,none⟩) x8_3.length co26)) (ok:=(fun _=>True)) (rq_ (Kd.R_mono HO_7.1 (fun _ hk=>⟨trivial,hk⟩))) hg (.inl rfl));replace Aa:=A_ (blk_grown (g:=Ak) (o:=.cells #[.int .i64 a0_0,.slice A0_1 l0_1.length c0_1] 26 (0,0)) (bl_ Aa) hg (Kd.R_ne HO_8.1 Aa.1 (by decide)));replace HO_8:=A_ (hp_);replace HB:=A_ ((by rw [hw];exact below_set (HB.1) GB26.1 : Below w.heap.size w w32));clear hg hw hp_)))
                   (try simp only [← hl7_3]);go_roundg k3
                   case measure=>have:=HK1.1;have:=HK2.1;have:=HK3.1;omega
                   case rel=>exact ⟨(Az),(Ba),(x29_2),(wrap64 (x34_3 + 1)),(by first|rfl|(simp;done)|(simp [*];done)),(by first|rfl|(simp;done)|(simp [*];done)),H',⟨by have:=HK1.1;have:=HK2.1;have:=HK3.1;omega⟩,⟨by (try simp only [hl7_2]);(try simp only [hl7_3]);(with_reducible repeat (first|apply Kd.R_alloc|apply Kd.R_drewN|apply Kd.R_drew));exact Kd.R_mono HO_7.1 (fun _ hk=>hk.2)⟩,⟨by (try simp only [hl7_2]);(try simp only [hl7_3]);(with_reducible repeat (first|apply Kd.R_alloc|apply Kd.R_drewN|apply Kd.R_drew));exact HO_8.1⟩,⟨by (try simp only [hl7_2]);(try simp only [hl7_3]);(with_reducible repeat (first|refine blk_drewN ?_ _|refine blk_drew ?_|refine blk_alloc ?_ _));exact Aa.1⟩,⟨bb_⟩⟩
                  ·rw [if_neg c25] at H;exact absurd H (by simp)
                 ·rw [if_neg c23] at H;have c23b0 : decide ((rd x7_3 x29_2) < (wrap64 ((rd x7_3 x34_3) + Ab))) = false:=decide_eq_false c23;clear c23;have H':=A_ H;clear H;obtain ⟨Z,Z,Z,Z⟩:=o2_ Aa.1;go_wp2_with (first|(go_at_call 133;(with_reducible refine (Abk.calls k3 a0_0 _ _ l0_1 a1 x34_3 x29_2 Ab true _ ?side1 ?side2 A17.1).mono ?_);(case side1=>exact cl_ (Kd.C_below HR0_1.1 HB.1));(case side2=>exact HC0_1.1);rintro e w34 ⟨rfl,hb⟩;replace HO_7:=rb_ HO_7 hb;replace HO_8:=rb_ HO_8 hb;replace Aa:=bz Aa hb;replace HB:=A_ (below_step bb_ hb);(try clear hb);(try clear hb2);(try clear hk);(try clear hi);have Ac : 0 ≤ (x29_2 : Int):=of_decide_eq_true (by first|(with_reducible assumption)|assumption);have Ad : x29_2 < (x7_3.length : Int):=of_decide_eq_true (by first|(with_reducible assumption)|assumption);obtain ⟨Ag,An,Ai⟩:=Kd.at_int (Kd.R_reads' HO_7.1).2.2 x29_2 Ac Ad;cases An;replace Ac:=eq_true Ac;replace Ad:=eq_true Ad;have Ae : 0 ≤ (x34_3 : Int):=of_decide_eq_true (by first|(with_reducible assumption)|assumption);have Af : x34_3 < (x7_3.length : Int):=of_decide_eq_true (by first|(with_reducible assumption)|assumption);obtain ⟨Al,Ao,Aj⟩:=Kd.at_int (Kd.R_reads' HO_7.1).2.2 x34_3 Ae Af;obtain rfl : Ag = Al:=(by injection Ao);replace Ae:=eq_true Ae;replace Af:=eq_true Af))
                  repeat (go_quiet (first|(go_at_call 133;(with_reducible refine (Abk.calls k3 a0_0 _ _ l0_1 a1 x34_3 x29_2 Ab true _ ?side1 ?side2 A17.1).mono ?_);(case side1=>exact cl_ (Kd.C_below HR0_1.1 HB.1));(case side2=>exact HC0_1.1);rintro e w34 ⟨rfl,hb⟩;replace HO_7:=rb_ HO_7 hb;replace HO_8:=rb_ HO_8 hb;replace Aa:=bz Aa hb;replace HB:=A_ (below_step bb_ hb);(try clear hb);(try clear hb2);(try clear hk);(try clear hi);have Ac : 0 ≤ (x29_2 : Int):=of_decide_eq_true (by first|(with_reducible assumption)|assumption);have Ad : x29_2 < (x7_3.length : Int):=of_decide_eq_true (by first|(with_reducible assumption)|assumption);obtain ⟨Ag,An,Ai⟩:=Kd.at_int (Kd.R_reads' HO_7.1).2.2 x29_2 Ac Ad;cases An;replace Ac:=eq_true Ac;replace Ad:=eq_true Ad;have Ae : 0 ≤ (x34_3 : Int):=of_decide_eq_true (by first|(with_reducible assumption)|assumption);have Af : x34_3 < (x7_3.length : Int):=of_decide_eq_true (by first|(with_reducible assumption)|assumption);obtain ⟨Al,Ao,Aj⟩:=Kd.at_int (Kd.R_reads' HO_7.1).2.2 x34_3 Ae Af;obtain rfl : Ag = Al:=(by injection Ao);replace Ae:=eq_true Ae;replace Af:=eq_true Af));try go_wp2_with (first|(go_at_call 133;(with_reducible refine (Abk.calls k3 a0_0 _ _ l0_1 a1 x34_3 x29_2 Ab true _ ?side1 ?side2 A17.1).mono ?_);(case side1=>exact cl_ (Kd.C_below HR0_1.1 HB.1));(case side2=>exact HC0_1.1);rintro e w34 ⟨rfl,hb⟩;replace HO_7:=rb_ HO_7 hb;replace HO_8:=rb_ HO_8 hb;replace Aa:=bz Aa hb;replace HB:=A_ (below_step bb_ hb);(try clear hb);(try clear hb2);(try clear hk);(try clear hi);have Ac : 0 ≤ (x29_2 : Int):=of_decide_eq_true (by first|(with_reducible assumption)|assumption);have Ad : x29_2 < (x7_3.length : Int):=of_decide_eq_true (by first|(with_reducible assumption)|assumption);obtain ⟨Ag,An,Ai⟩:=Kd.at_int (Kd.R_reads' HO_7.1).2.2 x29_2 Ac Ad;cases An;replace Ac:=eq_true Ac;replace Ad:=eq_true Ad;have Ae : 0 ≤ (x34_3 : Int):=of_decide_eq_true (by first|(with_reducible assumption)|assumption);have Af : x34_3 < (x7_3.length : Int):=of_decide_eq_true (by first|(with_reducible assumption)|assumption);obtain ⟨Al,Ao,Aj⟩:=Kd.at_int (Kd.R_reads' HO_7.1).2.2 x34_3 Ae Af;obtain rfl : Ag = Al:=(by injection Ao);replace Ae:=eq_true Ae;replace Af:=eq_true Af)))
                  (try simp only [← hl7_3]);go_roundg k3
                  case measure=>have:=HK1.1;have:=HK2.1;have:=HK3.1;omega
                  case rel=>exact ⟨(x7_3),(x8_3),(x9_3),(wrap64 (x34_3 + 1)),(by first|rfl|(simp;done)|(simp [*];done)),(by first|rfl|(simp;done)|(simp [*];done)),H',⟨by have:=HK1.1;have:=HK2.1;have:=HK3.1;omega⟩,⟨by (try simp only [hl7_2]);(try simp only [hl7_3]);(with_reducible repeat (first|apply Kd.R_alloc|apply Kd.R_drewN|apply Kd.R_drew));exact HO_7.1⟩,⟨by (try simp only [hl7_2]);(try simp only [hl7_3]);(with_reducible repeat (first|apply Kd.R_alloc|apply Kd.R_drewN|apply Kd.R_drew));exact HO_8.1⟩,⟨by (try simp only [hl7_2]);(try simp only [hl7_3]);(with_reducible repeat (first|refine blk_drewN ?_ _|refine blk_drew ?_|refine blk_alloc ?_ _));exact Aa.1⟩,⟨bb_⟩⟩
                ·rw [if_neg c22] at H;exact absurd H (by simp)
               ·rw [if_neg c21] at H;exact absurd H (by simp)
              ·rw [if_neg c20] at H;exact absurd H (by simp)
             ·rw [if_neg c19] at H;exact absurd H (by simp)
            ·replace c18:=Bool.eq_false_iff.mpr c18;subst c18;have H1 : (Aao.l2 k3 a1 x7_3 x8_3 x9_3 x10_1 x29_2 (x7_1.length : Int) x29_2 (x7_2.length : Int) (wrap64 (x34_3 + 1)) a0_0 l0_1) = some (r1,r2,r3):=by rw [if_neg (show ¬ (false = true) by decide)] at H;exact H
             clear H;have H:=H1;clear H1;have H':=A_ H;clear H;obtain ⟨Z,Z,Z,Z⟩:=o2_ Aa.1;go_wp2_with (first|(go_at_call 133;(with_reducible refine (Abk.calls k3 a0_0 _ _ l0_1 a1 x34_3 x29_2 Ab false _ ?side1 ?side2 A17.1).mono ?_);(case side1=>exact cl_ (Kd.C_below HR0_1.1 HB.1));(case side2=>exact HC0_1.1);rintro e w36 ⟨rfl,hb⟩;replace HO_7:=rb_ HO_7 hb;replace HO_8:=rb_ HO_8 hb;replace Aa:=bz Aa hb;replace HB:=A_ (below_step bb_ hb);(try clear hb);(try clear hb2);(try clear hk);(try clear hi)))
             repeat (go_quiet (first|(go_at_call 133;(with_reducible refine (Abk.calls k3 a0_0 _ _ l0_1 a1 x34_3 x29_2 Ab false _ ?side1 ?side2 A17.1).mono ?_);(case side1=>exact cl_ (Kd.C_below HR0_1.1 HB.1));(case side2=>exact HC0_1.1);rintro e w36 ⟨rfl,hb⟩;replace HO_7:=rb_ HO_7 hb;replace HO_8:=rb_ HO_8 hb;replace Aa:=bz Aa hb;replace HB:=A_ (below_step bb_ hb);(try clear hb);(try clear hb2);(try clear hk);(try clear hi)));try go_wp2_with (first|(go_at_call 133;(with_reducible refine (Abk.calls k3 a0_0 _ _ l0_1 a1 x34_3 x29_2 Ab false _ ?side1 ?side2 A17.1).mono ?_);(case side1=>exact cl_ (Kd.C_below HR0_1.1 HB.1));(case side2=>exact HC0_1.1);rintro e w36 ⟨rfl,hb⟩;replace HO_7:=rb_ HO_7 hb;replace HO_8:=rb_ HO_8 hb;replace Aa:=bz Aa hb;replace HB:=A_ (below_step bb_ hb);(try clear hb);(try clear hb2);(try clear hk);(try clear hi))))
             (try simp only [← hl7_3]);go_roundg k3
             case measure=>have:=HK1.1;have:=HK2.1;have:=HK3.1;omega
             case rel=>exact ⟨(x7_3),(x8_3),(x9_3),(wrap64 (x34_3 + 1)),(by first|rfl|(simp;done)|(simp [*];done)),(by first|rfl|(simp;done)|(simp [*];done)),H',⟨by have:=HK1.1;have:=HK2.1;have:=HK3.1;omega⟩,⟨by (try simp only [hl7_2]);(try simp only [hl7_3]);(with_reducible repeat (first|apply Kd.R_alloc|apply Kd.R_drewN|apply Kd.R_drew));exact HO_7.1⟩,⟨by (try simp only [hl7_2]);(try simp only [hl7_3]);(with_reducible repeat (first|apply Kd.R_alloc|apply Kd.R_drewN|apply Kd.R_drew));exact HO_8.1⟩,⟨by (try simp only [hl7_2]);(try simp only [hl7_3]);(with_reducible repeat (first|refine blk_drewN ?_ _|refine blk_drew ?_|refine blk_alloc ?_ _));exact Aa.1⟩,⟨bb_⟩⟩
           ·rw [if_neg c16] at H;have c16b0 : decide (x34_3 < (x7_2.length : Int)) = false:=decide_eq_false c16;(try (have c16b8:=c16b0;simp only [hl7_2,hl7_3] at c16b8));clear c16;have H':=A_ H;clear H;go_wp2
            repeat (go_quiet (fail);try go_wp2)
            (try simp only [← hl7_2,← hl7_3]);go_roundg k3
            case measure=>have:=HK1.1;have:=HK2.1;have:=HK3.1;omega
            case rel=>exact ⟨(x7_3),(x8_3),(x9_3),(wrap64 (x29_2 + 1)),(by first|rfl|(simp;done)|(simp [*];done)),(by first|rfl|(simp;done)|(simp [*];done)),H',⟨by have:=HK1.1;have:=HK2.1;have:=HK3.1;omega⟩,⟨by (try simp only [hl7_2]);(try simp only [hl7_3]);(with_reducible repeat (first|apply Kd.R_alloc|apply Kd.R_drewN|apply Kd.R_drew));exact HO_7.1⟩,⟨by (try simp only [hl7_2]);(try simp only [hl7_3]);(with_reducible repeat (first|apply Kd.R_alloc|apply Kd.R_drewN|apply Kd.R_drew));exact HO_8.1⟩,⟨by (try simp only [hl7_2]);(try simp only [hl7_3]);(with_reducible repeat (first|refine blk_drewN ?_ _|refine blk_drew ?_|refine blk_alloc ?_ _));exact Aa.1⟩,⟨bb_⟩⟩
        ·rw [if_neg c15] at H;have c15b0 : decide (x29_2 < (x7_1.length : Int)) = false:=decide_eq_false c15;(try (have c15b8:=c15b0;simp only [hl7_2] at c15b8));clear c15;by_cases c37 : x9_2 < 0
         ·rw [if_pos c37] at H;have c37b0 : decide (x9_2 < 0) = true:=decide_eq_true c37;clear c37;simp only [Option.some.injEq,Prod.mk.injEq] at H
          obtain ⟨rfl,rfl,rfl⟩:=H;go_wp2
          repeat (go_quiet (fail);try go_wp2)
          go_ret3
          exact ⟨_,_,by first|rfl|(simp [errW_none,errW_some] <;> rfl)|(simp [*,errW_none,errW_some] <;> rfl),rl_ HO_7,rl_ HO_8,bb_⟩
         ·rw [if_neg c37] at H;have c37b0 : decide (x9_2 < 0) = false:=decide_eq_false c37;clear c37;have H':=A_ H;clear H;go_wp2
          repeat (go_quiet (fail);try go_wp2)
          (try simp only [← hl7_2]);go_roundg k2
          case measure=>have:=HK1.1;have:=HK2.1;omega
          case rel=>exact ⟨(x7_2),(x8_2),(x9_2),(wrap64 (x10_1 + 1)),(by first|rfl|(simp;done)|(simp [*];done)),(by first|rfl|(simp;done)|(simp [*];done)),H',⟨by have:=HK1.1;have:=HK2.1;omega⟩,⟨by (try simp only [hl7_2]);(with_reducible repeat (first|apply Kd.R_alloc|apply Kd.R_drewN|apply Kd.R_drew));exact HO_7.1⟩,⟨by (try simp only [hl7_2]);(with_reducible repeat (first|apply Kd.R_alloc|apply Kd.R_drewN|apply Kd.R_drew));exact HO_8.1⟩,⟨by (try simp only [hl7_2]);(with_reducible repeat (first|refine blk_drewN ?_ _|refine blk_drew ?_|refine blk_alloc ?_ _));exact Aa.1⟩,⟨bb_⟩⟩
     ·rw [if_neg c12] at H;have c12b0 : decide (x10_1 ≤ a0_0) = false:=decide_eq_false c12;clear c12;simp only [Option.some.injEq,Prod.mk.injEq] at H
      obtain ⟨rfl,rfl,rfl⟩:=H;obtain ⟨Z,Z,Z,Z⟩:=o2_ Aa.1;go_wp2
      repeat (go_quiet (fail);try go_wp2)
      go_ret3
      exact ⟨_,_,by first|rfl|(simp [errW_none,errW_some] <;> rfl)|(simp [*,errW_none,errW_some] <;> rfl),rl_ HO_7,rl_ HO_8,bb_⟩
  ·rw [if_neg c4] at H;exact absurd H (by simp)
 ·rw [if_neg c3] at H;exact absurd H (by simp)
def Aau.l0 : Nat → Int → Int → List Int → Option (Int × Bool)
 | 0,_,_,_=>none
 | k + 1,x4,x843000,x843001=>if x4 ≤ 10 then ((Aao.f k x843000 x843001 x4).bind fun bt844=>(if bt844.2.2 < 0 then (some (x4,true)) else (Aau.l0 k (wrap64 (x4 + 1)) x843000 x843001))) else (some (0,false))
def Aau.f (k : Nat) (a0_0 : Int) (l0_1 : List Int) : Option (Int × Bool) := (Aas.f k a0_0 l0_1).bind fun t843 => (if t843 = true then (Aau.l0 k 1 a0_0 l0_1) else (some (0, false)))
set_option maxHeartbeats 8000000 in
set_option maxRecDepth 100000 in
theorem Aau.calls (k : Nat) (a0_0 : Int) (A0_1 : Option Addr) (c0_1 : Nat) (l0_1 : List Int) (r1 : Int) (r2 : Bool) (w : World) (hr0_1 : Kd.C (Kd.int .i64) w A0_1 l0_1.length l0_1) (hc0_1 : l0_1.length ≤ c0_1) (h : Aau.f k a0_0 l0_1 = some (r1,r2)) :
 Calls Tryd.prog 32 #[.agg #[.int .i64 a0_0,.slice A0_1 l0_1.length c0_1]] w fun e w'=>e = .returned (.tuple #[.int .i64 r1,.bool r2]) ∧ Below w.heap.size w w':=by
 have hu26:=Tryd.underlying26;have HR0_1:=A_ hr0_1;have HC0_1:=A_ hc0_1;clear hr0_1 hc0_1;have HB:=A_ (Below.refl w.heap.size w);have H : ((Aas.f k a0_0 l0_1).bind fun Ac=>(if Ac = true then (Aau.l0 k 1 a0_0 l0_1) else (some (0,false)))) = some (r1,r2):=h;clear h;replace H:=Option.bind_eq_some_iff.mp H;obtain ⟨Ac,A20,H⟩:=H;replace H : (if Ac = true then (Aau.l0 k 1 a0_0 l0_1) else (some (0,false))) = some (r1,r2):=H;have A2:=A_ A20;clear A20;by_cases c3 : Ac = true
 ·subst c3;have H1 : (Aau.l0 k 1 a0_0 l0_1) = some (r1,r2):=by rw [if_pos rfl] at H;exact H
  clear H;have H:=H1;clear H1;have H':=A_ H;clear H;go_enter Tryd.func32,Tryd.ntmps32
  go_wp2_with (first|((with_reducible refine gate_dst (N:=1) rfl ?_);refine box_event ?hg (N:=1) ?hd (cs:=#[.int .i64 a0_0,.slice A0_1 l0_1.length c0_1]) (t:=26) ?hr ?_;(case hd=>rfl);(case hg=>rfl);(case hr=>go_simp;try rfl);intro Ad hg w4 hbox hb;have Aa:=A_ (hbox);have Ag:=A_ (gw_ (w:=w) hg bb_);have Ah:=A_ (gw_ (w:=w) hg bb_);replace HB:=A_ (below_step bb_ hb);clear hb hbox hg;obtain ⟨Z,Z,Z,Z⟩:=o2_ Aa.1)|((with_reducible refine gate_callee (f:=70) rfl ?_);refine goesL_ (some 9) rfl rfl Tryd.func70 (by kernel_rfl) rfl #[.agg #[.int .i64 a0_0,.slice A0_1 l0_1.length c0_1]] rfl au_ ?_;(with_reducible refine (Aas.calls k a0_0 _ _ l0_1 true _ ?side1 ?side2 A2.1).mono ?_);(case side1=>exact cl_ (Kd.C_below HR0_1.1 HB.1));(case side2=>exact HC0_1.1);rintro e w6 ⟨rfl,hb⟩;refine ⟨_,rfl,?_⟩;replace Aa:=bz Aa hb;replace HB:=A_ (below_step bb_ hb);(try clear hb);(try clear hb2);(try clear hk);(try clear hi)))
  go_loopg [4] k (fun kq v4 w'=>∃ (x4_1 : Int),v4 = .int .i64 x4_1 ∧ Aside0 (Aau.l0 kq x4_1 a0_0 l0_1 = some (r1,r2)) ∧ Aside0 (kq ≤ k) ∧ Aside0 (w'.heap[Ad]? = some (.cells #[.int .i64 a0_0,(.slice A0_1 l0_1.length c0_1)] 26 (0,0))) ∧ Aside0 (Below w.heap.size w w'))
  case atStart=>exact ⟨(1),(by first|rfl|(simp;done)|(simp [*];done)),H',⟨Nat.le_refl _⟩,⟨bl_ Aa⟩,⟨bb_⟩⟩
  case round =>
   clear H';try clear p2
   try clear c3
   repeat clear Z
   obtain ⟨x4_1,rfl,HA,HK1,Aa,HB⟩:=hrel;cases gk with
   | zero=>exact absurd HA.1 (by simp [Aau.l0])
   | succ k1 =>
    have H:=HA.1;clear HA;simp only [Aau.l0] at H
    by_cases c7 : x4_1 ≤ 10
    ·rw [if_pos c7] at H;have c7b0 : decide (x4_1 ≤ 10) = true:=decide_eq_true c7;clear c7;replace H:=Option.bind_eq_some_iff.mp H;obtain ⟨⟨Ae,Af,Ab⟩,A80,H⟩:=H;replace H : (if Ab < 0 then (some (x4_1,true)) else (Aau.l0 k1 (wrap64 (x4_1 + 1)) a0_0 l0_1)) = some (r1,r2):=H;have A8:=A_ A80;clear A80;by_cases c9 : Ab < 0
     ·rw [if_pos c9] at H;have c9b0 : decide (Ab < 0) = true:=decide_eq_true c9;clear c9;simp only [Option.some.injEq,Prod.mk.injEq] at H
      obtain ⟨rfl,rfl⟩:=H;obtain ⟨Z,Z,Z,Z⟩:=o2_ Aa.1;go_wp2_with (first|((with_reducible refine gate_callee (f:=89) rfl ?_);refine goesL_ (some 18) rfl rfl Tryd.func89 (by kernel_rfl) rfl #[.agg #[.int .i64 a0_0,.slice A0_1 l0_1.length c0_1],.int .i64 x4_1] rfl au_ ?_;(with_reducible refine (Aao.calls k1 a0_0 _ _ l0_1 x4_1 Ae Af Ab _ ?side1 ?side2 A8.1).mono ?_);(case side1=>exact cl_ (Kd.C_below HR0_1.1 HB.1));(case side2=>exact HC0_1.1);rintro e w11 ⟨Ak,Al,rfl,ho0,ho1,hb⟩;refine ⟨_,rfl,?_⟩;have Ai:=A_ (Kd.R_lower ho0 (below_size bb_));have Aj:=A_ (Kd.R_lower ho1 (below_size bb_));replace Aa:=bz Aa hb;replace HB:=A_ (below_step bb_ hb);(try clear hb);(try clear hb2);(try clear hk);(try clear hi);(try clear ho0);(try clear ho1)))
      go_ret2
      exact ⟨by first|rfl|(simp [errW_none,errW_some] <;> rfl)|(simp [*,errW_none,errW_some] <;> rfl),bb_⟩
     ·rw [if_neg c9] at H;have c9b0 : decide (Ab < 0) = false:=decide_eq_false c9;clear c9;have H':=A_ H;clear H;obtain ⟨Z,Z,Z,Z⟩:=o2_ Aa.1;go_wp2_with (first|((with_reducible refine gate_callee (f:=89) rfl ?_);refine goesL_ (some 18) rfl rfl Tryd.func89 (by kernel_rfl) rfl #[.agg #[.int .i64 a0_0,.slice A0_1 l0_1.length c0_1],.int .i64 x4_1] rfl au_ ?_;(with_reducible refine (Aao.calls k1 a0_0 _ _ l0_1 x4_1 Ae Af Ab _ ?side1 ?side2 A8.1).mono ?_);(case side1=>exact cl_ (Kd.C_below HR0_1.1 HB.1));(case side2=>exact HC0_1.1);rintro e w13 ⟨Ak,Al,rfl,ho0,ho1,hb⟩;refine ⟨_,rfl,?_⟩;have Ai:=A_ (Kd.R_lower ho0 (below_size bb_));have Aj:=A_ (Kd.R_lower ho1 (below_size bb_));replace Aa:=bz Aa hb;replace HB:=A_ (below_step bb_ hb);(try clear hb);(try clear hb2);(try clear hk);(try clear hi);(try clear ho0);(try clear ho1)))
      go_roundg k1
      case measure=>have:=HK1.1;omega
      case rel=>exact ⟨(wrap64 (x4_1 + 1)),(by first|rfl|(simp;done)|(simp [*];done)),H',⟨by have:=HK1.1;omega⟩,⟨bl_ Aa⟩,⟨bb_⟩⟩
    ·rw [if_neg c7] at H;have c7b0 : decide (x4_1 ≤ 10) = false:=decide_eq_false c7;clear c7;simp only [Option.some.injEq,Prod.mk.injEq] at H
     obtain ⟨rfl,rfl⟩:=H;go_wp2
     go_ret2
     exact ⟨by first|rfl|(simp [errW_none,errW_some] <;> rfl)|(simp [*,errW_none,errW_some] <;> rfl),bb_⟩
 ·replace c3:=Bool.eq_false_iff.mpr c3;subst c3;have H1 : (some (0,false)) = some (r1,r2):=by rw [if_neg (show ¬ (false = true) by decide)] at H;exact H
  clear H;have H:=H1;clear H1;simp only [Option.some.injEq,Prod.mk.injEq] at H
  obtain ⟨rfl,rfl⟩:=H;go_enter Tryd.func32,Tryd.ntmps32
  go_wp2_with (first|((with_reducible refine gate_dst (N:=1) rfl ?_);refine box_event ?hg (N:=1) ?hd (cs:=#[.int .i64 a0_0,.slice A0_1 l0_1.length c0_1]) (t:=26) ?hr ?_;(case hd=>rfl);(case hg=>rfl);(case hr=>go_simp;try rfl);intro Ad hg w14 hbox hb;have Aa:=A_ (hbox);have Ag:=A_ (gw_ (w:=w) hg bb_);have Ah:=A_ (gw_ (w:=w) hg bb_);replace HB:=A_ (below_step bb_ hb);clear hb hbox hg;obtain ⟨Z,Z,Z,Z⟩:=o2_ Aa.1)|((with_reducible refine gate_callee (f:=70) rfl ?_);refine goesL_ (some 9) rfl rfl Tryd.func70 (by kernel_rfl) rfl #[.agg #[.int .i64 a0_0,.slice A0_1 l0_1.length c0_1]] rfl au_ ?_;(with_reducible refine (Aas.calls k a0_0 _ _ l0_1 false _ ?side1 ?side2 A2.1).mono ?_);(case side1=>exact cl_ (Kd.C_below HR0_1.1 HB.1));(case side2=>exact HC0_1.1);rintro e w16 ⟨rfl,hb⟩;refine ⟨_,rfl,?_⟩;replace Aa:=bz Aa hb;replace HB:=A_ (below_step bb_ hb);(try clear hb);(try clear hb2);(try clear hk);(try clear hi)))
  go_ret2
  exact ⟨by first|rfl|(simp [errW_none,errW_some] <;> rfl)|(simp [*,errW_none,errW_some] <;> rfl),bb_⟩
mutual
def Aak.l0 (is : Int → Int → Option Bool) : Nat → Int → Int → Int → Int → List Int → Option (Int × List Int)
 | 0,_,_,_,_,_=>none
 | k + 1,x0,x12,x13,x252000,x252001=>if x13 < x12 then (Aak.l1 is k x0 x13 x12 x13 x0 0 x252000 x252001) else (some (x252000,x252001))
def Aak.l1 (is : Int → Int → Option Bool) : Nat → Int → Int → Int → Int → Int → Int → Int → List Int → Option (Int × List Int)
 | 0,_,_,_,_,_,_,_,_=>none
 | k + 1,x0,x6,x12,x13,x16,x17,x252000,x252001=>if x17 < x16 then ((is x6 x17).bind fun t252=>(if t252 = true then (if 0 ≤ x6 then (if x6 < (x252001.length : Int) then (if 0 ≤ x17 then (Aak.l1 is k x0 x6 x12 x13 x16 (wrap64 (x17 + 1)) x252000 (x252001.set (x6 : Int).toNat (Go.bits .or .i64 (rd x252001 x6) (shl .i64 1 x17)))) else (none)) else (none)) else (none)) else (Aak.l1 is k x0 x6 x12 x13 x16 (wrap64 (x17 + 1)) x252000 x252001))) else (Aak.l0 is k x0 x12 (wrap64 (x13 + 1)) x252000 x252001)
end
def Aak.f (k : Nat) (a0 : Int) (is : Int → Int → Option Bool) : Option (Int × List Int) := if 0 ≤ a0 then (if (a0 : Int).toNat ≤ 35184372088832 then (Aak.l0 is k a0 a0 0 a0 (List.replicate (a0 : Int).toNat 0)) else (none)) else (none)
theorem Aak.mono_l {is is' : Int → Int → Option Bool} (hi : ∀ x y,LeO (is x y) (is' x y)) : ∀ k,(∀ y0 y1 y2 y3 y4,LeO (Aak.l0 is k y0 y1 y2 y3 y4) (Aak.l0 is' (k + 1) y0 y1 y2 y3 y4)) ∧ (∀ y0 y1 y2 y3 y4 y5 y6 y7,LeO (Aak.l1 is k y0 y1 y2 y3 y4 y5 y6 y7) (Aak.l1 is' (k + 1) y0 y1 y2 y3 y4 y5 y6 y7))
 | 0=>⟨fun _ _ _ _ _ r h=>by simp [Aak.l0] at h,fun _ _ _ _ _ _ _ _ r h=>by simp [Aak.l1] at h⟩
 | k + 1=>by
  obtain ⟨ih0,ih1⟩:=Aak.mono_l hi k;refine ⟨?_,?_⟩
  ·intro y0 y1 y2 y3 y4
   unfold Aak.l0
   repeat' first
   | (with_reducible exact hi _ _)
   | (with_reducible exact ih0 _ _ _ _ _)
   | (with_reducible exact ih1 _ _ _ _ _ _ _ _)
   | (with_reducible exact LeO.refl _)
   | (with_reducible exact LeO.none _)
   | (with_reducible refine LeO.ite ?_ ?_)
   | (with_reducible refine LeO.bind ?_ (fun _=>?_))
   | exact ih0 _ _ _ _ _
   | exact ih1 _ _ _ _ _ _ _ _
   | exact LeO.none _
   | refine LeO.ite ?_ ?_
   | refine LeO.bind ?_ (fun _=>?_)
  ·intro y0 y1 y2 y3 y4 y5 y6 y7
   unfold Aak.l1
   repeat' first
   | (with_reducible exact hi _ _)
   | (with_reducible exact ih0 _ _ _ _ _)
   | (with_reducible exact ih1 _ _ _ _ _ _ _ _)
   | (with_reducible exact LeO.refl _)
   | (with_reducible exact LeO.none _)
   | (with_reducible refine LeO.ite ?_ ?_)
   | (with_reducible refine LeO.bind ?_ (fun _=>?_))
   | exact ih0 _ _ _ _ _
   | exact ih1 _ _ _ _ _ _ _ _
   | exact LeO.none _
   | refine LeO.ite ?_ ?_
   | refine LeO.bind ?_ (fun _=>?_)
theorem Aak.mono2 {is is' : Int → Int → Option Bool} (hi : ∀ x y,LeO (is x y) (is' x y)) : ∀ a0 k,LeO (Aak.f k a0 is) (Aak.f (k + 1) a0 is'):=by
 intro a0 k
 obtain ⟨ih0,ih1⟩:=Aak.mono_l hi k;unfold Aak.f
 repeat' first
  | (with_reducible exact hi _ _)
  | (with_reducible exact ih0 _ _ _ _ _)
  | (with_reducible exact ih1 _ _ _ _ _ _ _ _)
  | (with_reducible exact LeO.refl _)
  | (with_reducible exact LeO.none _)
  | (with_reducible refine LeO.ite ?_ ?_)
  | (with_reducible refine LeO.bind ?_ (fun _ => ?_))
  | exact ih0 _ _ _ _ _
  | exact ih1 _ _ _ _ _ _ _ _
  | exact LeO.none _
  | refine LeO.ite ?_ ?_
  | refine LeO.bind ?_ (fun _ => ?_)
def Aak.T9 : Bool × List (List Nat × List Nat) := (true, [([], []), ([0], [0]), ([], []), ([1, 2], [1, 2]), ([3], [3]), ([], []), ([5], [5]), ([4, 6], [4, 6]), ([1, 2, 0, 1, 2, 3, 4, 5, 6, 7], [1, 2]), ([8, 7, 0, 1, 2, 3, 4, 5, 6, 7], [7, 8])])
def Aak.B9 : List Nat := [0, 1, 0, 7, 15, 0, 32, 127, 255, 511]
theorem Aak.tab9 : rtab .any (opsOf Tryd.f66 9) = Aak.T9:=by kernel_rfl
theorem Aak.bits9 : waitsOk Aak.T9.2 Aak.B9 = true:=by kernel_rfl
set_option maxHeartbeats 8000000 in
set_option maxRecDepth 100000 in
theorem Aak.calls (k : Nat) (a0 : Int) (is : Int → Int → Option Bool) (r1 : Int) (r2 : List Int) (w : World) (C : Nat) (lb : Array Value) (eg : ∀ args w,(callFunc C args).run Tryd.prog w = .ok (.enter C args) w)
 (hC : ∀ (W : World) (x y : Int) (r : Bool),Below w.heap.size w W → is x y = some r → Calls Tryd.prog C (#[.int .i64 x,.int .i64 y] ++ lb) W fun e W'=>e = .returned (.bool r) ∧ Below W.heap.size W W') (h : Aak.f k a0 is = some (r1,r2)) :
 Calls Tryd.prog 66 #[.int .i64 a0,.func (.func C) #[] lb] w fun e w'=>∃ v1_ : Value,e = .returned (.agg #[.int .i64 r1,v1_]) ∧ Kd.R (Kd.int .i64) 3 w' w.heap.size (fun _=>True) v1_ r2 ∧ Below w.heap.size w w':=by
 have hu26:=Tryd.underlying26;have HB:=A_ (Below.refl w.heap.size w);have HC:=A_ hC;clear hC;have H : (if 0 ≤ a0 then (if (a0 : Int).toNat ≤ 35184372088832 then (Aak.l0 is k a0 a0 0 a0 (List.replicate (a0 : Int).toNat 0)) else (none)) else (none)) = some (r1,r2):=h;clear h;by_cases c3 : 0 ≤ a0
 ·rw [if_pos c3] at H;have c3b0:=eq_true c3;have c3b1 : decide (0 ≤ a0) = true:=decide_eq_true c3;clear c3;by_cases c4 : (a0 : Int).toNat ≤ 35184372088832
  ·rw [if_pos c4] at H;have c4b0:=eq_true c4;have c4b1 : decide ((a0 : Int).toNat ≤ 35184372088832) = true:=decide_eq_true c4;clear c4;obtain ⟨Ao,Ai⟩ : ∃ y_ : List Int,y_ = (List.replicate (a0 : Int).toNat 0):=⟨_,rfl⟩;replace H : (Aak.l0 is k a0 a0 0 a0 Ao) = some (r1,r2):=by first|(rw [Ai];with_reducible exact H)|(have H2_:=(Option.bind_some _ _).symm.trans H;rw [Ai];with_reducible exact H2_)|(have H2_:=(Option.bind_some _ _).symm.trans H;with_reducible exact H2_)|with_reducible exact H|(rw [Ai];exact H)|exact H
   have Ar:=A_ Ai;clear Ai;have H':=A_ H;clear H;go_enter Tryd.func66,Tryd.ntmps66
   go_wp2_with (first|((with_reducible refine gate_dst (N:=4) rfl ?_);refine box_event ?hg (N:=4) ?hd (cs:=#[.int .i64 0,.slice none 0 0]) (t:=26) ?hr ?_;(case hd=>rfl);(case hg=>rfl);(case hr=>go_simp;try rfl);intro Aj hg w5 hbox hb;have Ac:=A_ (hbox);have Ax:=A_ (gw_ (w:=w) hg bb_);have Ay:=A_ (gw_ (w:=w) hg bb_);replace HB:=A_ (below_step bb_ hb);clear hb hbox hg)|((with_reducible refine gate_dst (N:=10) rfl ?_);refine Kd.R_make (Kd.int .i64) _ 3 rfl (N:=10) rfl 24 _ _ rfl a0 rfl rfl Tryd.underlying24 (.int .i64 0) 8 info3 rfl (by decide) (by omega) 0 (ok:=fun _=>True) (okp:=fun _=>True) rfl (fun _ hk=>hk) trivial (of_decide_eq_true (by first|(with_reducible assumption)|assumption)) (Nat.le_trans (Nat.mul_le_mul_right _ (of_decide_eq_true (by first|(with_reducible assumption)|assumption) : a0.toNat ≤ 35184372088832)) (by omega)) (Below.refl _ _) (Nat.le_refl _) ?_;intro Bc w6 ho7 hb hg_ hnew_;clear hg_ hnew_;(first|rw [← Ar.1] at ho7|(simp only [Int.reduceToNat] at ho7;rw [← Ar.1] at ho7));have An:=A_ (Kd.R_lower ho7 (below_size bb_));replace Ac:=bz Ac hb;replace HB:=A_ (below_step bb_ hb);clear hb ho7;obtain ⟨Ao8,co8,eo8⟩:=Kd.R_slice An.1;subst eo8)|((with_reducible refine gate_dst (N:=5) rfl ?_);refine box_event ?hg (N:=5) ?hd (cs:=#[.int .i64 0,.slice none 0 0]) (t:=26) ?hr ?_;(case hd=>rfl);(case hg=>rfl);(case hr=>go_simp;try rfl);intro Ah hg w9 hbox hb;replace An:=rb_ An hb;have Ad:=A_ (hbox);have Az:=A_ (gw_ (w:=w) hg bb_);have Ba:=A_ (gw_ (w:=w) hg bb_);replace HB:=A_ (below_step bb_ hb);have Ag:=A_ (nl_ hg Ac);have Am:=A_ (ng_ hg Ac);replace Ac:=bz Ac hb;clear hb hbox hg;have Z:=Am.1;have Z:=Ag.1;obtain ⟨Z,Z,Z,Z⟩:=o2_ Ad.1))
   go_loopg [13] k (fun kq v13 w'=>∃ (x13_1 : Int) (Af : List Int) (Ae : Value),v13 = .int .i64 x13_1 ∧ Aside0 (Aak.l0 is kq a0 a0 x13_1 a0 Af = some (r1,r2)) ∧ Aside0 (kq ≤ k) ∧ Aside0 (Kd.R (Kd.int .i64) 3 w' w.heap.size (fun _=>True) Ae Af) ∧ Aside0 (w'.heap[Aj]? = some (.cells #[.int .i64 0,(.slice none 0 0)] 26 (0,0))) ∧ Aside0 (w'.heap[Ah]? = some (.cells #[.int .i64 a0,Ae] 26 (0,0))) ∧ Aside0 (Below w.heap.size w w'))
   case atStart=>exact ⟨(0),(Ao),(.slice Ao8 Ao.length co8),(by first|rfl|(simp;done)|(simp [*];done)),H',⟨Nat.le_refl _⟩,⟨rq_ (Kd.R_mono (Kd.R_far (p:=⟨Ah,1,none⟩) (Kd.R_far (p:=⟨Ah,0,none⟩) (Kd.R_types An.1 Ad.1 (by decide)) (fun _ hk=>hk.2) (.int .i64 a0)) (fun _ hk=>hk.2) (.slice Ao8 Ao.length co8)) (fun _ hk=>trivial))⟩,⟨by (with_reducible repeat (first|refine blk_drewN ?_ _|refine blk_drew ?_|refine blk_alloc ?_ _));refine blk_far ?_ Ag.1 _;(with_reducible repeat (first|refine blk_drewN ?_ _|refine blk_drew ?_|refine blk_alloc ?_ _));refine blk_far ?_ Ag.1 _;(with_reducible repeat (first|refine blk_drewN ?_ _|refine blk_drew ?_|refine blk_alloc ?_ _));exact Ac.1⟩,⟨by (with_reducible repeat (first|refine blk_drewN ?_ _|refine blk_drew ?_|refine blk_alloc ?_ _));refine blk_put (cs:=#[.int .i64 a0,.slice none 0 0]) ?_ 1 _ rfl;(with_reducible repeat (first|refine blk_drewN ?_ _|refine blk_drew ?_|refine blk_alloc ?_ _));refine blk_put (cs:=#[.int .i64 0,.slice none 0 0]) ?_ 0 _ rfl;(with_reducible repeat (first|refine blk_drewN ?_ _|refine blk_drew ?_|refine blk_alloc ?_ _));exact Ad.1⟩,⟨bb_⟩⟩
   case round =>
    clear H';try clear c1
    try clear p2
    try clear c3
    try clear c3b0
    try clear c3b1
    try clear c4
    try clear c4b0
    try clear c4b1
    try clear c8
    try clear c10
    repeat clear Z
    obtain ⟨x13_1,Af,Ae,rfl,HA,HK1,Ab,Ac,Ad,HB⟩:=hrel;cases gk with
    | zero=>exact absurd HA.1 (by simp [Aak.l0])
    | succ k1 =>
     have H:=HA.1;clear HA;simp only [Aak.l0] at H
     by_cases c12 : x13_1 < a0
     ·rw [if_pos c12] at H;have c12b0 : decide (x13_1 < a0) = true:=decide_eq_true c12;clear c12;have H':=A_ H;clear H;go_wp2
      go_loopg [17] k1 (fun kq v17 w'=>∃ (x17_2 : Int) (Aa : List Int) (Ae : Value),v17 = .int .i64 x17_2 ∧ Aside0 (Aak.l1 is kq a0 x13_1 a0 x13_1 a0 x17_2 a0 Aa = some (r1,r2)) ∧ Aside0 (kq ≤ k1) ∧ Aside0 (Kd.R (Kd.int .i64) 3 w' w.heap.size (fun _=>True) Ae Aa) ∧ Aside0 (w'.heap[Aj]? = some (.cells #[.int .i64 0,(.slice none 0 0)] 26 (0,0))) ∧ Aside0 (w'.heap[Ah]? = some (.cells #[.int .i64 a0,Ae] 26 (0,0))) ∧ Aside0 (Below w.heap.size w w'))
      case atStart=>exact ⟨(0),(Af),(Ae),(by first|rfl|(simp;done)|(simp [*];done)),H',⟨Nat.le_refl _⟩,⟨rl_ Ab⟩,⟨bl_ Ac⟩,⟨bl_ Ad⟩,⟨bb_⟩⟩
      case round =>
       clear H';try clear c1
       try clear p2
       try clear c3
       try clear c3b0
       try clear c3b1
       try clear c4
       try clear c4b0
       try clear c4b1
       try clear c8
       try clear c10
       try clear c12
       try clear c12b0
       repeat clear Z
       try clear p2
       obtain ⟨x17_2,Aa,Ae,rfl,HA,HK2,Ab,Ac,Ad,HB⟩:=hrel;cases gk with
       | zero=>exact absurd HA.1 (by simp [Aak.l1])
       | succ k2 =>
        have H:=HA.1;clear HA;simp only [Aak.l1] at H
        by_cases c13 : x17_2 < a0
        ·rw [if_pos c13] at H;have c13b0 : decide (x17_2 < a0) = true:=decide_eq_true c13;clear c13;replace H:=Option.bind_eq_some_iff.mp H;obtain ⟨As,At,H⟩:=H;replace H : (if As = true then (if 0 ≤ x13_1 then (if x13_1 < (Aa.length : Int) then (if 0 ≤ x17_2 then (Aak.l1 is k2 a0 x13_1 a0 x13_1 a0 (wrap64 (x17_2 + 1)) a0 (Aa.set (x13_1 : Int).toNat (Go.bits .or .i64 (rd Aa x13_1) (shl .i64 1 x17_2)))) else (none)) else (none)) else (none)) else (Aak.l1 is k2 a0 x13_1 a0 x13_1 a0 (wrap64 (x17_2 + 1)) a0 Aa)) = some (r1,r2):=H;have A14:=A_ At;clear At;by_cases c15 : As = true
         ·subst c15;have H1 : (if 0 ≤ x13_1 then (if x13_1 < (Aa.length : Int) then (if 0 ≤ x17_2 then (Aak.l1 is k2 a0 x13_1 a0 x13_1 a0 (wrap64 (x17_2 + 1)) a0 (Aa.set (x13_1 : Int).toNat (Go.bits .or .i64 (rd Aa x13_1) (shl .i64 1 x17_2)))) else (none)) else (none)) else (none)) = some (r1,r2):=by rw [if_pos rfl] at H;exact H
          clear H;have H:=H1;clear H1;by_cases c16 : 0 ≤ x13_1
          ·rw [if_pos c16] at H;have c16b0 : decide (0 ≤ x13_1) = true:=decide_eq_true c16;clear c16;by_cases c17 : x13_1 < (Aa.length : Int)
           ·rw [if_pos c17] at H;have c17b0 : decide (x13_1 < (Aa.length : Int)) = true:=decide_eq_true c17;clear c17;by_cases c18 : 0 ≤ x17_2
            ·rw [if_pos c18] at H;have c18b0:=eq_true c18;have c18b1 : decide (0 ≤ x17_2) = true:=decide_eq_true c18;clear c18;obtain ⟨ji19,hji19⟩ : ∃ j_ : Int,(shl .i64 1 x17_2) = j_:=⟨_,rfl⟩;replace H : (Aak.l1 is k2 a0 x13_1 a0 x13_1 a0 (wrap64 (x17_2 + 1)) a0 (Aa.set (x13_1 : Int).toNat (Go.bits .or .i64 (rd Aa x13_1) (ji19)))) = some (r1,r2):=by first|(rw [hji19] at H;exact H)|(simp only [hji19] at H ⊢;exact H)
             (try rw [hji19] at A14);have hji19_ : (IntKind.i64.wrap (1 * 2 ^ min x17_2.toNat 64)) = ji19:=hji19;have hji19z : x17_2 ≤ 64 → (IntKind.i64.wrap (1 * 2 ^ x17_2.toNat)) = ji19:=shl_small hji19;have hji19u : (IntKind.i64.wrap (2 ^ min x17_2.toNat 64)) = ji19:=by have h_:=hji19_;rw [Int.one_mul] at h_;exact h_
             have hji19v : x17_2 ≤ 64 → (IntKind.i64.wrap (2 ^ x17_2.toNat)) = ji19:=fun hle_=>by have h_:=hji19z hle_;rw [Int.one_mul] at h_;exact h_
             have hji19y : (wrap64 (1 * 2 ^ min x17_2.toNat 64)) = ji19:=(i64_w _).symm.trans hji19_;have hji19x : x17_2 ≤ 64 → (wrap64 (1 * 2 ^ x17_2.toNat)) = ji19:=fun h_=>(i64_w _).symm.trans (hji19z h_)
             obtain ⟨Au,Ak⟩ : ∃ y_ : List Int,y_ = (Aa.set (x13_1 : Int).toNat (Go.bits .or .i64 (rd Aa x13_1) (ji19))):=⟨_,rfl⟩;replace H : (Aak.l1 is k2 a0 x13_1 a0 x13_1 a0 (wrap64 (x17_2 + 1)) a0 Au) = some (r1,r2):=by first|(rw [Ak];with_reducible exact H)|(have H2_:=(Option.bind_some _ _).symm.trans H;rw [Ak];with_reducible exact H2_)|(have H2_:=(Option.bind_some _ _).symm.trans H;with_reducible exact H2_)|with_reducible exact H|(rw [Ak];exact H)|exact H
             have Av:=A_ Ak;clear Ak;have H':=A_ H;clear H;try go_wp2_with (first|(go_at_fn C;(refine (HC.1 _ x13_1 x17_2 true ?sideB A14.1).mono ?_);(case sideB=>repeat (first|(with_reducible first|exact HB.1|apply below_alloc|apply pw_below_drewN|apply below_drew1|refine below_set ?_ (Aside0.out (by assumption)))|exact HB.1));rintro e w21 ⟨rfl,hb⟩;replace Ab:=rb_ Ab hb;replace Ac:=bz Ac hb;replace Ad:=bz Ad hb;replace HB:=A_ (below_step bb_ hb);(try clear hb);(try clear hb2);(try clear hk);(try clear hi)))
             replace Ab:=A_ (Kd.R_drew Ab.1);replace Ac:=A_ (blk_drew Ac.1);replace Ad:=A_ (blk_drew Ad.1);replace HB:=A_ (below_drew1 HB.1);obtain ⟨Ao23,co23,eo23⟩:=Kd.R_slice Ab.1;(first|subst eo23|(injection eo23 with f1_ f2_ f3_;have f4_:=f1_.symm;have f5_:=f3_.symm;clear f1_ f2_ f3_;subst f4_;subst f5_))
             have Ap : 0 ≤ (x13_1 : Int):=of_decide_eq_true (by first|(with_reducible assumption)|assumption);have Aq : x13_1 < (Aa.length : Int):=of_decide_eq_true (by first|(with_reducible assumption)|assumption);obtain ⟨Bb,Aw,Al⟩:=Kd.at_int (Kd.R_reads' Ab.1).2.2 x13_1 Ap Aq;cases Aw
             replace Ap:=eq_true Ap;replace Aq:=eq_true Aq;have p20 : 0 ≤ (x13_1 : Int):=of_decide_eq_true (by first|(with_reducible assumption)|assumption);have q20 : (x13_1 : Int) < ((Aa.length : Int) : Int):=of_decide_eq_true (by first|(with_reducible assumption)|assumption);obtain ⟨go20,co20,eo20,gb20,gl20,cl20,HG20⟩:=Kd.R_form Ab.1 (by omega);(first|cases eo20|(injection eo20 with ea_ en_ ec_;(first|subst ea_|(injection ea_ with ea_;subst ea_));subst ec_;clear en_))
             have GB20:=A_ gb20;have GG20:=A_ HG20;clear gb20 gl20 HG20;(first|simp only [add_plain] at Al|skip)
             obtain ⟨hx20_0,hf20_0⟩:=Kd.R_celln 0 Ab.1 (x13_1 : Int) p20 q20;replace p20:=eq_true p20;replace q20:=eq_true q20;have HP24:=Kd.R_putn Ab.1 (x13_1 : Int) (Go.bits .or .i64 (rd Aa x13_1) (ji19));rw [← Av.1] at HP24;have HQ24:=A_ HP24;clear HP24;refine start_ (n:=10) (S:=fun w'=>w'.cell? ⟨Ah,0,none⟩ = some (.int .i64 a0) ∧ w'.cell? ⟨Ah,1,none⟩ = some (.slice (some ⟨go20,0,none⟩) Aa.length co23) ∧ w'.cell? ⟨go20,(x13_1).toNat,none⟩ = some (.int .i64 (rd Aa x13_1))) (ds:=[9]) #[F,F,F,F,F,F,F,F,F,F] (by kernel_rfl) rfl rfl ⟨blk_cell Ad.1 0,blk_cell Ad.1 1,Al⟩ (fun hHeld=>?_);refine with_tabW Aak.tab9 Aak.bits9 (fun HT_ HW_=>?_)
             generalize w21.drew = w22 at Ab Ac Ad HB GG20 HQ24 hf20_0 hx20_0 Al hHeld ⊢
             refine pu_ (i:=0) (N:=24) #[T,F,F,F,F,F,F,F,F,F] HT_.1 rfl rfl (fun _ _ _ h=>h) rfl (h:=?_)
             refine pu_ (i:=2) (N:=26) #[T,F,T,F,F,F,F,F,F,F] HT_.1 rfl rfl (fun _ _ _ h=>h) rfl (h:=?_)
             refine pu_ (i:=5) (N:=29) #[T,F,T,F,F,T,F,F,F,F] HT_.1 rfl rfl (fun _ _ _ h=>h) rfl (h:=?_)
             refine pu_ (i:=6) (N:=30) #[T,F,T,F,F,T,T,F,F,F] HT_.1 rfl rfl (fun _ _ _ h=>h) rfl (h:=?_)
             refine take_ (i:=1) (N:=some 25) (v:=?_) (a':=?_) #[T,T,T,F,F,T,T,F,F,F] rfl rfl (take_ofW HT_.1 HW_.1 (by kernel_rfl)) (fun _ _ _ h=>h) (Or.inl ⟨by rfl,?_⟩) hHeld ?_ ?_
             rotate_left
             ·rintro w' ⟨s0,s1,s2⟩
              go_simp
              with_reducible rfl
             rotate_left;·simp only [Act.put,L_,M_,N_,i64_w,i32_w];rfl
             refine pu_ (i:=3) (N:=27) #[T,T,T,T,F,T,T,F,F,F] HT_.1 rfl rfl (fun _ _ _ h=>h) rfl (h:=?_)
             refine take_ (i:=4) (N:=some 28) (v:=?_) (a':=?_) #[T,T,T,T,T,T,T,F,F,F] rfl rfl (take_ofW HT_.1 HW_.1 (by kernel_rfl)) (fun _ _ _ h=>h) (Or.inl ⟨by rfl,?_⟩) hHeld ?_ ?_
             rotate_left
             ·rintro w' ⟨s0,s1,s2⟩
              go_simp
              with_reducible rfl
             rotate_left;·simp only [Act.put,L_,M_,N_,i64_w,i32_w];rfl
             refine pu_ (i:=7) (N:=31) #[T,T,T,T,T,T,T,T,F,F] HT_.1 rfl rfl (fun _ _ _ h=>h) rfl (h:=?_)
             refine pu_ (i:=8) (N:=32) #[T,T,T,T,T,T,T,T,T,F] HT_.1 rfl rfl (fun _ _ _ h=>h) rfl (h:=?_)
             refine last_ (i:=9) (N:=none) #[T,T,T,T,T,T,T,T,T,T] rfl rfl (one_of HT_.1 (by kernel_rfl)) (by decide) (fun K hK=>?_)
             refine skip_ (w1:=?_) (by rfl) rfl ?_ ?_
             rotate_left
             ·go_simp
              rfl
             refine hK.out _ _ ?_
             clear hK K;refine done_ (done_of HT_.1 (by kernel_rfl)) ?_
             try go_wp2
             go_roundg k2
             case measure=>have:=HK1.1;have:=HK2.1;omega
             case rel=>exact ⟨(wrap64 (x17_2 + 1)),(Au),(.slice (some ⟨go20,0,none⟩) Aa.length co23),(by first|rfl|(simp;done)|(simp [*];done)),H',⟨by have:=HK1.1;have:=HK2.1;omega⟩,⟨rl_ HQ24⟩,⟨by (with_reducible repeat (first|refine blk_drewN ?_ _|refine blk_drew ?_|refine blk_alloc ?_ _));refine blk_far ?_ (by have h_:=Kd.R_ne Ab.1 Ac.1 (by decide);intro e_;exact h_ (by rw [e_];rfl)) _;(with_reducible repeat (first|refine blk_drewN ?_ _|refine blk_drew ?_|refine blk_alloc ?_ _));exact Ac.1⟩,⟨by (with_reducible repeat (first|refine blk_drewN ?_ _|refine blk_drew ?_|refine blk_alloc ?_ _));refine blk_far ?_ (by have h_:=Kd.R_ne Ab.1 Ad.1 (by decide);intro e_;exact h_ (by rw [e_];rfl)) _;(with_reducible repeat (first|refine blk_drewN ?_ _|refine blk_drew ?_|refine blk_alloc ?_ _));exact Ad.1⟩,⟨by repeat (first|(with_reducible first|exact HB.1|apply below_alloc|apply pw_below_drewN|apply below_drew1|refine below_set ?_ GB20.1|refine below_set ?_ (Aside0.out (by assumption)))|exact HB.1)⟩⟩
            ·rw [if_neg c18] at H;exact absurd H (by simp)
           ·rw [if_neg c17] at H;exact absurd H (by simp)
          ·rw [if_neg c16] at H;exact absurd H (by simp)
         ·replace c15:=Bool.eq_false_iff.mpr c15;subst c15;have H1 : (Aak.l1 is k2 a0 x13_1 a0 x13_1 a0 (wrap64 (x17_2 + 1)) a0 Aa) = some (r1,r2):=by rw [if_neg (show ¬ (false = true) by decide)] at H;exact H
          clear H;have H:=H1;clear H1;have H':=A_ H;clear H;go_wp2_with (first|(go_at_fn C;(refine (HC.1 _ x13_1 x17_2 false ?sideB A14.1).mono ?_);(case sideB=>repeat (first|(with_reducible first|exact HB.1|apply below_alloc|apply pw_below_drewN|apply below_drew1|refine below_set ?_ (Aside0.out (by assumption)))|exact HB.1));rintro e w25 ⟨rfl,hb⟩;replace Ab:=rb_ Ab hb;replace Ac:=bz Ac hb;replace Ad:=bz Ad hb;replace HB:=A_ (below_step bb_ hb);(try clear hb);(try clear hb2);(try clear hk);(try clear hi)))
          go_roundg k2
          case measure=>have:=HK1.1;have:=HK2.1;omega
          case rel=>exact ⟨(wrap64 (x17_2 + 1)),(Aa),(Ae),(by first|rfl|(simp;done)|(simp [*];done)),H',⟨by have:=HK1.1;have:=HK2.1;omega⟩,⟨rl_ Ab⟩,⟨bl_ Ac⟩,⟨bl_ Ad⟩,⟨bb_⟩⟩
        ·rw [if_neg c13] at H;have c13b0 : decide (x17_2 < a0) = false:=decide_eq_false c13;clear c13;have H':=A_ H;clear H;go_wp2
         go_roundg k2
         case measure=>have:=HK1.1;have:=HK2.1;omega
         case rel=>exact ⟨(wrap64 (x13_1 + 1)),(Aa),(Ae),(by first|rfl|(simp;done)|(simp [*];done)),H',⟨by have:=HK1.1;have:=HK2.1;omega⟩,⟨rl_ Ab⟩,⟨bl_ Ac⟩,⟨bl_ Ad⟩,⟨bb_⟩⟩
     ·rw [if_neg c12] at H;have c12b0 : decide (x13_1 < a0) = false:=decide_eq_false c12;clear c12;simp only [Option.some.injEq,Prod.mk.injEq] at H
      obtain ⟨rfl,rfl⟩:=H;have Z:=Am.1;have Z:=Ag.1;obtain ⟨Z,Z,Z,Z⟩:=o2_ Ad.1;obtain ⟨Z,Z,Z,Z⟩:=o2_ Ac.1;obtain ⟨Ao29,co29,eo29⟩:=Kd.R_slice Ab.1;subst eo29;go_wp2
      refine bodyPost_ret (results_cell_row rfl _ _ Aj 26 #[.int .i64 a0,.slice Ao29 Af.length co29] (0,0) _ rfl (by (with_reducible repeat (first|refine blk_drewN ?_ _|refine blk_drew ?_|refine blk_alloc ?_ _));refine blk_put (cs:=#[.int .i64 a0,.slice none 0 0]) ?_ 1 _ rfl;(with_reducible repeat (first|refine blk_drewN ?_ _|refine blk_drew ?_|refine blk_alloc ?_ _));refine blk_put (cs:=#[.int .i64 0,.slice none 0 0]) ?_ 0 _ rfl;(with_reducible repeat (first|refine blk_drewN ?_ _|refine blk_drew ?_|refine blk_alloc ?_ _));exact Ac.1) Tryd.underlying26 rfl (by kernel_rfl)) rfl ?_
      exact ⟨_,by first|rfl|(simp [errW_none,errW_some] <;> rfl)|(simp [*,errW_none,errW_some] <;> rfl),rq_ (Kd.R_mono (Kd.R_far (p:=⟨Aj,1,none⟩) (Kd.R_far (p:=⟨Aj,0,none⟩) (Kd.R_types Ab.1 Ac.1 (by decide)) (fun _ hk=>hk.2) (.int .i64 a0)) (fun _ hk=>hk.2) (.slice Ao29 Af.length co29)) (fun _ hk=>trivial)),bb_⟩
  ·rw [if_neg c4] at H;exact absurd H (by simp)
 ·rw [if_neg c3] at H;exact absurd H (by simp)
def Abm.f (a0 : Int) (a1 : Int) (a2_0 : Int) (l2_1 : List Int) : Option (Bool) := (Aaj.f a2_0 l2_1 a1 a0).bind fun t298 => (some t298)
set_option maxHeartbeats 8000000 in
set_option maxRecDepth 100000 in
theorem Abm.calls (a0 : Int) (a1 : Int) (g2_ : Nat) (a2_0 : Int) (A2_1 : Option Addr) (c2_1 : Nat) (l2_1 : List Int) (r : Bool) (w : World) (hb2 : w.heap[g2_]? = some (.cells #[.int .i64 a2_0,.slice A2_1 l2_1.length c2_1] 26 (0,0))) (hr2_1 : Kd.C (Kd.int .i64) w A2_1 l2_1.length l2_1) (hc2_1 : l2_1.length ≤ c2_1) (h : Abm.f a0 a1 a2_0 l2_1 = some r) :
 Calls Tryd.prog 118 #[.int .i64 a0,.int .i64 a1,.pointer (some ⟨g2_,0,none⟩)] w fun e w'=>e = .returned (.bool r) ∧ Below w.heap.size w w':=by
 have hu26:=Tryd.underlying26;have HR2_1:=A_ hr2_1;have HC2_1:=A_ hc2_1;clear hr2_1 hc2_1;have Aa:=A_ hb2;clear hb2;have HB:=A_ (Below.refl w.heap.size w);have H : ((Aaj.f a2_0 l2_1 a1 a0).bind fun Ab=>(some Ab)) = some r:=h;clear h;replace H:=Option.bind_eq_some_iff.mp H;obtain ⟨Ab,A40,H⟩:=H;(try dsimp only at H);have A4:=A_ A40;clear A40;obtain rfl:=Option.some.inj H;obtain ⟨Z,Z,Z,Z⟩:=o2_ Aa.1;go_enter Tryd.func118,Tryd.ntmps118
 go_wp2_with (first|((with_reducible refine gate_callee (f:=69) rfl ?_);refine goesL_ (some 9) rfl rfl Tryd.func69 (by kernel_rfl) rfl #[.agg #[.int .i64 a2_0,.slice A2_1 l2_1.length c2_1],.int .i64 a1,.int .i64 a0] rfl au_ ?_;(with_reducible refine (Aaj.calls a2_0 _ _ l2_1 a1 a0 Ab _ ?side1 ?side2 A4.1).mono ?_);(case side1=>repeat (first|exact HR2_1.1|(with_reducible refine Kd.C_alloc ?_ _)|(with_reducible refine Kd.C_drewN ?_ _)|(with_reducible refine Kd.C_drew ?_)));(case side2=>exact HC2_1.1);rintro e w6 ⟨rfl,hb⟩;refine ⟨_,rfl,?_⟩;replace Aa:=bz Aa hb;replace HB:=A_ (below_step bb_ hb);(try clear hb);(try clear hb2);(try clear hk);(try clear hi)))
 go_ret
 exact ⟨by first|rfl|(simp [errW_none,errW_some] <;> rfl)|(simp [*,errW_none,errW_some] <;> rfl),bb_⟩
def Abq.f (k : Nat) (a0_0 : Int) (l0_1 : List Int) : Option (Int × List Int) := (Aak.f k a0_0 (fun x0_ x1_ => Abm.f x0_ x1_ a0_0 l0_1)).bind fun bt301 => (some (bt301.1, bt301.2))
set_option maxHeartbeats 8000000 in
set_option maxRecDepth 100000 in
theorem Abq.calls (k : Nat) (a0_0 : Int) (A0_1 : Option Addr) (c0_1 : Nat) (l0_1 : List Int) (r1 : Int) (r2 : List Int) (w : World) (hr0_1 : Kd.C (Kd.int .i64) w A0_1 l0_1.length l0_1) (hc0_1 : l0_1.length ≤ c0_1) (h : Abq.f k a0_0 l0_1 = some (r1,r2)) :
 Calls Tryd.prog 68 #[.agg #[.int .i64 a0_0,.slice A0_1 l0_1.length c0_1]] w fun e w'=>∃ v1_ : Value,e = .returned (.agg #[.int .i64 r1,v1_]) ∧ Kd.R (Kd.int .i64) 3 w' w.heap.size (fun _=>True) v1_ r2 ∧ Below w.heap.size w w':=by
 have hu26:=Tryd.underlying26;have HR0_1:=A_ hr0_1;have HC0_1:=A_ hc0_1;clear hr0_1 hc0_1;have HB:=A_ (Below.refl w.heap.size w);have H : ((Aak.f k a0_0 (fun x0_ x1_=>Abm.f x0_ x1_ a0_0 l0_1)).bind fun Ai=>(some (Ai.1,Ai.2))) = some (r1,r2):=h;clear h;replace H:=Option.bind_eq_some_iff.mp H;obtain ⟨⟨Ac,Ad⟩,A20,H⟩:=H;replace H : (some (Ac,Ad)) = some (r1,r2):=H;have A2:=A_ A20;clear A20;simp only [Option.some.injEq,Prod.mk.injEq] at H
 obtain ⟨rfl,rfl⟩:=H;go_enter Tryd.func68,Tryd.ntmps68
 go_wp2_with (first|((with_reducible refine gate_dst (N:=1) rfl ?_);refine box_event ?hg (N:=1) ?hd (cs:=#[.int .i64 a0_0,.slice A0_1 l0_1.length c0_1]) (t:=26) ?hr ?_;(case hd=>rfl);(case hg=>rfl);(case hr=>go_simp;try rfl);intro Ae hg w3 hbox hb;have Aa:=A_ (hbox);have Ak:=A_ (gw_ (w:=w) hg bb_);have Al:=A_ (gw_ (w:=w) hg bb_);replace HB:=A_ (below_step bb_ hb);clear hb hbox hg)|((with_reducible refine gate_dst (N:=2) rfl ?_);refine box_event ?hg (N:=2) ?hd (cs:=#[.int .i64 0,.slice none 0 0]) (t:=26) ?hr ?_;(case hd=>rfl);(case hg=>rfl);(case hr=>go_simp;try rfl);intro Af hg w4 hbox hb;have Ab:=A_ (hbox);have Am:=A_ (gw_ (w:=w) hg bb_);have An:=A_ (gw_ (w:=w) hg bb_);replace HB:=A_ (below_step bb_ hb);have Ag:=A_ (nl_ hg Aa);have Ah:=A_ (ng_ hg Aa);replace Aa:=bz Aa hb;clear hb hbox hg;have Z:=Ag.1;have Z:=Ah.1;obtain ⟨Z,Z,Z,Z⟩:=o2_ Aa.1)|((with_reducible refine gate_callee (f:=66) rfl ?_);refine goesL_ (some 6) rfl rfl Tryd.func66 (by kernel_rfl) rfl #[.int .i64 a0_0,.func (.func 118) #[] #[.pointer (some ⟨Ae,0,none⟩)]] rfl au_ ?_;(with_reducible refine (Aak.calls k a0_0 (fun x0_ x1_=>Abm.f x0_ x1_ a0_0 l0_1) Ac Ad _ _ _ ?side1 ?side2 A2.1).mono ?_);(case side1=>exact fun a_ w_=>enters_of Tryd.func118 (by kernel_rfl) rfl a_ w_);(case side2=>(intro W_ x0_ x1_ r_ hB_ h_;refine Calls.mono (Abm.calls x0_ x1_ Ae a0_0 _ _ l0_1 r_ W_ (blk_below (g:=Ae) (o:=.cells #[.int .i64 a0_0,.slice A0_1 l0_1.length c0_1] 26 (0,0)) (bl_ Aa) hB_) (Kd.C_below (by exact cl_ (Kd.C_below HR0_1.1 HB.1)) hB_) (by exact HC0_1.1) h_) ?_;rintro e_ w_ ⟨h1_,h2_⟩;exact ⟨h1_,h2_⟩));rintro e w7 ⟨Ao,rfl,ho0,hb⟩;refine ⟨_,rfl,?_⟩;have Aj:=A_ (Kd.R_lower ho0 (below_size bb_));replace Aa:=bz Aa hb;replace Ab:=bz Ab hb;replace HB:=A_ (below_step bb_ hb);(try clear hb);(try clear hb2);(try clear hk);(try clear hi);(try clear ho0);obtain ⟨Z,Z,Z,Z⟩:=o2_ Ab.1;obtain ⟨Ao9,co9,eo9⟩:=Kd.R_slice Aj.1;subst eo9))
 refine bodyPost_ret (results_cell_row rfl _ _ Af 26 #[.int .i64 Ac,.slice Ao9 Ad.length co9] (0,0) _ rfl (by (with_reducible repeat (first|refine blk_drewN ?_ _|refine blk_drew ?_|refine blk_alloc ?_ _));refine blk_put (cs:=#[.int .i64 Ac,.slice none 0 0]) ?_ 1 _ rfl;(with_reducible repeat (first|refine blk_drewN ?_ _|refine blk_drew ?_|refine blk_alloc ?_ _));refine blk_put (cs:=#[.int .i64 0,.slice none 0 0]) ?_ 0 _ rfl;(with_reducible repeat (first|refine blk_drewN ?_ _|refine blk_drew ?_|refine blk_alloc ?_ _));exact Ab.1) Tryd.underlying26 rfl (by kernel_rfl)) rfl ?_
 exact ⟨_,by first|rfl|(simp [errW_none,errW_some] <;> rfl)|(simp [*,errW_none,errW_some] <;> rfl),rq_ (Kd.R_mono (Kd.R_far (p:=⟨Af,1,none⟩) (Kd.R_far (p:=⟨Af,0,none⟩) (Kd.R_types Aj.1 Ab.1 (by decide)) (fun _ hk=>hk.2) (.int .i64 Ac)) (fun _ hk=>hk.2) (.slice Ao9 Ad.length co9)) (fun _ hk=>trivial)),bb_⟩
def Ab2.f (a0_0 : Int) (l0_1 : List Int) : Option (Int) := if 0 ≤ a0_0 then (some (wrap64 ((shl .i64 1 a0_0) - 1))) else (none)
set_option maxHeartbeats 8000000 in
set_option maxRecDepth 100000 in
theorem Ab2.calls (a0_0 : Int) (A0_1 : Option Addr) (c0_1 : Nat) (l0_1 : List Int) (r : Int) (w : World) (hr0_1 : Kd.C (Kd.int .i64) w A0_1 l0_1.length l0_1) (hc0_1 : l0_1.length ≤ c0_1) (h : Ab2.f a0_0 l0_1 = some r) :
 Calls Tryd.prog 136 #[.agg #[.int .i64 a0_0,.slice A0_1 l0_1.length c0_1]] w fun e w'=>e = .returned (.int .i64 r) ∧ Below w.heap.size w w':=by
 have hu26:=Tryd.underlying26;have HR0_1:=A_ hr0_1;have HC0_1:=A_ hc0_1;clear hr0_1 hc0_1;have HB:=A_ (Below.refl w.heap.size w);have H : (if 0 ≤ a0_0 then (some (wrap64 ((shl .i64 1 a0_0) - 1))) else (none)) = some r:=h;clear h;by_cases c2 : 0 ≤ a0_0
 ·rw [if_pos c2] at H;have c2b0:=eq_true c2;have c2b1 : decide (0 ≤ a0_0) = true:=decide_eq_true c2;clear c2;obtain ⟨ji3,hji3⟩ : ∃ j_ : Int,(shl .i64 1 a0_0) = j_:=⟨_,rfl⟩;replace H : (some (wrap64 ((ji3) - 1))) = some r:=by first|(rw [hji3] at H;exact H)|(simp only [hji3] at H ⊢;exact H)
  have hji3_ : (IntKind.i64.wrap (1 * 2 ^ min a0_0.toNat 64)) = ji3:=hji3;have hji3z : a0_0 ≤ 64 → (IntKind.i64.wrap (1 * 2 ^ a0_0.toNat)) = ji3:=shl_small hji3;have hji3u : (IntKind.i64.wrap (2 ^ min a0_0.toNat 64)) = ji3:=by have h_:=hji3_;rw [Int.one_mul] at h_;exact h_
  have hji3v : a0_0 ≤ 64 → (IntKind.i64.wrap (2 ^ a0_0.toNat)) = ji3:=fun hle_=>by have h_:=hji3z hle_;rw [Int.one_mul] at h_;exact h_
  have hji3y : (wrap64 (1 * 2 ^ min a0_0.toNat 64)) = ji3:=(i64_w _).symm.trans hji3_;have hji3x : a0_0 ≤ 64 → (wrap64 (1 * 2 ^ a0_0.toNat)) = ji3:=fun h_=>(i64_w _).symm.trans (hji3z h_)
  obtain rfl:=Option.some.inj H;go_enter Tryd.func136,Tryd.ntmps136
  go_wp2_with (first|((with_reducible refine gate_dst (N:=1) rfl ?_);refine box_event ?hg (N:=1) ?hd (cs:=#[.int .i64 a0_0,.slice A0_1 l0_1.length c0_1]) (t:=26) ?hr ?_;(case hd=>rfl);(case hg=>rfl);(case hr=>go_simp;try rfl);intro Ab hg w4 hbox hb;have Aa:=A_ (hbox);have Ac:=A_ (gw_ (w:=w) hg bb_);have Ad:=A_ (gw_ (w:=w) hg bb_);replace HB:=A_ (below_step bb_ hb);clear hb hbox hg;obtain ⟨hcz5_0,hcz5_1,hfz5_0,hfz5_1⟩:=o2_ Aa.1))
  go_ret
  exact ⟨by first|rfl|(simp [errW_none,errW_some] <;> rfl)|(simp only [← hji3];first|rfl|(simp [errW_none,errW_some] <;> rfl))|(simp [*,errW_none,errW_some] <;> rfl),bb_⟩
 ·rw [if_neg c2] at H;exact absurd H (by simp)
def Aai.l0 : Nat → List Int → Int → Int → Int → List Int → Int → List Int → Option (List Int)
 | 0,_,_,_,_,_,_,_=>none
 | k + 1,x3,x10,x11,x853000,x853001,x861000,x861001=>if x11 < x10 then ((Ab2.f x853000 x853001).bind fun t861=>(if 0 ≤ x11 then (if x11 < (x853001.length : Int) then (if x11 < (x861001.length : Int) then (if x3.length < 17592186044416 then (Aai.l0 k (x3 ++ [Go.bits .andNot .i64 (Go.bits .andNot .i64 (Go.bits .andNot .i64 t861 (rd x853001 x11)) (rd x861001 x11)) (shl .i64 1 x11)]) x10 (wrap64 (x11 + 1)) x853000 x853001 x861000 x861001) else (none)) else (none)) else (none)) else (none))) else (some x3)
def Aai.f (k : Nat) (a0_0 : Int) (l0_1 : List Int) : Option (List Int) := (Abq.f k a0_0 l0_1).bind fun bt856 => (Aai.l0 k (([] : List Int)) a0_0 0 a0_0 l0_1 bt856.1 bt856.2)
def Aai.T5 : Bool × List (List Nat × List Nat) := (true, [([], []), ([], []), ([1], [1]), ([], []), ([3], [3]), ([], []), ([4, 5], [4, 5]), ([6], [6]), ([2, 7], [2, 7]), ([], []), ([9], [9]), ([], []), ([10, 11], [10, 11]), ([12], [12]), ([8, 13], [8, 13]), ([], []), ([15], [15]), ([14, 16], [14, 16]), ([17], [17]), ([0, 18, 2], [0, 18]), ([19, 19, 0, 1, 2, 3, 4, 5, 6, 7, 8, 9, 10, 11, 12, 13, 14, 15, 16, 17, 18, 19], [0, 19])])
def Aai.B5 : List Nat := [0, 0, 2, 0, 8, 0, 56, 120, 254, 0, 512, 0, 3584, 7680, 16382, 0, 32768, 131070, 262142, 524287, 1048575]
theorem Aai.tab5 : rtab .any (opsOf Tryd.f95 5) = Aai.T5:=by kernel_rfl
theorem Aai.bits5 : waitsOk Aai.T5.2 Aai.B5 = true:=by kernel_rfl
set_option maxHeartbeats 8000000 in
set_option maxRecDepth 100000 in
theorem Aai.calls (k : Nat) (a0_0 : Int) (A0_1 : Option Addr) (c0_1 : Nat) (l0_1 : List Int) (r : List Int) (w : World) (hr0_1 : Kd.C (Kd.int .i64) w A0_1 l0_1.length l0_1) (hc0_1 : l0_1.length ≤ c0_1) (h : Aai.f k a0_0 l0_1 = some r) :
 Calls Tryd.prog 95 #[.agg #[.int .i64 a0_0,.slice A0_1 l0_1.length c0_1]] w fun e w'=>∃ v0_ : Value,e = .returned (v0_) ∧ Kd.R (Kd.int .i64) 3 w' w.heap.size (fun _=>True) v0_ r ∧ Below w.heap.size w w':=by
 have hu26:=Tryd.underlying26;have HR0_1:=A_ hr0_1;have HC0_1:=A_ hc0_1;clear hr0_1 hc0_1;have HB:=A_ (Below.refl w.heap.size w);have H : ((Abq.f k a0_0 l0_1).bind fun Ak=>(Aai.l0 k (([] : List Int)) a0_0 0 a0_0 l0_1 Ak.1 Ak.2)) = some r:=h;clear h;obtain ⟨Az,Al⟩ : ∃ y_ : List Int,y_ = (([] : List Int)):=⟨_,rfl⟩;replace H : ((Abq.f k a0_0 l0_1).bind fun Ak=>(Aai.l0 k Az a0_0 0 a0_0 l0_1 Ak.1 Ak.2)) = some r:=by first|(rw [Al];with_reducible exact H)|(have H2_:=(Option.bind_some _ _).symm.trans H;rw [Al];with_reducible exact H2_)|(have H2_:=(Option.bind_some _ _).symm.trans H;with_reducible exact H2_)|with_reducible exact H|(rw [Al];exact H)|exact H
 have Ay:=A_ Al;clear Al;replace H:=Option.bind_eq_some_iff.mp H;obtain ⟨⟨Af,Ad⟩,A20,H⟩:=H;(try dsimp only at H);have A2:=A_ A20;clear A20;have H':=A_ H;clear H;go_enter Tryd.func95,Tryd.ntmps95
 go_wp2_with (first|((with_reducible refine gate_dst (N:=1) rfl ?_);refine box_event ?hg (N:=1) ?hd (cs:=#[.int .i64 a0_0,.slice A0_1 l0_1.length c0_1]) (t:=26) ?hr ?_;(case hd=>rfl);(case hg=>rfl);(case hr=>go_simp;try rfl);intro An hg w3 hbox hb;have Aa:=A_ (hbox);have Bg:=A_ (gw_ (w:=w) hg bb_);have Bh:=A_ (gw_ (w:=w) hg bb_);replace HB:=A_ (below_step bb_ hb);clear hb hbox hg)|((with_reducible refine gate_dst (N:=6) rfl ?_);refine Kd.R_lit (Kd.int .i64) _ 3 ?hg (N:=6) ?hd (xs:=([] : List Int)) (inner:=[]) (ok:=fun _=>True) (okp:=fun _=>True) ?hr ?hp (fun _ hk=>hk) trivial (Below.refl _ _) (Nat.le_refl _) (by simp) ?_;(case hd=>rfl);(case hg=>rfl);(case hr=>go_simp;try rfl);(case hp=>exact (Reps.none _ _));intro Bk w4 ho5 hb hg_ hnew_;clear hg_ hnew_;(first|rw [← Ay.1] at ho5|(simp only [Int.reduceToNat] at ho5;rw [← Ay.1] at ho5));have Ai:=A_ (Kd.R_lower ho5 (below_size bb_));replace Aa:=bz Aa hb;replace HB:=A_ (below_step bb_ hb);clear hb ho5;obtain ⟨Z,Z,Z,Z⟩:=o2_ Aa.1)|((with_reducible refine gate_callee (f:=68) rfl ?_);refine goesL_ (some 8) rfl rfl Tryd.func68 (by kernel_rfl) rfl #[.agg #[.int .i64 a0_0,.slice A0_1 l0_1.length c0_1]] rfl au_ ?_;(with_reducible refine (Abq.calls k a0_0 _ _ l0_1 Af Ad _ ?side1 ?side2 A2.1).mono ?_);(case side1=>exact cl_ (Kd.C_below HR0_1.1 HB.1));(case side2=>exact HC0_1.1);rintro e w7 ⟨Bl,rfl,ho0,hb⟩;refine ⟨_,rfl,?_⟩;have Ao:=A_ (Kd.R_lower (Kd.R_new' ho0 (Kd.R_lt (rl_ Ai))) (below_size bb_));replace Ai:=A_ (Kd.R_elder' (rl_ Ai) (Kd.R_base ho0) hb);replace Aa:=bz Aa hb;replace HB:=A_ (below_step bb_ hb);(try clear hb);(try clear hb2);(try clear hk);(try clear hi);(try clear ho0))|((with_reducible refine gate_dst (N:=4) rfl ?_);refine box_event ?hg (N:=4) ?hd (cs:=#[.int .i64 0,.slice none 0 0]) (t:=26) ?hr ?_;(case hd=>rfl);(case hg=>rfl);(case hr=>go_simp;try rfl);intro Ae hg w8 hbox hb;replace Ai:=rb_ Ai hb;replace Ao:=rb_ Ao hb;have Ac:=A_ (hbox);have Bi:=A_ (gw_ (w:=w) hg bb_);have Bj:=A_ (gw_ (w:=w) hg bb_);replace HB:=A_ (below_step bb_ hb);have Ah:=A_ (nl_ hg Aa);have At:=A_ (ng_ hg Aa);replace Aa:=bz Aa hb;clear hb hbox hg;have Z:=At.1;have Z:=Ah.1;obtain ⟨Z,Z,Z,Z⟩:=o2_ Ac.1;obtain ⟨Ao11,co11,eo11⟩:=Kd.R_slice Ao.1;subst eo11;obtain ⟨Z,Z,Z,Z⟩:=o2_ Aa.1))
 go_loopg [3,11] k (fun kq v3 v11 w'=>∃ (x3_1 : List Int) (x11_1 : Int),v11 = .int .i64 x11_1 ∧ Aside0 (Aai.l0 kq x3_1 a0_0 x11_1 a0_0 l0_1 Af Ad = some r) ∧ Aside0 (kq ≤ k) ∧ Aside0 (Kd.R (Kd.int .i64) 3 w' w.heap.size (fun k_=>some k_ ≠ ((.slice Ao11 Ad.length co11) : Value).ownBlock) v3 x3_1) ∧ Aside0 (Kd.R (Kd.int .i64) 3 w' w.heap.size (fun k_=>some k_ ≠ (v3 : Value).ownBlock) (.slice Ao11 Ad.length co11) Ad) ∧ Aside0 (w'.heap[An]? = some (.cells #[.int .i64 a0_0,(.slice A0_1 l0_1.length c0_1)] 26 (0,0))) ∧ Aside0 (w'.heap[Ae]? = some (.cells #[.int .i64 Af,(.slice Ao11 Ad.length co11)] 26 (0,0))) ∧ Aside0 (Below w.heap.size w w'))
 case atStart=>exact ⟨(Az),(0),(by first|rfl|(simp;done)|(simp [*];done)),H',⟨Nat.le_refl _⟩,⟨rq_ (Kd.R_mono (Kd.R_far (p:=⟨Ae,1,none⟩) (Kd.R_far (p:=⟨Ae,0,none⟩) (Kd.R_types Ai.1 Ac.1 (by decide)) (fun _ hk=>hk.2) (.int .i64 Af)) (fun _ hk=>hk.2) (.slice Ao11 Ad.length co11)) (fun _ hk=>hk.1.2))⟩,⟨rq_ (Kd.R_mono (Kd.R_far (p:=⟨Ae,1,none⟩) (Kd.R_far (p:=⟨Ae,0,none⟩) (Kd.R_types Ao.1 Ac.1 (by decide)) (fun _ hk=>hk.2) (.int .i64 Af)) (fun _ hk=>hk.2) (.slice Ao11 Ad.length co11)) (fun _ hk=>hk.1.2))⟩,⟨by (with_reducible repeat (first|refine blk_drewN ?_ _|refine blk_drew ?_|refine blk_alloc ?_ _));refine blk_far ?_ Ah.1 _;(with_reducible repeat (first|refine blk_drewN ?_ _|refine blk_drew ?_|refine blk_alloc ?_ _));refine blk_far ?_ Ah.1 _;(with_reducible repeat (first|refine blk_drewN ?_ _|refine blk_drew ?_|refine blk_alloc ?_ _));exact Aa.1⟩,⟨by (with_reducible repeat (first|refine blk_drewN ?_ _|refine blk_drew ?_|refine blk_alloc ?_ _));refine blk_put (cs:=#[.int .i64 Af,.slice none 0 0]) ?_ 1 _ rfl;(with_reducible repeat (first|refine blk_drewN ?_ _|refine blk_drew ?_|refine blk_alloc ?_ _));refine blk_put (cs:=#[.int .i64 0,.slice none 0 0]) ?_ 0 _ rfl;(with_reducible repeat (first|refine blk_drewN ?_ _|refine blk_drew ?_|refine blk_alloc ?_ _));exact Ac.1⟩,⟨bb_⟩⟩
 case round =>
  clear H';try clear p2
  try clear c6
  try clear c9
  repeat clear Z
  obtain ⟨x3_1,x11_1,rfl,HA,HK1,HO_3,Ab,Aa,Ac,HB⟩:=hrel;cases gk with
  | zero => exact absurd HA.1 (by simp [Aai.l0])
  | succ k1 =>
   have H:=HA.1;clear HA;simp only [Aai.l0] at H
   by_cases c13 : x11_1 < a0_0
   ·rw [if_pos c13] at H;have c13b0 : decide (x11_1 < a0_0) = true:=decide_eq_true c13;clear c13;replace H:=Option.bind_eq_some_iff.mp H;obtain ⟨Ar,Ba,H⟩:=H;(try dsimp only at H);have A14:=A_ Ba;clear Ba;by_cases c15 : 0 ≤ x11_1
    ·rw [if_pos c15] at H;have c15b0 : decide (0 ≤ x11_1) = true:=decide_eq_true c15;clear c15;by_cases c16 : x11_1 < (l0_1.length : Int)
     ·rw [if_pos c16] at H;have c16b0 : decide (x11_1 < (l0_1.length : Int)) = true:=decide_eq_true c16;clear c16;by_cases c17 : x11_1 < (Ad.length : Int)
      ·rw [if_pos c17] at H;have c17b0 : decide (x11_1 < (Ad.length : Int)) = true:=decide_eq_true c17;clear c17;have c18b0:=eq_true (of_decide_eq_true (by first|(with_reducible assumption)|assumption) : 0 ≤ x11_1);obtain ⟨ji19,hji19⟩ : ∃ j_ : Int,(shl .i64 1 x11_1) = j_:=⟨_,rfl⟩;replace H : (if x3_1.length < 17592186044416 then (Aai.l0 k1 (x3_1 ++ [Go.bits .andNot .i64 (Go.bits .andNot .i64 (Go.bits .andNot .i64 Ar (rd l0_1 x11_1)) (rd Ad x11_1)) (ji19)]) a0_0 (wrap64 (x11_1 + 1)) a0_0 l0_1 Af Ad) else (none)) = some r:=by first|(rw [hji19] at H;exact H)|(simp only [hji19] at H ⊢;exact H)
       (try rw [hji19] at A14);have hji19_ : (IntKind.i64.wrap (1 * 2 ^ min x11_1.toNat 64)) = ji19:=hji19;have hji19z : x11_1 ≤ 64 → (IntKind.i64.wrap (1 * 2 ^ x11_1.toNat)) = ji19:=shl_small hji19;have hji19u : (IntKind.i64.wrap (2 ^ min x11_1.toNat 64)) = ji19:=by have h_:=hji19_;rw [Int.one_mul] at h_;exact h_
       have hji19v : x11_1 ≤ 64 → (IntKind.i64.wrap (2 ^ x11_1.toNat)) = ji19:=fun hle_=>by have h_:=hji19z hle_;rw [Int.one_mul] at h_;exact h_
       have hji19y : (wrap64 (1 * 2 ^ min x11_1.toNat 64)) = ji19:=(i64_w _).symm.trans hji19_;have hji19x : x11_1 ≤ 64 → (wrap64 (1 * 2 ^ x11_1.toNat)) = ji19:=fun h_=>(i64_w _).symm.trans (hji19z h_)
       by_cases c20 : x3_1.length < 17592186044416
       ·rw [if_pos c20] at H;have LMc20:=A_ c20;clear c20;obtain ⟨Bb,Am⟩ : ∃ y_ : List Int,y_ = (x3_1 ++ [Go.bits .andNot .i64 (Go.bits .andNot .i64 (Go.bits .andNot .i64 Ar (rd l0_1 x11_1)) (rd Ad x11_1)) (ji19)]):=⟨_,rfl⟩;replace H : (Aai.l0 k1 Bb a0_0 (wrap64 (x11_1 + 1)) a0_0 l0_1 Af Ad) = some r:=by first|(rw [Am];with_reducible exact H)|(have H2_:=(Option.bind_some _ _).symm.trans H;rw [Am];with_reducible exact H2_)|(have H2_:=(Option.bind_some _ _).symm.trans H;with_reducible exact H2_)|with_reducible exact H|(rw [Am];exact H)|exact H
        have Bc:=A_ Am;clear Am;have H':=A_ H;clear H;try go_wp2
        replace HO_3:=A_ (Kd.R_drew HO_3.1);replace Ab:=A_ (Kd.R_drew Ab.1);replace Aa:=A_ (blk_drew Aa.1);replace Ac:=A_ (blk_drew Ac.1);replace HB:=A_ (below_drew1 HB.1);have Au : 0 ≤ (x11_1 : Int):=of_decide_eq_true (by first|(with_reducible assumption)|assumption);have Av : x11_1 < (l0_1.length : Int):=of_decide_eq_true (by first|(with_reducible assumption)|assumption);obtain ⟨Ap,Be,Ag⟩:=Kd.at_int HR0_1.1 x11_1 Au Av;have Aj:=Ag;cases Be
        (try replace Ag:=(HB.1.cell (World.block_lt_of_cell? w _ Ag)).trans Ag);replace Au:=eq_true Au;replace Av:=eq_true Av;have Aw : 0 ≤ (x11_1 : Int):=of_decide_eq_true (by first|(with_reducible assumption)|assumption);have Ax : x11_1 < (Ad.length : Int):=of_decide_eq_true (by first|(with_reducible assumption)|assumption);obtain ⟨Aq,Bf,As⟩:=Kd.at_int (Kd.R_reads' Ab.1).2.2 x11_1 Aw Ax;cases Bf
        replace Aw:=eq_true Aw;replace Ax:=eq_true Ax;refine start_ (n:=21) (S:=fun w'=>w'.cell? ⟨An,0,none⟩ = some (.int .i64 a0_0) ∧ w'.cell? ⟨An,1,none⟩ = some (.slice (some Ap) l0_1.length c0_1) ∧ w'.cell? ⟨Ae,0,none⟩ = some (.int .i64 Af) ∧ w'.cell? ⟨Ae,1,none⟩ = some (.slice (some Aq) Ad.length co11) ∧ w'.cell? (Ap.add (x11_1).toNat) = some (.int .i64 (rd l0_1 x11_1)) ∧ w'.cell? (Aq.add (x11_1).toNat) = some (.int .i64 (rd Ad x11_1))) (ds:=[18,19]) #[F,F,F,F,F,F,F,F,F,F,F,F,F,F,F,F,F,F,F,F,F] (by kernel_rfl) rfl rfl ⟨blk_cell Aa.1 0,blk_cell Aa.1 1,blk_cell Ac.1 0,blk_cell Ac.1 1,((HB.1.cell (World.block_lt_of_cell? w _ Aj)).trans Aj),As⟩ (fun hHeld=>?_);refine with_tabW Aai.tab5 Aai.bits5 (fun HT_ HW_=>?_)
        generalize wr.drew = w21 at HO_3 Ab Aa Ac HB Ag As hHeld ⊢
        refine pu_ (i:=0) (N:=14) #[T,F,F,F,F,F,F,F,F,F,F,F,F,F,F,F,F,F,F,F,F] HT_.1 rfl rfl (fun _ _ _ h=>h) rfl (h:=?_)
        refine pu_ (i:=3) (N:=17) #[T,F,F,T,F,F,F,F,F,F,F,F,F,F,F,F,F,F,F,F,F] HT_.1 rfl rfl (fun _ _ _ h=>h) rfl (h:=?_)
        refine pu_ (i:=5) (N:=19) #[T,F,F,T,F,T,F,F,F,F,F,F,F,F,F,F,F,F,F,F,F] HT_.1 rfl rfl (fun _ _ _ h=>h) rfl (h:=?_)
        refine pu_ (i:=9) (N:=23) #[T,F,F,T,F,T,F,F,F,T,F,F,F,F,F,F,F,F,F,F,F] HT_.1 rfl rfl (fun _ _ _ h=>h) rfl (h:=?_)
        refine pu_ (i:=11) (N:=25) #[T,F,F,T,F,T,F,F,F,T,F,T,F,F,F,F,F,F,F,F,F] HT_.1 rfl rfl (fun _ _ _ h=>h) rfl (h:=?_)
        refine pu_ (i:=15) (N:=29) #[T,F,F,T,F,T,F,F,F,T,F,T,F,F,F,T,F,F,F,F,F] HT_.1 rfl rfl (fun _ _ _ h=>h) rfl (h:=?_)
        refine pu_ (i:=16) (N:=30) #[T,F,F,T,F,T,F,F,F,T,F,T,F,F,F,T,T,F,F,F,F] HT_.1 rfl rfl (fun _ _ _ h=>h) rfl (h:=?_)
        refine take_ (i:=1) (N:=some 15) (v:=?_) (a':=?_) #[T,T,F,T,F,T,F,F,F,T,F,T,F,F,F,T,T,F,F,F,F] rfl rfl (take_ofW HT_.1 HW_.1 (by kernel_rfl)) (fun _ _ _ h=>h) (Or.inl ⟨by rfl,?_⟩) hHeld ?_ ?_
        rotate_left
        ·rintro w' ⟨s0,s1,s2,s3,s4,s5⟩
         go_simp
         with_reducible rfl
        rotate_left;·simp only [Act.put,L_,M_,N_,i64_w,i32_w];rfl
        refine take_ (i:=4) (N:=some 18) (v:=?_) (a':=?_) #[T,T,F,T,T,T,F,F,F,T,F,T,F,F,F,T,T,F,F,F,F] rfl rfl (take_ofW HT_.1 HW_.1 (by kernel_rfl)) (fun _ _ _ h=>h) (Or.inl ⟨by rfl,?_⟩) hHeld ?_ ?_
        rotate_left
        ·rintro w' ⟨s0,s1,s2,s3,s4,s5⟩
         go_simp
         with_reducible rfl
        rotate_left;·simp only [Act.put,L_,M_,N_,i64_w,i32_w];rfl
        refine pu_ (i:=6) (N:=20) #[T,T,F,T,T,T,T,F,F,T,F,T,F,F,F,T,T,F,F,F,F] HT_.1 rfl rfl (fun _ _ _ h=>h) rfl (h:=?_)
        refine take_ (i:=7) (N:=some 21) (v:=?_) (a':=?_) #[T,T,F,T,T,T,T,T,F,T,F,T,F,F,F,T,T,F,F,F,F] rfl rfl (take_ofW HT_.1 HW_.1 (by kernel_rfl)) (fun _ _ _ h=>h) (Or.inl ⟨by rfl,?_⟩) hHeld ?_ ?_
        rotate_left
        ·rintro w' ⟨s0,s1,s2,s3,s4,s5⟩
         go_simp
         with_reducible rfl
        rotate_left;·simp only [Act.put,L_,M_,N_,i64_w,i32_w];rfl
        refine take_ (i:=10) (N:=some 24) (v:=?_) (a':=?_) #[T,T,F,T,T,T,T,T,F,T,T,T,F,F,F,T,T,F,F,F,F] rfl rfl (take_ofW HT_.1 HW_.1 (by kernel_rfl)) (fun _ _ _ h=>h) (Or.inl ⟨by rfl,?_⟩) hHeld ?_ ?_
        rotate_left
        ·rintro w' ⟨s0,s1,s2,s3,s4,s5⟩
         go_simp
         with_reducible rfl
        rotate_left;·simp only [Act.put,L_,M_,N_,i64_w,i32_w];rfl
        refine pu_ (i:=12) (N:=26) #[T,T,F,T,T,T,T,T,F,T,T,T,T,F,F,T,T,F,F,F,F] HT_.1 rfl rfl (fun _ _ _ h=>h) rfl (h:=?_)
        refine take_ (i:=13) (N:=some 27) (v:=?_) (a':=?_) #[T,T,F,T,T,T,T,T,F,T,T,T,T,T,F,T,T,F,F,F,F] rfl rfl (take_ofW HT_.1 HW_.1 (by kernel_rfl)) (fun _ _ _ h=>h) (Or.inl ⟨by rfl,?_⟩) hHeld ?_ ?_
        rotate_left
        ·rintro w' ⟨s0,s1,s2,s3,s4,s5⟩
         go_simp
         with_reducible rfl
        rotate_left;·simp only [Act.put,L_,M_,N_,i64_w,i32_w];rfl
        refine one_ (i:=2) (N:=some 16) #[T,T,T,T,T,T,T,T,F,T,T,T,T,T,F,T,T,F,F,F,F] rfl rfl (one_of HT_.1 (by kernel_rfl)) (by decide) (fun K hK=>?_)
        refine goes_ Tryd.func136 (by kernel_rfl) rfl #[.agg #[.int .i64 a0_0,.slice (some Ap) l0_1.length c0_1]] (by rfl) rfl rfl au_ ?_
        with_reducible refine (Ab2.calls a0_0 _ _ l0_1 Ar _ ?side1 ?side2 A14.1).mono ?_
        (case side1=>exact cl_ (Kd.C_below HR0_1.1 HB.1))
        (case side2=>exact HC0_1.1)
        rintro e w22 ⟨rfl,hb⟩
        have HS5_:=(hb.cell (World.block_lt_of_cell? _ _ (hHeld.2.2.2.2.2))).trans (hHeld.2.2.2.2.2);refine ⟨_,rfl,?_⟩
        replace HO_3:=rb_ HO_3 hb;replace Ab:=rb_ Ab hb;replace Aa:=bz Aa hb;replace Ac:=bz Ac hb;replace HB:=A_ (below_step bb_ hb);(try clear hb);(try clear hb2);(try clear hk);(try clear hi);refine hK.out _ _ ⟨blk_cell Aa.1 0,blk_cell Aa.1 1,blk_cell Ac.1 0,blk_cell Ac.1 1,((HB.1.cell (World.block_lt_of_cell? w _ Aj)).trans Aj),HS5_⟩ (fun hHeld=>?_)
        clear hK K;refine norm_ (a':=?_) ?_ ?_
        rotate_left
        ·show Act.put _ (some 16) _ = _
         simp only [Act.put,L_,M_,N_,i64_w,i32_w]
         rfl
        refine pu_ (i:=8) (N:=22) #[T,T,T,T,T,T,T,T,T,T,T,T,T,T,F,T,T,F,F,F,F] HT_.1 rfl rfl (fun _ _ _ h=>h) rfl (h:=?_)
        refine pu_ (i:=14) (N:=28) #[T,T,T,T,T,T,T,T,T,T,T,T,T,T,T,T,T,F,F,F,F] HT_.1 rfl rfl (fun _ _ _ h=>h) rfl (h:=?_)
        refine pu_ (i:=17) (N:=31) #[T,T,T,T,T,T,T,T,T,T,T,T,T,T,T,T,T,T,F,F,F] HT_.1 rfl rfl (fun _ _ _ h=>h) rfl (h:=?_)
        refine last_ (i:=18) (N:=some 32) #[T,T,T,T,T,T,T,T,T,T,T,T,T,T,T,T,T,T,T,F,F] rfl rfl (one_of HT_.1 (by kernel_rfl)) (by decide) (fun K hK=>?_)
        refine value_ (w1:=?_) (v:=?_) (by rfl) rfl ?_ ?_
        rotate_left 2
        ·go_simp
         constructor
         ·rfl
         ·rfl
        refine hK.out _ _ ?_
        clear hK K;refine norm_ (a':=?_) ?_ ?_
        rotate_left
        ·show Act.put _ (some 32) _ = _
         simp only [Act.put,L_,M_,N_,i64_w,i32_w]
         rfl
        refine last_ (i:=19) (N:=some 33) #[T,T,T,T,T,T,T,T,T,T,T,T,T,T,T,T,T,T,T,T,F] rfl rfl (one_of HT_.1 (by kernel_rfl)) (by decide) (fun K hK=>?_)
        refine Kd.R_append_step (Kd.int .i64) (w0:=w) w.heap.size (by rfl) (.tmp 14) (.tmp 32) 24 3 (.int .i64 0) 8 rfl Tryd.underlying24 info3 rfl (by decide) (by omega) u3 x3_1 (Go.bits .andNot .i64 (Go.bits .andNot .i64 (Go.bits .andNot .i64 Ar (rd l0_1 x11_1)) (rd Ad x11_1)) (ji19)) [.int .i64 (Go.bits .andNot .i64 (Go.bits .andNot .i64 (Go.bits .andNot .i64 Ar (rd l0_1 x11_1)) (rd Ad x11_1)) (ji19))] (fun k_=>some k_ ≠ (.slice (some Aq) Ad.length co11 : Value).ownBlock) (fun _=>False) rfl rfl ?aP (fun _ hk=>hk.elim) ?aF ?aO ?aB ?aS ?aL ?_
        (case aP=>exact rfl)
        (case aB=>exact bb_)
        (case aF=>exact (fun k_ hk=>Kd.fresh' (Kd.R_lt (rl_ Ab)) k_ hk))
        (case aO=>exact (rl_ HO_3))
        (case aS=>exact (below_size bb_))
        (case aL=>have:=LMc20.1;omega)
        intro Bm w23 ho hb hg hat
        rw [← Bc.1] at ho;replace Ab:=A_ (Kd.R_after (ok:=(fun _=>True)) (rq_ (Kd.R_mono Ab.1 (fun _ hk=>⟨trivial,hk⟩))) hg hat);replace Aa:=A_ (blk_grown (g:=An) (o:=.cells #[.int .i64 a0_0,.slice (some Ap) l0_1.length c0_1] 26 (0,0)) (bl_ Aa) hg (Kd.R_ne HO_3.1 Aa.1 (by decide)));replace Ac:=A_ (blk_grown (g:=Ae) (o:=.cells #[.int .i64 Af,.slice (some Aq) Ad.length co11] 26 (0,0)) (bl_ Ac) hg (Kd.R_ne HO_3.1 Ac.1 (by decide)));replace HB:=A_ (hb);have Bd:=A_ (ho);clear HO_3;clear ho hb hg hat;refine hK.out _ _ ?_
        clear hK K;refine norm_ (a':=?_) ?_ ?_
        rotate_left
        ·show Act.put _ (some 33) _ = _
         simp only [Act.put,L_,M_,N_,i64_w,i32_w]
         rfl
        refine pu_ (i:=20) (N:=3) #[T,T,T,T,T,T,T,T,T,T,T,T,T,T,T,T,T,T,T,T,T] HT_.1 rfl rfl (fun _ _ _ h=>h) rfl (h:=?_)
        refine done_ (done_of HT_.1 (by kernel_rfl)) ?_
        try go_wp2
        go_roundg k1
        case measure=>have:=HK1.1;omega
        case rel=>exact ⟨(Bb),(wrap64 (x11_1 + 1)),(by first|rfl|(simp;done)|(simp [*];done)),H',⟨by have:=HK1.1;omega⟩,⟨rl_ Bd⟩,⟨rq_ (Kd.R_mono Ab.1 (fun _ hk=>hk.2))⟩,⟨bl_ Aa⟩,⟨bl_ Ac⟩,⟨bb_⟩⟩
       ·rw [if_neg c20] at H;exact absurd H (by simp)
      ·rw [if_neg c17] at H;exact absurd H (by simp)
     ·rw [if_neg c16] at H;exact absurd H (by simp)
    ·rw [if_neg c15] at H;exact absurd H (by simp)
   ·rw [if_neg c13] at H;have c13b0 : decide (x11_1 < a0_0) = false:=decide_eq_false c13;clear c13;obtain rfl:=Option.some.inj H;go_wp2
    go_ret
    exact ⟨_,by first|rfl|(simp [errW_none,errW_some] <;> rfl)|(simp [*,errW_none,errW_some] <;> rfl),rq_ (Kd.R_mono HO_3.1 (fun _ hk=>trivial)),bb_⟩
mutual
def Aaf.l0 : Nat → List Int → Int → Int → Int → List Int → Option (List Int)
 | 0,_,_,_,_,_=>none
 | k + 1,x3,x13,x14,x868000,x868001=>if x14 < x13 then (if 0 ≤ x14 then (if x14 < (x868001.length : Int) then ((Aa0.f k (rd x868001 x14)).bind fun t872=>(Aaf.l1 k x3 x14 x13 x14 t872 (t872.length : Int) 0 x868000 x868001)) else (none)) else (none)) else (some ([] : List Int))
def Aaf.l1 : Nat → List Int → Int → Int → Int → List Int → Int → Int → Int → List Int → Option (List Int)
 | 0,_,_,_,_,_,_,_,_,_=>none
 | k + 1,x3,x4,x13,x14,x22,x23,x24,x868000,x868001=>if x24 < x23 then (if 0 ≤ x24 then (if x24 < (x22.length : Int) then (if 0 ≤ (rd x22 x24) then (if (rd x22 x24) < (x868001.length : Int) then ((Aa0.f k (rd x868001 (rd x22 x24))).bind fun t877=>(Aaf.l2 k x3 x4 (rd x22 x24) x13 x14 x22 x23 x24 t877 (t877.length : Int) 0 x868000 x868001)) else (none)) else (none)) else (none)) else (none)) else (Aaf.l0 k x3 x13 (wrap64 (x14 + 1)) x868000 x868001)
def Aaf.l2 : Nat → List Int → Int → Int → Int → Int → List Int → Int → Int → List Int → Int → Int → Int → List Int → Option (List Int)
 | 0,_,_,_,_,_,_,_,_,_,_,_,_,_=>none
 | k + 1,x3,x4,x6,x13,x14,x22,x23,x24,x33,x34,x35,x868000,x868001=>if x35 < x34 then (if 0 ≤ x35 then (if x35 < (x33.length : Int) then (if 0 ≤ x4 then (if x4 < (x3.length : Int) then (if 0 ≤ x6 then (if x6 < (x3.length : Int) then (if 0 ≤ (rd x33 x35) then (if (rd x33 x35) < (x3.length : Int) then (if (Go.bits .and .i64 (Go.bits .and .i64 (rd x3 x4) (rd x3 x6)) (rd x3 (rd x33 x35))) = 0 then (Aaf.l2 k x3 x4 x6 x13 x14 x22 x23 x24 x33 x34 (wrap64 (x35 + 1)) x868000 x868001) else ((Aa0.f k (Go.bits .and .i64 (Go.bits .and .i64 (rd x3 x4) (rd x3 x6)) (rd x3 (rd x33 x35)))).bind fun t884=>(if 0 < (t884.length : Int) then (some (([x4,x6,rd x33 x35,rd t884 0] : List Int))) else (none)))) else (none)) else (none)) else (none)) else (none)) else (none)) else (none)) else (none)) else (none)) else (Aaf.l1 k x3 x4 x13 x14 x22 x23 (wrap64 (x24 + 1)) x868000 x868001)
end
def Aaf.f (k : Nat) (a0_0 : Int) (l0_1 : List Int) : Option (List Int) := (Aai.f k a0_0 l0_1).bind fun t868 => (Aaf.l0 k t868 a0_0 0 a0_0 l0_1)
set_option maxHeartbeats 8000000 in
set_option maxRecDepth 100000 in
theorem Aaf.calls (k : Nat) (a0_0 : Int) (A0_1 : Option Addr) (c0_1 : Nat) (l0_1 : List Int) (r : List Int) (w : World) (hr0_1 : Kd.C (Kd.int .i64) w A0_1 l0_1.length l0_1) (hc0_1 : l0_1.length ≤ c0_1) (hT : TabOK w) (h : Aaf.f k a0_0 l0_1 = some r) :
 Calls Tryd.prog 92 #[.agg #[.int .i64 a0_0,.slice A0_1 l0_1.length c0_1]] w fun e w'=>∃ v0_ : Value,e = .returned (v0_) ∧ Kd.R (Kd.int .i64) 3 w' w.heap.size (fun _=>True) v0_ r ∧ Below w.heap.size w w' ∧ (r = [] → v0_ = .slice none 0 0):=by
 have hu26:=Tryd.underlying26;have HT:=A_ hT;clear hT;have HR0_1:=A_ hr0_1;have HC0_1:=A_ hc0_1;clear hr0_1 hc0_1;have HB:=A_ (Below.refl w.heap.size w);have H : ((Aai.f k a0_0 l0_1).bind fun Ac=>(Aaf.l0 k Ac a0_0 0 a0_0 l0_1)) = some r:=h;clear h;replace H:=Option.bind_eq_some_iff.mp H;obtain ⟨Ac,A20,H⟩:=H;(try dsimp only at H);have A2:=A_ A20;clear A20;have H':=A_ H;clear H;go_enter Tryd.func92,Tryd.ntmps92
 go_wp2_with (first|((with_reducible refine gate_dst (N:=1) rfl ?_);refine box_event ?hg (N:=1) ?hd (cs:=#[.int .i64 a0_0,.slice A0_1 l0_1.length c0_1]) (t:=26) ?hr ?_;(case hd=>rfl);(case hg=>rfl);(case hr=>go_simp;try rfl);intro Ax hg w3 hbox hb;have Ab:=A_ (hbox);have Br:=A_ (gw_ (w:=w) hg bb_);have Bs:=A_ (gw_ (w:=w) hg bb_);replace HB:=A_ (below_step bb_ hb);clear hb hbox hg;obtain ⟨Z,Z,Z,Z⟩:=o2_ Ab.1)|(go_at_call 95;(with_reducible refine (Aai.calls k a0_0 _ _ l0_1 Ac _ ?side1 ?side2 A2.1).mono ?_);(case side1=>exact cl_ (Kd.C_below HR0_1.1 HB.1));(case side2=>exact HC0_1.1);rintro e w5 ⟨Al,rfl,ho0,hb⟩;have Bd:=A_ (Kd.R_lower ho0 (below_size bb_));replace Ab:=bz Ab hb;replace HB:=A_ (below_step bb_ hb);(try clear hb);(try clear hb2);(try clear hk);(try clear hi);(try clear ho0);obtain ⟨Z,Z,Z,Z⟩:=o2_ Ab.1))
 repeat (go_quiet (first|((with_reducible refine gate_dst (N:=1) rfl ?_);refine box_event ?hg (N:=1) ?hd (cs:=#[.int .i64 a0_0,.slice A0_1 l0_1.length c0_1]) (t:=26) ?hr ?_;(case hd=>rfl);(case hg=>rfl);(case hr=>go_simp;try rfl);intro Ax hg w3 hbox hb;have Ab:=A_ (hbox);have Br:=A_ (gw_ (w:=w) hg bb_);have Bs:=A_ (gw_ (w:=w) hg bb_);replace HB:=A_ (below_step bb_ hb);clear hb hbox hg;obtain ⟨Z,Z,Z,Z⟩:=o2_ Ab.1)|(go_at_call 95;(with_reducible refine (Aai.calls k a0_0 _ _ l0_1 Ac _ ?side1 ?side2 A2.1).mono ?_);(case side1=>exact cl_ (Kd.C_below HR0_1.1 HB.1));(case side2=>exact HC0_1.1);rintro e w5 ⟨Al,rfl,ho0,hb⟩;have Bd:=A_ (Kd.R_lower ho0 (below_size bb_));replace Ab:=bz Ab hb;replace HB:=A_ (below_step bb_ hb);(try clear hb);(try clear hb2);(try clear hk);(try clear hi);(try clear ho0);obtain ⟨Z,Z,Z,Z⟩:=o2_ Ab.1));try go_wp2_with (first|((with_reducible refine gate_dst (N:=1) rfl ?_);refine box_event ?hg (N:=1) ?hd (cs:=#[.int .i64 a0_0,.slice A0_1 l0_1.length c0_1]) (t:=26) ?hr ?_;(case hd=>rfl);(case hg=>rfl);(case hr=>go_simp;try rfl);intro Ax hg w3 hbox hb;have Ab:=A_ (hbox);have Br:=A_ (gw_ (w:=w) hg bb_);have Bs:=A_ (gw_ (w:=w) hg bb_);replace HB:=A_ (below_step bb_ hb);clear hb hbox hg;obtain ⟨Z,Z,Z,Z⟩:=o2_ Ab.1)|(go_at_call 95;(with_reducible refine (Aai.calls k a0_0 _ _ l0_1 Ac _ ?side1 ?side2 A2.1).mono ?_);(case side1=>exact cl_ (Kd.C_below HR0_1.1 HB.1));(case side2=>exact HC0_1.1);rintro e w5 ⟨Al,rfl,ho0,hb⟩;have Bd:=A_ (Kd.R_lower ho0 (below_size bb_));replace Ab:=bz Ab hb;replace HB:=A_ (below_step bb_ hb);(try clear hb);(try clear hb2);(try clear hk);(try clear hi);(try clear ho0);obtain ⟨Z,Z,Z,Z⟩:=o2_ Ab.1)))
 go_loopg [14] k (fun kq v14 w'=>∃ (x14_1 : Int),v14 = .int .i64 x14_1 ∧ Aside0 (Aaf.l0 kq Ac a0_0 x14_1 a0_0 l0_1 = some r) ∧ Aside0 (kq ≤ k) ∧ Aside0 (Kd.R (Kd.int .i64) 3 w' w.heap.size (fun _=>True) Al Ac) ∧ Aside0 (w'.heap[Ax]? = some (.cells #[.int .i64 a0_0,(.slice A0_1 l0_1.length c0_1)] 26 (0,0))) ∧ Aside0 (Below w.heap.size w w'))
 case atStart=>exact ⟨(0),(by first|rfl|(simp;done)|(simp [*];done)),H',⟨Nat.le_refl _⟩,⟨rl_ Bd⟩,⟨bl_ Ab⟩,⟨bb_⟩⟩
 case round =>
  clear H';try clear p2
  repeat clear Z
  obtain ⟨x14_1,rfl,HA,HK1,HO_3,Ab,HB⟩:=hrel;cases gk with
  | zero => exact absurd HA.1 (by simp [Aaf.l0])
  | succ k1 =>
   have H:=HA.1;clear HA;simp only [Aaf.l0] at H
   by_cases c7 : x14_1 < a0_0
   ·rw [if_pos c7] at H;have c7b0 : decide (x14_1 < a0_0) = true:=decide_eq_true c7;clear c7;by_cases c8 : 0 ≤ x14_1
    ·rw [if_pos c8] at H;have c8b0 : decide (0 ≤ x14_1) = true:=decide_eq_true c8;clear c8;by_cases c9 : x14_1 < (l0_1.length : Int)
     ·rw [if_pos c9] at H;have c9b0 : decide (x14_1 < (l0_1.length : Int)) = true:=decide_eq_true c9;clear c9;replace H:=Option.bind_eq_some_iff.mp H;obtain ⟨Aa,B2,H⟩:=H;(try dsimp only at H);have A10:=A_ B2;clear B2;have H':=A_ H;clear H;obtain ⟨Z,Z,Z,Z⟩:=o2_ Ab.1;have Ba : 0 ≤ (x14_1 : Int):=of_decide_eq_true (by first|(with_reducible assumption)|assumption);have Bb : x14_1 < (l0_1.length : Int):=of_decide_eq_true (by first|(with_reducible assumption)|assumption);obtain ⟨Be,Ce,Ak⟩:=Kd.at_int HR0_1.1 x14_1 Ba Bb;cases Ce
      (try replace Ak:=(HB.1.cell (World.block_lt_of_cell? w _ Ak)).trans Ak);replace Ba:=eq_true Ba;replace Bb:=eq_true Bb;go_wp2_with (first|(go_at_call 72;(with_reducible refine (Aa0.calls k1 (rd l0_1 x14_1) Aa _ ?side1 A10.1).mono ?_);(case side1=>first|exact HT.1|exact HT.1.below bb_|(repeat (first|exact HT.1|apply TabOK.drewN|apply TabOK.drew|apply TabOK.alloc)));rintro e w12 ⟨B4,rfl,ho0,hb⟩;have Am:=A_ (Kd.R_lower (Kd.R_new' ho0 (Kd.R_lt (rl_ HO_3))) (below_size bb_));replace HO_3:=A_ (Kd.R_elder' (rl_ HO_3) (Kd.R_base ho0) hb);replace Ab:=bz Ab hb;replace HB:=A_ (below_step bb_ hb);(try clear hb);(try clear hb2);(try clear hk);(try clear hi);(try clear ho0);obtain ⟨Ao13,co13,eo13⟩:=Kd.R_slice Am.1;subst eo13))
      repeat (go_quiet (first|(go_at_call 72;(with_reducible refine (Aa0.calls k1 (rd l0_1 x14_1) Aa _ ?side1 A10.1).mono ?_);(case side1=>first|exact HT.1|exact HT.1.below bb_|(repeat (first|exact HT.1|apply TabOK.drewN|apply TabOK.drew|apply TabOK.alloc)));rintro e w12 ⟨B4,rfl,ho0,hb⟩;have Am:=A_ (Kd.R_lower (Kd.R_new' ho0 (Kd.R_lt (rl_ HO_3))) (below_size bb_));replace HO_3:=A_ (Kd.R_elder' (rl_ HO_3) (Kd.R_base ho0) hb);replace Ab:=bz Ab hb;replace HB:=A_ (below_step bb_ hb);(try clear hb);(try clear hb2);(try clear hk);(try clear hi);(try clear ho0);obtain ⟨Ao13,co13,eo13⟩:=Kd.R_slice Am.1;subst eo13));try go_wp2_with (first|(go_at_call 72;(with_reducible refine (Aa0.calls k1 (rd l0_1 x14_1) Aa _ ?side1 A10.1).mono ?_);(case side1=>first|exact HT.1|exact HT.1.below bb_|(repeat (first|exact HT.1|apply TabOK.drewN|apply TabOK.drew|apply TabOK.alloc)));rintro e w12 ⟨B4,rfl,ho0,hb⟩;have Am:=A_ (Kd.R_lower (Kd.R_new' ho0 (Kd.R_lt (rl_ HO_3))) (below_size bb_));replace HO_3:=A_ (Kd.R_elder' (rl_ HO_3) (Kd.R_base ho0) hb);replace Ab:=bz Ab hb;replace HB:=A_ (below_step bb_ hb);(try clear hb);(try clear hb2);(try clear hk);(try clear hi);(try clear ho0);obtain ⟨Ao13,co13,eo13⟩:=Kd.R_slice Am.1;subst eo13)))
      go_loopg [24] k1 (fun kq v24 w'=>∃ (x24_2 : Int),v24 = .int .i64 x24_2 ∧ Aside0 (Aaf.l1 kq Ac x14_1 a0_0 x14_1 Aa (Aa.length : Int) x24_2 a0_0 l0_1 = some r) ∧ Aside0 (kq ≤ k1) ∧ Aside0 (Kd.R (Kd.int .i64) 3 w' w.heap.size (fun k_=>some k_ ≠ ((.slice Ao13 Aa.length co13) : Value).ownBlock) Al Ac) ∧ Aside0 (Kd.R (Kd.int .i64) 3 w' w.heap.size (fun k_=>some k_ ≠ (Al : Value).ownBlock) (.slice Ao13 Aa.length co13) Aa) ∧ Aside0 (w'.heap[Ax]? = some (.cells #[.int .i64 a0_0,(.slice (some Be) l0_1.length c0_1)] 26 (0,0))) ∧ Aside0 (Below w.heap.size w w'))
      case atStart=>exact ⟨(0),(by first|rfl|(simp;done)|(simp [*];done)),H',⟨Nat.le_refl _⟩,⟨rq_ (Kd.R_mono HO_3.1 (fun _ hk=>hk.2))⟩,⟨rq_ (Kd.R_mono Am.1 (fun _ hk=>hk.2))⟩,⟨bl_ Ab⟩,⟨bb_⟩⟩
      case round =>
       clear H';try clear p2
       try clear c7
       try clear c7b0
       try clear c8
       try clear c8b0
       try clear p8
       try clear q8
       try clear hx8
       try clear c9
       try clear c9b0
       repeat clear Z
       try clear Ak
       try clear p2
       try clear Ba
       try clear Bb
       obtain ⟨x24_2,rfl,HA,HK2,HO_3,HO_22,Ab,HB⟩:=hrel;cases gk with
       | zero=>exact absurd HA.1 (by simp [Aaf.l1])
       | succ k2 =>
        have H:=HA.1;clear HA;simp only [Aaf.l1] at H
        by_cases c14 : x24_2 < (Aa.length : Int)
        ·rw [if_pos c14] at H;have c14b0 : decide (x24_2 < (Aa.length : Int)) = true:=decide_eq_true c14;clear c14;by_cases c15 : 0 ≤ x24_2
         ·rw [if_pos c15] at H;have c15b0 : decide (0 ≤ x24_2) = true:=decide_eq_true c15;clear c15;by_cases c16 : x24_2 < (Aa.length : Int)
          ·rw [if_pos c16] at H;have c16b0 : decide (x24_2 < (Aa.length : Int)) = true:=decide_eq_true c16;clear c16;by_cases c17 : 0 ≤ (rd Aa x24_2)
           ·rw [if_pos c17] at H;have c17b0 : decide (0 ≤ (rd Aa x24_2)) = true:=decide_eq_true c17;clear c17;by_cases c18 : (rd Aa x24_2) < (l0_1.length : Int)
            ·rw [if_pos c18] at H;have c18b0 : decide ((rd Aa x24_2) < (l0_1.length : Int)) = true:=decide_eq_true c18;clear c18;replace H:=Option.bind_eq_some_iff.mp H;obtain ⟨Ad,B6,H⟩:=H;(try dsimp only at H);have A19:=A_ B6;clear B6;have H':=A_ H;clear H;have Bf : 0 ≤ (x24_2 : Int):=of_decide_eq_true (by first|(with_reducible assumption)|assumption);have Bg : x24_2 < (Aa.length : Int):=of_decide_eq_true (by first|(with_reducible assumption)|assumption);obtain ⟨Bh,Cf,Bv⟩:=Kd.at_int (Kd.R_reads' HO_22.1).2.2 x24_2 Bf Bg;cases Cf
             replace Bf:=eq_true Bf;replace Bg:=eq_true Bg;obtain ⟨Z,Z,Z,Z⟩:=o2_ Ab.1;have Bi : 0 ≤ ((rd Aa x24_2) : Int):=of_decide_eq_true (by first|(with_reducible assumption)|assumption);have Bj : (rd Aa x24_2) < (l0_1.length : Int):=of_decide_eq_true (by first|(with_reducible assumption)|assumption);obtain ⟨Cc,Cg,An⟩:=Kd.at_int HR0_1.1 (rd Aa x24_2) Bi Bj;obtain rfl : Be = Cc:=(by injection Cg);(try replace An:=(HB.1.cell (World.block_lt_of_cell? w _ An)).trans An);replace Bi:=eq_true Bi;replace Bj:=eq_true Bj;go_wp2_with (first|(go_at_call 72;(with_reducible refine (Aa0.calls k2 (rd l0_1 (rd Aa x24_2)) Ad _ ?side1 A19.1).mono ?_);(case side1=>first|exact HT.1|exact HT.1.below bb_|(repeat (first|exact HT.1|apply TabOK.drewN|apply TabOK.drew|apply TabOK.alloc)));rintro e w21 ⟨B7,rfl,ho0,hb⟩;have Ao:=A_ (Kd.R_lower (Kd.R_new' (Kd.R_new' ho0 (Kd.R_lt (rl_ HO_3))) (Kd.R_lt (rl_ HO_22))) (below_size bb_));replace HO_3:=A_ (Kd.R_elder' (rl_ HO_3) (Kd.R_base ho0) hb);replace HO_22:=A_ (Kd.R_elder' (rl_ HO_22) (Kd.R_base ho0) hb);replace Ab:=bz Ab hb;replace HB:=A_ (below_step bb_ hb);(try clear hb);(try clear hb2);(try clear hk);(try clear hi);(try clear ho0);obtain ⟨Ao22,co22,eo22⟩:=Kd.R_slice Ao.1;subst eo22))
             repeat (go_quiet (first|(go_at_call 72;(with_reducible refine (Aa0.calls k2 (rd l0_1 (rd Aa x24_2)) Ad _ ?side1 A19.1).mono ?_);(case side1=>first|exact HT.1|exact HT.1.below bb_|(repeat (first|exact HT.1|apply TabOK.drewN|apply TabOK.drew|apply TabOK.alloc)));rintro e w21 ⟨B7,rfl,ho0,hb⟩;have Ao:=A_ (Kd.R_lower (Kd.R_new' (Kd.R_new' ho0 (Kd.R_lt (rl_ HO_3))) (Kd.R_lt (rl_ HO_22))) (below_size bb_));replace HO_3:=A_ (Kd.R_elder' (rl_ HO_3) (Kd.R_base ho0) hb);replace HO_22:=A_ (Kd.R_elder' (rl_ HO_22) (Kd.R_base ho0) hb);replace Ab:=bz Ab hb;replace HB:=A_ (below_step bb_ hb);(try clear hb);(try clear hb2);(try clear hk);(try clear hi);(try clear ho0);obtain ⟨Ao22,co22,eo22⟩:=Kd.R_slice Ao.1;subst eo22));try go_wp2_with (first|(go_at_call 72;(with_reducible refine (Aa0.calls k2 (rd l0_1 (rd Aa x24_2)) Ad _ ?side1 A19.1).mono ?_);(case side1=>first|exact HT.1|exact HT.1.below bb_|(repeat (first|exact HT.1|apply TabOK.drewN|apply TabOK.drew|apply TabOK.alloc)));rintro e w21 ⟨B7,rfl,ho0,hb⟩;have Ao:=A_ (Kd.R_lower (Kd.R_new' (Kd.R_new' ho0 (Kd.R_lt (rl_ HO_3))) (Kd.R_lt (rl_ HO_22))) (below_size bb_));replace HO_3:=A_ (Kd.R_elder' (rl_ HO_3) (Kd.R_base ho0) hb);replace HO_22:=A_ (Kd.R_elder' (rl_ HO_22) (Kd.R_base ho0) hb);replace Ab:=bz Ab hb;replace HB:=A_ (below_step bb_ hb);(try clear hb);(try clear hb2);(try clear hk);(try clear hi);(try clear ho0);obtain ⟨Ao22,co22,eo22⟩:=Kd.R_slice Ao.1;subst eo22)))
             go_loopg [35] k2 (fun kq v35 w'=>∃ (x35_3 : Int),v35 = .int .i64 x35_3 ∧ Aside0 (Aaf.l2 kq Ac x14_1 (rd Aa x24_2) a0_0 x14_1 Aa (Aa.length : Int) x24_2 Ad (Ad.length : Int) x35_3 a0_0 l0_1 = some r) ∧ Aside0 (kq ≤ k2) ∧ Aside0 (Kd.R (Kd.int .i64) 3 w' w.heap.size (fun k_=>some k_ ≠ ((.slice (some Bh) Aa.length co13) : Value).ownBlock ∧ some k_ ≠ ((.slice Ao22 Ad.length co22) : Value).ownBlock) Al Ac) ∧ Aside0 (Kd.R (Kd.int .i64) 3 w' w.heap.size (fun k_=>some k_ ≠ (Al : Value).ownBlock ∧ some k_ ≠ ((.slice Ao22 Ad.length co22) : Value).ownBlock) (.slice (some Bh) Aa.length co13) Aa) ∧ Aside0 (Kd.R (Kd.int .i64) 3 w' w.heap.size (fun k_=>some k_ ≠ (Al : Value).ownBlock ∧ some k_ ≠ ((.slice (some Bh) Aa.length co13) : Value).ownBlock) (.slice Ao22 Ad.length co22) Ad) ∧ Aside0 (w'.heap[Ax]? = some (.cells #[.int .i64 a0_0,(.slice (some Be) l0_1.length c0_1)] 26 (0,0))) ∧ Aside0 (Below w.heap.size w w'))
             case atStart=>exact ⟨(0),(by first|rfl|(simp;done)|(simp [*];done)),H',⟨Nat.le_refl _⟩,⟨rl_ HO_3⟩,⟨rl_ HO_22⟩,⟨rq_ (Kd.R_mono Ao.1 (fun _ hk=>⟨hk.1.2,hk.2⟩))⟩,⟨bl_ Ab⟩,⟨bb_⟩⟩
             case round =>
              clear H';try clear c1
              try clear p2
              try clear c7
              try clear c7b0
              try clear c8
              try clear c8b0
              try clear p8
              try clear q8
              try clear hx8
              try clear c9
              try clear c9b0
              try clear c14
              try clear c14b0
              try clear c15
              try clear c15b0
              try clear c16
              try clear c16b0
              try clear c17
              try clear c17b0
              try clear c18
              try clear c18b0
              repeat clear Z
              try clear Ak
              try clear Bv
              try clear An
              try clear p2
              try clear p8
              try clear Ba
              try clear Bf
              try clear Bi
              try clear q8
              try clear Bb
              try clear Bg
              try clear Bj
              obtain ⟨x35_3,rfl,HA,HK3,HO_3,HO_22,HO_33,Ab,HB⟩:=hrel;cases gk with
              | zero=>exact absurd HA.1 (by simp [Aaf.l2])
              | succ k3 =>
               have H:=HA.1;clear HA;simp only [Aaf.l2] at H
               by_cases c23 : x35_3 < (Ad.length : Int)
               ·rw [if_pos c23] at H;have c23b0 : decide (x35_3 < (Ad.length : Int)) = true:=decide_eq_true c23;clear c23;by_cases c24 : 0 ≤ x35_3
                ·rw [if_pos c24] at H;have c24b0 : decide (0 ≤ x35_3) = true:=decide_eq_true c24;clear c24;by_cases c25 : x35_3 < (Ad.length : Int)
                 ·rw [if_pos c25] at H;have c25b0 : decide (x35_3 < (Ad.length : Int)) = true:=decide_eq_true c25;clear c25;by_cases c26 : 0 ≤ x14_1
                  ·rw [if_pos c26] at H;have c26b0 : decide (0 ≤ x14_1) = true:=decide_eq_true c26;clear c26;by_cases c27 : x14_1 < (Ac.length : Int)
                   ·rw [if_pos c27] at H;have c27b0 : decide (x14_1 < (Ac.length : Int)) = true:=decide_eq_true c27;clear c27;by_cases c28 : 0 ≤ (rd Aa x24_2)
                    ·rw [if_pos c28] at H;have c28b0 : decide (0 ≤ (rd Aa x24_2)) = true:=decide_eq_true c28;clear c28;by_cases c29 : (rd Aa x24_2) < (Ac.length : Int)
                     ·rw [if_pos c29] at H;have c29b0 : decide ((rd Aa x24_2) < (Ac.length : Int)) = true:=decide_eq_true c29;clear c29;by_cases c30 : 0 ≤ (rd Ad x35_3)
                      ·rw [if_pos c30] at H;have c30b0 : decide (0 ≤ (rd Ad x35_3)) = true:=decide_eq_true c30;clear c30;by_cases c31 : (rd Ad x35_3) < (Ac.length : Int)
                       ·rw [if_pos c31] at H;have c31b0 : decide ((rd Ad x35_3) < (Ac.length : Int)) = true:=decide_eq_true c31;clear c31;by_cases c32 : (Go.bits .and .i64 (Go.bits .and .i64 (rd Ac x14_1) (rd Ac (rd Aa x24_2))) (rd Ac (rd Ad x35_3))) = 0
                        ·rw [if_pos c32] at H;have c32b0 : ((Go.bits .and .i64 (Go.bits .and .i64 (rd Ac x14_1) (rd Ac (rd Aa x24_2))) (rd Ac (rd Ad x35_3))) == 0) = true:=beq_iff_eq.mpr c32;have c32b1 : ((Go.bits .and .i64 (Go.bits .and .i64 (rd Ac x14_1) (rd Ac (rd Aa x24_2))) (rd Ac (rd Ad x35_3))) != 0) = false:=bne_eq_false_iff_eq.mpr c32;clear c32;have H':=A_ H;clear H;have Ap : 0 ≤ (x35_3 : Int):=of_decide_eq_true (by first|(with_reducible assumption)|assumption);have Aq : x35_3 < (Ad.length : Int):=of_decide_eq_true (by first|(with_reducible assumption)|assumption);obtain ⟨Cd,Bn,Bw⟩:=Kd.at_int (Kd.R_reads' HO_33.1).2.2 x35_3 Ap Aq;cases Bn
                         replace Ap:=eq_true Ap;replace Aq:=eq_true Aq;obtain ⟨Ao33,co33,eo33⟩:=Kd.R_slice HO_3.1;subst eo33;have Ar : 0 ≤ (x14_1 : Int):=of_decide_eq_true (by first|(with_reducible assumption)|assumption);have As : x14_1 < (Ac.length : Int):=of_decide_eq_true (by first|(with_reducible assumption)|assumption);obtain ⟨Ay,Bo,Bx⟩:=Kd.at_int (Kd.R_reads' HO_3.1).2.2 x14_1 Ar As;cases Bo
                         replace Ar:=eq_true Ar;replace As:=eq_true As;have At : 0 ≤ ((rd Aa x24_2) : Int):=of_decide_eq_true (by first|(with_reducible assumption)|assumption);have Au : (rd Aa x24_2) < (Ac.length : Int):=of_decide_eq_true (by first|(with_reducible assumption)|assumption);obtain ⟨Bk,Bp,Bz⟩:=Kd.at_int (Kd.R_reads' HO_3.1).2.2 (rd Aa x24_2) At Au;obtain rfl : Ay = Bk:=(by injection Bp);replace At:=eq_true At;replace Au:=eq_true Au;have Av : 0 ≤ ((rd Ad x35_3) : Int):=of_decide_eq_true (by first|(with_reducible assumption)|assumption);have Aw : (rd Ad x35_3) < (Ac.length : Int):=of_decide_eq_true (by first|(with_reducible assumption)|assumption);obtain ⟨Bl,Bq,B0⟩:=Kd.at_int (Kd.R_reads' HO_3.1).2.2 (rd Ad x35_3) Av Aw;obtain rfl : Ay = Bl:=(by injection Bq);replace Av:=eq_true Av;replace Aw:=eq_true Aw;go_wp2
                         repeat (go_quiet (fail);try go_wp2)
                         go_roundg k3
                         case measure=>have:=HK1.1;have:=HK2.1;have:=HK3.1;omega
                         case rel=>exact ⟨(wrap64 (x35_3 + 1)),(by first|rfl|(simp;done)|(simp [*];done)),H',⟨by have:=HK1.1;have:=HK2.1;have:=HK3.1;omega⟩,⟨rl_ HO_3⟩,⟨rl_ HO_22⟩,⟨rl_ HO_33⟩,⟨bl_ Ab⟩,⟨bb_⟩⟩
                        ·rw [if_neg c32] at H;have c32b0 : ((Go.bits .and .i64 (Go.bits .and .i64 (rd Ac x14_1) (rd Ac (rd Aa x24_2))) (rd Ac (rd Ad x35_3))) == 0) = false:=beq_eq_false_iff_ne.mpr c32;have c32b1 : ((Go.bits .and .i64 (Go.bits .and .i64 (rd Ac x14_1) (rd Ac (rd Aa x24_2))) (rd Ac (rd Ad x35_3))) != 0) = true:=bne_iff_ne.mpr c32;replace H:=Option.bind_eq_some_iff.mp H;obtain ⟨Ae,B8,H⟩:=H;(try dsimp only at H);have A34:=A_ B8;clear B8;by_cases c35 : 0 < (Ae.length : Int)
                         ·rw [if_pos c35] at H;have c35b0 : decide (0 < (Ae.length : Int)) = true:=decide_eq_true c35;have c35b1 : decide (0 < Ae.length) = true:=decide_eq_true (by omega);clear c35;obtain ⟨Ch,Az⟩ : ∃ y_ : List Int,y_ = (([x14_1,(rd Aa x24_2),rd Ad x35_3,rd Ae 0] : List Int)):=⟨_,rfl⟩;replace H : (some Ch) = some r:=by first|(rw [Az];with_reducible exact H)|(have H2_:=(Option.bind_some _ _).symm.trans H;rw [Az];with_reducible exact H2_)|(have H2_:=(Option.bind_some _ _).symm.trans H;with_reducible exact H2_)|with_reducible exact H|(rw [Az];exact H)|exact H
                          have Aj:=A_ Az;clear Az;obtain rfl:=Option.some.inj H;have Ap : 0 ≤ (x35_3 : Int):=of_decide_eq_true (by first|(with_reducible assumption)|assumption);have Aq : x35_3 < (Ad.length : Int):=of_decide_eq_true (by first|(with_reducible assumption)|assumption);obtain ⟨Cd,Bn,Bw⟩:=Kd.at_int (Kd.R_reads' HO_33.1).2.2 x35_3 Ap Aq;cases Bn
                          replace Ap:=eq_true Ap;replace Aq:=eq_true Aq;obtain ⟨Ao36,co36,eo36⟩:=Kd.R_slice HO_3.1;subst eo36;have Ar : 0 ≤ (x14_1 : Int):=of_decide_eq_true (by first|(with_reducible assumption)|assumption);have As : x14_1 < (Ac.length : Int):=of_decide_eq_true (by first|(with_reducible assumption)|assumption);obtain ⟨Ay,Bo,Bx⟩:=Kd.at_int (Kd.R_reads' HO_3.1).2.2 x14_1 Ar As;cases Bo
                          replace Ar:=eq_true Ar;replace As:=eq_true As;have At : 0 ≤ ((rd Aa x24_2) : Int):=of_decide_eq_true (by first|(with_reducible assumption)|assumption);have Au : (rd Aa x24_2) < (Ac.length : Int):=of_decide_eq_true (by first|(with_reducible assumption)|assumption);obtain ⟨Bk,Bp,Bz⟩:=Kd.at_int (Kd.R_reads' HO_3.1).2.2 (rd Aa x24_2) At Au;obtain rfl : Ay = Bk:=(by injection Bp);replace At:=eq_true At;replace Au:=eq_true Au;have Av : 0 ≤ ((rd Ad x35_3) : Int):=of_decide_eq_true (by first|(with_reducible assumption)|assumption);have Aw : (rd Ad x35_3) < (Ac.length : Int):=of_decide_eq_true (by first|(with_reducible assumption)|assumption);obtain ⟨Bl,Bq,B0⟩:=Kd.at_int (Kd.R_reads' HO_3.1).2.2 (rd Ad x35_3) Av Aw;obtain rfl : Ay = Bl:=(by injection Bq);replace Av:=eq_true Av;replace Aw:=eq_true Aw;go_wp2_with (first|(go_at_call 72;(with_reducible refine (Aa0.calls k3 (Go.bits .and .i64 (Go.bits .and .i64 (rd Ac x14_1) (rd Ac (rd Aa x24_2))) (rd Ac (rd Ad x35_3))) Ae _ ?side1 A34.1).mono ?_);(case side1=>first|exact HT.1|exact HT.1.below bb_|(repeat (first|exact HT.1|apply TabOK.drewN|apply TabOK.drew|apply TabOK.alloc)));rintro e w37 ⟨Ca,rfl,ho0,hb⟩;have Af:=A_ (Kd.R_lower (Kd.R_new' (Kd.R_new' (Kd.R_new' ho0 (Kd.R_lt (rl_ HO_3))) (Kd.R_lt (rl_ HO_22))) (Kd.R_lt (rl_ HO_33))) (below_size bb_));replace HO_3:=A_ (Kd.R_elder' (rl_ HO_3) (Kd.R_base ho0) hb);replace HO_22:=A_ (Kd.R_elder' (rl_ HO_22) (Kd.R_base ho0) hb);replace HO_33:=A_ (Kd.R_elder' (rl_ HO_33) (Kd.R_base ho0) hb);replace Ab:=bz Ab hb;replace HB:=A_ (below_step bb_ hb);(try clear hb);(try clear hb2);(try clear hk);(try clear hi);(try clear ho0);obtain ⟨Ao38,co38,eo38⟩:=Kd.R_slice Af.1;subst eo38;have Ah : 0 ≤ (0 : Int):=(by omega);have Ai : 0 < (Ae.length : Int):=of_decide_eq_true (by first|(with_reducible assumption)|assumption);obtain ⟨Bt,Bc,Ag⟩:=Kd.at_int (Kd.R_reads' Af.1).2.2 0 Ah Ai;cases Bc;have Bu : (0 < Ae.length) = True:=eq_true (by omega);(try rw [show ((0 : Int)).toNat = 0 from rfl] at Ag);(try rw [Addr.add_zero'] at Ag);replace Ah:=eq_true Ah;replace Ai:=eq_true Ai)|((with_reducible refine gate_dst (N:=62) rfl ?_);refine Kd.R_lit (Kd.int .i64) _ 3 ?hg (N:=62) ?hd (xs:=([x14_1,(rd Aa x24_2),rd Ad x35_3,rd Ae 0] : List Int)) (inner:=[.int .i64 x14_1,.int .i64 (rd Aa x24_2),.int .i64 (rd Ad x35_3),.int .i64 (rd Ae 0)]) (ok:=fun _=>True) (okp:=fun _=>True) ?hr ?hp (fun _ hk=>hk) trivial (Below.refl _ _) (Nat.le_refl _) (by simp) ?_;(case hd=>rfl);(case hg=>rfl);(case hr=>go_simp;try rfl);(case hp=>exact (Reps.one (show Kd.M (Kd.int .i64) _ _ _ x14_1 [.int .i64 x14_1] from rfl) (Reps.one (show Kd.M (Kd.int .i64) _ _ _ (rd Aa x24_2) [.int .i64 (rd Aa x24_2)] from rfl) (Reps.one (show Kd.M (Kd.int .i64) _ _ _ (rd Ad x35_3) [.int .i64 (rd Ad x35_3)] from rfl) (Reps.one (show Kd.M (Kd.int .i64) _ _ _ (rd Ae 0) [.int .i64 (rd Ae 0)] from rfl) (Reps.none _ _))))));intro Cb w39 ho40 hb hg_ hnew_;clear hg_ hnew_;(first|rw [← Aj.1] at ho40|(simp only [Int.reduceToNat] at ho40;rw [← Aj.1] at ho40));have Bm:=A_ (Kd.R_lower (Kd.R_new' (Kd.R_new' (Kd.R_new' (Kd.R_new' ho40 (Kd.R_lt (rl_ HO_3))) (Kd.R_lt (rl_ HO_22))) (Kd.R_lt (rl_ HO_33))) (Kd.R_lt (rl_ Af))) (below_size bb_));replace HO_3:=A_ (Kd.R_elder' (rl_ HO_3) (Kd.R_base ho40) hb);replace HO_22:=A_ (Kd.R_elder' (rl_ HO_22) (Kd.R_base ho40) hb);replace HO_33:=A_ (Kd.R_elder' (rl_ HO_33) (Kd.R_base ho40) hb);replace Af:=A_ (Kd.R_elder' (rl_ Af) (Kd.R_base ho40) hb);replace Ab:=bz Ab hb;replace HB:=A_ (below_step bb_ hb);clear hb ho40))
                          repeat (go_quiet (first|(go_at_call 72;(with_reducible refine (Aa0.calls k3 (Go.bits .and .i64 (Go.bits .and .i64 (rd Ac x14_1) (rd Ac (rd Aa x24_2))) (rd Ac (rd Ad x35_3))) Ae _ ?side1 A34.1).mono ?_);(case side1=>first|exact HT.1|exact HT.1.below bb_|(repeat (first|exact HT.1|apply TabOK.drewN|apply TabOK.drew|apply TabOK.alloc)));rintro e w37 ⟨Ca,rfl,ho0,hb⟩;have Af:=A_ (Kd.R_lower (Kd.R_new' (Kd.R_new' (Kd.R_new' ho0 (Kd.R_lt (rl_ HO_3))) (Kd.R_lt (rl_ HO_22))) (Kd.R_lt (rl_ HO_33))) (below_size bb_));replace HO_3:=A_ (Kd.R_elder' (rl_ HO_3) (Kd.R_base ho0) hb);replace HO_22:=A_ (Kd.R_elder' (rl_ HO_22) (Kd.R_base ho0) hb);replace HO_33:=A_ (Kd.R_elder' (rl_ HO_33) (Kd.R_base ho0) hb);replace Ab:=bz Ab hb;replace HB:=A_ (below_step bb_ hb);(try clear hb);(try clear hb2);(try clear hk);(try clear hi);(try clear ho0);obtain ⟨Ao38,co38,eo38⟩:=Kd.R_slice Af.1;subst eo38;have Ah : 0 ≤ (0 : Int):=(by omega);have Ai : 0 < (Ae.length : Int):=of_decide_eq_true (by first|(with_reducible assumption)|assumption);obtain ⟨Bt,Bc,Ag⟩:=Kd.at_int (Kd.R_reads' Af.1).2.2 0 Ah Ai;cases Bc;have Bu : (0 < Ae.length) = True:=eq_true (by omega);(try rw [show ((0 : Int)).toNat = 0 from rfl] at Ag);(try rw [Addr.add_zero'] at Ag);replace Ah:=eq_true Ah;replace Ai:=eq_true Ai)|((with_reducible refine gate_dst (N:=62) rfl ?_);refine Kd.R_lit (Kd.int .i64) _ 3 ?hg (N:=62) ?hd (xs:=([x14_1,(rd Aa x24_2),rd Ad x35_3,rd Ae 0] : List Int)) (inner:=[.int .i64 x14_1,.int .i64 (rd Aa x24_2),.int .i64 (rd Ad x35_3),.int .i64 (rd Ae 0)]) (ok:=fun _=>True) (okp:=fun _=>True) ?hr ?hp (fun _ hk=>hk) trivial (Below.refl _ _) (Nat.le_refl _) (by simp) ?_;(case hd=>rfl);(case hg=>rfl);(case hr=>go_simp;try rfl);(case hp=>exact (Reps.one (show Kd.M (Kd.int .i64) _ _ _ x14_1 [.int .i64 x14_1] from rfl) (Reps.one (show Kd.M (Kd.int .i64) _ _ _ (rd Aa x24_2) [.int .i64 (rd Aa x24_2)] from rfl) (Reps.one (show Kd.M (Kd.int .i64) _ _ _ (rd Ad x35_3) [.int .i64 (rd Ad x35_3)] from rfl) (Reps.one (show Kd.M (Kd.int .i64) _ _ _ (rd Ae 0) [.int .i64 (rd Ae 0)] from rfl) (Reps.none _ _))))));intro Cb w39 ho40 hb hg_ hnew_;clear hg_ hnew_;(first|rw [← Aj.1] at ho40|(simp only [Int.reduceToNat] at ho40;rw [← Aj.1] at ho40));have Bm:=A_ (Kd.R_lower (Kd.R_new' (Kd.R_new' (Kd.R_new' (Kd.R_new' ho40 (Kd.R_lt (rl_ HO_3))) (Kd.R_lt (rl_ HO_22))) (Kd.R_lt (rl_ HO_33))) (Kd.R_lt (rl_ Af))) (below_size bb_));replace HO_3:=A_ (Kd.R_elder' (rl_ HO_3) (Kd.R_base ho40) hb);replace HO_22:=A_ (Kd.R_elder' (rl_ HO_22) (Kd.R_base ho40) hb);replace HO_33:=A_ (Kd.R_elder' (rl_ HO_33) (Kd.R_base ho40) hb);replace Af:=A_ (Kd.R_elder' (rl_ Af) (Kd.R_base ho40) hb);replace Ab:=bz Ab hb;replace HB:=A_ (below_step bb_ hb);clear hb ho40));try go_wp2_with (first|(go_at_call 72;(with_reducible refine (Aa0.calls k3 (Go.bits .and .i64 (Go.bits .and .i64 (rd Ac x14_1) (rd Ac (rd Aa x24_2))) (rd Ac (rd Ad x35_3))) Ae _ ?side1 A34.1).mono ?_);(case side1=>first|exact HT.1|exact HT.1.below bb_|(repeat (first|exact HT.1|apply TabOK.drewN|apply TabOK.drew|apply TabOK.alloc)));rintro e w37 ⟨Ca,rfl,ho0,hb⟩;have Af:=A_ (Kd.R_lower (Kd.R_new' (Kd.R_new' (Kd.R_new' ho0 (Kd.R_lt (rl_ HO_3))) (Kd.R_lt (rl_ HO_22))) (Kd.R_lt (rl_ HO_33))) (below_size bb_));replace HO_3:=A_ (Kd.R_elder' (rl_ HO_3) (Kd.R_base ho0) hb);replace HO_22:=A_ (Kd.R_elder' (rl_ HO_22) (Kd.R_base ho0) hb);replace HO_33:=A_ (Kd.R_elder' (rl_ HO_33) (Kd.R_base ho0) hb);replace Ab:=bz Ab hb;replace HB:=A_ (below_step bb_ hb);(try clear hb);(try clear hb2);(try clear hk);(try clear hi);(try clear ho0);obtain ⟨Ao38,co38,eo38⟩:=Kd.R_slice Af.1;subst eo38;have Ah : 0 ≤ (0 : Int):=(by omega);have Ai : 0 < (Ae.length : Int):=of_decide_eq_true (by first|(with_reducible assumption)|assumption);obtain ⟨Bt,Bc,Ag⟩:=Kd.at_int (Kd.R_reads' Af.1).2.2 0 Ah Ai;cases Bc;have Bu : (0 < Ae.length) = True:=eq_true (by omega);(try rw [show ((0 : Int)).toNat = 0 from rfl] at Ag);(try rw [Addr.add_zero'] at Ag);replace Ah:=eq_true Ah;replace Ai:=eq_true Ai)|((with_reducible refine gate_dst (N:=62) rfl ?_);refine Kd.R_lit (Kd.int .i64) _ 3 ?hg (N:=62) ?hd (xs:=([x14_1,(rd Aa x24_2),rd Ad x35_3,rd Ae 0] : List Int)) (inner:=[.int .i64 x14_1,.int .i64 (rd Aa x24_2),.int .i64 (rd Ad x35_3),.int .i64 (rd Ae 0)]) (ok:=fun _=>True) (okp:=fun _=>True) ?hr ?hp (fun _ hk=>hk) trivial (Below.refl _ _) (Nat.le_refl _) (by simp) ?_;(case hd=>rfl);(case hg=>rfl);(case hr=>go_simp;try rfl);(case hp=>exact (Reps.one (show Kd.M (Kd.int .i64) _ _ _ x14_1 [.int .i64 x14_1] from rfl) (Reps.one (show Kd.M (Kd.int .i64) _ _ _ (rd Aa x24_2) [.int .i64 (rd Aa x24_2)] from rfl) (Reps.one (show Kd.M (Kd.int .i64) _ _ _ (rd Ad x35_3) [.int .i64 (rd Ad x35_3)] from rfl) (Reps.one (show Kd.M (Kd.int .i64) _ _ _ (rd Ae 0) [.int .i64 (rd Ae 0)] from rfl) (Reps.none _ _))))));intro Cb w39 ho40 hb hg_ hnew_;clear hg_ hnew_;(first|rw [← Aj.1] at ho40|(simp only [Int.reduceToNat] at ho40;rw [← Aj.1] at ho40));have Bm:=A_ (Kd.R_lower (Kd.R_new' (Kd.R_new' (Kd.R_new' (Kd.R_new' ho40 (Kd.R_lt (rl_ HO_3))) (Kd.R_lt (rl_ HO_22))) (Kd.R_lt (rl_ HO_33))) (Kd.R_lt (rl_ Af))) (below_size bb_));replace HO_3:=A_ (Kd.R_elder' (rl_ HO_3) (Kd.R_base ho40) hb);replace HO_22:=A_ (Kd.R_elder' (rl_ HO_22) (Kd.R_base ho40) hb);replace HO_33:=A_ (Kd.R_elder' (rl_ HO_33) (Kd.R_base ho40) hb);replace Af:=A_ (Kd.R_elder' (rl_ Af) (Kd.R_base ho40) hb);replace Ab:=bz Ab hb;replace HB:=A_ (below_step bb_ hb);clear hb ho40)))
                          go_ret
                          exact ⟨_,by first|rfl|(simp [errW_none,errW_some] <;> rfl)|(simp [*,errW_none,errW_some] <;> rfl),rq_ (Kd.R_mono Bm.1 (fun _ hk=>trivial)),bb_,by first|trivial|rfl|(intro he_;first|rfl|(rw [Aj.1] at he_;cases he_)|(cases he_))⟩
                         ·rw [if_neg c35] at H;exact absurd H (by simp)
                       ·rw [if_neg c31] at H;exact absurd H (by simp)
                      ·rw [if_neg c30] at H;exact absurd H (by simp)
                     ·rw [if_neg c29] at H;exact absurd H (by simp)
                    ·rw [if_neg c28] at H;exact absurd H (by simp)
                   ·rw [if_neg c27] at H;exact absurd H (by simp)
                  ·rw [if_neg c26] at H;exact absurd H (by simp)
                 ·rw [if_neg c25] at H;exact absurd H (by simp)
                ·rw [if_neg c24] at H;exact absurd H (by simp)
               ·rw [if_neg c23] at H;have c23b0 : decide (x35_3 < (Ad.length : Int)) = false:=decide_eq_false c23;clear c23;have H':=A_ H;clear H;go_wp2
                repeat (go_quiet (fail);try go_wp2)
                go_roundg k3
                case measure=>have:=HK1.1;have:=HK2.1;have:=HK3.1;omega
                case rel=>exact ⟨(wrap64 (x24_2 + 1)),(by first|rfl|(simp;done)|(simp [*];done)),H',⟨by have:=HK1.1;have:=HK2.1;have:=HK3.1;omega⟩,⟨rq_ (Kd.R_mono HO_3.1 (fun _ hk=>hk.1))⟩,⟨rq_ (Kd.R_mono HO_22.1 (fun _ hk=>hk.1))⟩,⟨bl_ Ab⟩,⟨bb_⟩⟩
            ·rw [if_neg c18] at H;exact absurd H (by simp)
           ·rw [if_neg c17] at H;exact absurd H (by simp)
          ·rw [if_neg c16] at H;exact absurd H (by simp)
         ·rw [if_neg c15] at H;exact absurd H (by simp)
        ·rw [if_neg c14] at H;have c14b0 : decide (x24_2 < (Aa.length : Int)) = false:=decide_eq_false c14;clear c14;have H':=A_ H;clear H;go_wp2
         repeat (go_quiet (fail);try go_wp2)
         go_roundg k2
         case measure=>have:=HK1.1;have:=HK2.1;omega
         case rel=>exact ⟨(wrap64 (x14_1 + 1)),(by first|rfl|(simp;done)|(simp [*];done)),H',⟨by have:=HK1.1;have:=HK2.1;omega⟩,⟨rq_ (Kd.R_mono HO_3.1 (fun _ hk=>trivial))⟩,⟨bl_ Ab⟩,⟨bb_⟩⟩
     ·rw [if_neg c9] at H;exact absurd H (by simp)
    ·rw [if_neg c8] at H;exact absurd H (by simp)
   ·rw [if_neg c7] at H;have c7b0 : decide (x14_1 < a0_0) = false:=decide_eq_false c7;clear c7;obtain rfl:=Option.some.inj H;go_wp2
    repeat (go_quiet (fail);try go_wp2)
    go_ret
    exact ⟨_,by first|rfl|(simp [errW_none,errW_some] <;> rfl)|(simp [*,errW_none,errW_some] <;> rfl),by first|exact Kd.R_nil _ _ _ _ _|exact Kd.N_nil _ _ _ _ _|exact Kd.V_nil _ _ _ _ _|exact Kd.Q_nil _ _ _ _ _|exact Kd.S_nil _ _ _ _ _,bb_,by first|trivial|rfl|(intro he_;first|rfl|(rw [Aj.1] at he_;cases he_)|(cases he_))⟩
end Go.Proofs.YtfjpilcmjabikaaDoor.P

