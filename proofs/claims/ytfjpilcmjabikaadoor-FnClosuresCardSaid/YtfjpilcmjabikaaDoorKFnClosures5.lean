/- A part of the proof that the law FnClosures holds at every input. Written by wip/pack.py: the kit's printed words that are used, the functions' walks as wip/gen.py prints them, and hand proofs. -/
import Derived.Test.YtfjpilcmjabikaaDoorKFnClosures4
namespace Go.Proofs.YtfjpilcmjabikaaDoor.P
open Go.RowKit Go.Proofs.YtfjpilcmjabikaaDoorW.PrintWords Go.Proofs.YtfjpilcmjabikaaDoorW.PrintLast Go.Proofs.YtfjpilcmjabikaaDoorW.PrintMore
open Bool renaming true → T, false → F
open List renaming setIfInBounds_toArray → L_, set_cons_zero → M_, set_cons_succ → N_, map_toArray → P_, map_cons → Q_, map_nil → R_, length_drop → S_, length_take → U_
open Aside0 renaming mk → A_
attribute [local go_sem] max2_int min2_int max_two min_two max_three min_three max_four min_four
set_option linter.unusedVariables false
set_option linter.unusedSimpArgs false
attribute [local go_sem] fldOrder_0 fldOrder_1
set_option maxHeartbeats 8000000 in
set_option maxRecDepth 100000 in
theorem Aab.calls.rest1.rest1.rest2 : Aab.calls.rest1.rest1.part.2.1:=by
 intro k A0 c0 l0 A1 c1 l1 r w hu26 HT HR0 HC0 HR1 HC1 A3 Cm Jg A5 Cn Jh Ji A6 Co Jj i0_ nd w9 B0 w10 H6 H7 Ao12 co12 w13 B2 w14 H8 H9 Eu Ew hnb15 hnc15 Ao17 co17 w19 B4 w20 Ia Ib Ex Ey Ez E0 hnb21 hnc21 hnb22 hnc22 Ao24 co24 Ic Id Ie kj7 HJ7 Bd Jk Cp Jl Jm A35 hnb37 hnc37 hnb38 hnc38 w40 Bp w41 If Ig Dh Di Dj Dk Dl Dm hnb42 hnc42 hnb43 hnc43 hnb44 hnc44 Ao46 co46 w48 B5 w49 Ih Ii E1 E2 E3 E4 E5 E6 Dn Do hnb50 hnc50 hnb51 hnc51 hnb52 hnc52 hnb53 hnc53 Ao55 co55 Ij Ik Il kj35 HJ35 A7 Cq Jn Jo A86 hnb88 hnc88 hnb89 hnc89 hnb90 hnc90 hnb91 hnc91 w93 B6 w94 Im In E7 E8 E9 Fa Fb Fc Dp Dq Fd Fe hnb95 hnc95 hnb96 hnc96 hnb97 hnc97 hnb98 hnc98 hnb99 hnc99 Io Ip Iq kj86 HJ86 F9 Ga Gb Gc Gd Ge Gf Gg Gh Gi u17 u18 x16_4 Gj k4 HK4 Jp Jq c190b3 A34 Cr Jr Js Jt Gk Gl Gm Gn Gp Gq Gr Gs Gt Gu Ju Gv Gw Gx Gy Gz G0 G1 G2 Jv B7 Jw Ir Is Ff Fg Fh Fi Fj Fk Dr Ds Fl Fm Fn Fo G3 G4 G5 G6 G7 G8 G9 Ha Hb Hc Hd He It Iu Hf Iv wc u26 u27 u28 u29 u30 u31 u32 u33 u34 u35 u36 u37 u38 u39 u40 u41 u42 u43 u44 u45 u46 u47 u48 u49 u50 u51 u52 u53 u54 u55 u56 u57 u58 u59 u60 u61 u62 u63 u64 u65 u66 u67 u68 u69 u70 u71 u72 u73 u74 u75 u76 u77 u78 u79 u80 u81 u82 u83 u84 u85 u86 u87 u88 u89 u90 u91 u92 u93 u94 u95 u96 u97 u98 u99 Jx Jy Jz J0 J1 J2 J3 J4 J5 J6 J7 J8 J9 Ka Kb Ke Kf Kg Kh Ki Kj Kk Kl Km Kn Ko Kp Kq Kr Ks Kt Ku Kv Kw Kx Ky Kz K0 K1 K2 Iw Ec Hg Hh Hi Hj Hk Hl Hm Hn Ho Hp Hq Hr i79_ i80_ u21 K3 K4 K5 K6 K7 K8 K9 Ix Iy Iz Aq Fp Fq Fr Fs Ft Fu Fv k6 I0 HK6 Hs Ht Hu Hv Hw Hx Hy Hz H0 H2 H3 H4 I1 I2 I3 I4 wr u4 u22 u23 u24 u25 La Lb Lc Ld Le Lf Lg Lh Li Lj Lk Ll Lm Ln Lo Lp Lq Lr Ls Lu Lv Lw Lx Ly Lz L0 L1 L2 L3 L4 L5 L6 L7 L8 L9 Ma Mb Mc Md Me Mf Mg Mh I5 I6 I7 C7 Cb Cc Cd Aa Ce Cf Cg Ai Aj Ak F6 Al Am An Ac Ad Ae Ab Af Ag Ah At Au Av Ao Aw Ax Ay HB k7 I8 HK7 c256b0 c257b0 c258b0 Fw D2 Da Db Az Dd c262b0 c263b0 c263b1 Bi H5 F7 hji264z hji264u hji264v hji264y hji264x Dc El Cs Cj Fx c268b0 Mi H Fy D3
 replace D3:=Bool.eq_false_iff.mpr D3;subst D3;rw [if_neg nf_] at H;have H':=A_ H;clear H;have Z:=Di.1;have Z:=Dh.1;have Z:=Dk.1;have Z:=Dj.1;have Z:=Dm.1;have Z:=Dl.1;have Z:=Dn.1;have Z:=Do.1;have Z:=Dp.1;have Z:=Dq.1;have Z:=Dr.1;have Z:=Ds.1;obtain ⟨Z,Z,Z,Z⟩:=o2_ Ao.1;obtain ⟨I9,Ar,Em⟩:=Kd.R_slice Ab.1;subst Em;have D4 : 0 ≤ (Aq : Int):=of_decide_eq_true (by first|(with_reducible assumption)|assumption);have D5 : Aq < (Aa.length : Int):=of_decide_eq_true (by first|(with_reducible assumption)|assumption);obtain ⟨As,Fz,F8⟩:=Kd.at_int (Kd.R_reads' Ab.1).2.2 Aq D4 D5;cases Fz
 replace D4:=eq_true D4;replace D5:=eq_true D5;try go_wp2_with (first|((with_reducible refine gate_callee (f:=17) rfl ?_);refine goesL_ (some 160) rfl rfl Tryd.func17 (by kernel_rfl) rfl #[.int .i64 (rd Aa Aq),.int .i64 C7] rfl au_ ?_;(with_reducible refine (Aa8.calls (rd Aa Aq) C7 true _ Fw.1).mono ?_);rintro e w' ⟨rfl,⟨nd,rfl⟩⟩;refine ⟨_,rfl,?_⟩;(try (rw [drewN_self wr];generalize hq_ : World.drewN wr _ = wr;have n0_ : Aside0 (Kd.R (Kd.int .i64) 3 wr w.heap.size (fun k_=>some k_ ≠ (Aj : Value).ownBlock ∧ some k_ ≠ (Ak : Value).ownBlock ∧ some k_ ≠ (.slice (some As) Aa.length Ar : Value).ownBlock ∧ some k_ ≠ (Al : Value).ownBlock ∧ some k_ ≠ (Am : Value).ownBlock ∧ some k_ ≠ (An : Value).ownBlock) Ai Cb):=⟨by rw [← hq_];exact (rl_ Ac)⟩;have n1_ : Aside0 (Kd.R (Kd.int .i64) 3 wr w.heap.size (fun k_=>some k_ ≠ (Ai : Value).ownBlock ∧ some k_ ≠ (Ak : Value).ownBlock ∧ some k_ ≠ (.slice (some As) Aa.length Ar : Value).ownBlock ∧ some k_ ≠ (Al : Value).ownBlock ∧ some k_ ≠ (Am : Value).ownBlock ∧ some k_ ≠ (An : Value).ownBlock) Aj Cc):=⟨by rw [← hq_];exact (rl_ Ad)⟩;have n2_ : Aside0 (Kd.R (Kd.int .i64) 3 wr w.heap.size (fun k_=>some k_ ≠ (Ai : Value).ownBlock ∧ some k_ ≠ (Aj : Value).ownBlock ∧ some k_ ≠ (.slice (some As) Aa.length Ar : Value).ownBlock ∧ some k_ ≠ (Al : Value).ownBlock ∧ some k_ ≠ (Am : Value).ownBlock ∧ some k_ ≠ (An : Value).ownBlock) Ak Cd):=⟨by rw [← hq_];exact (rl_ Ae)⟩;have n3_ : Aside0 (Kd.R (Kd.int .i64) 3 wr w.heap.size (fun k_=>some k_ ≠ (Ai : Value).ownBlock ∧ some k_ ≠ (Aj : Value).ownBlock ∧ some k_ ≠ (Ak : Value).ownBlock ∧ some k_ ≠ (Al : Value).ownBlock ∧ some k_ ≠ (Am : Value).ownBlock ∧ some k_ ≠ (An : Value).ownBlock) (.slice (some As) Aa.length Ar) Aa):=⟨by rw [← hq_];exact (rl_ Ab)⟩;have n4_ : Aside0 (Kd.R (Kd.int .i64) 3 wr w.heap.size (fun k_=>some k_ ≠ (Ai : Value).ownBlock ∧ some k_ ≠ (Aj : Value).ownBlock ∧ some k_ ≠ (Ak : Value).ownBlock ∧ some k_ ≠ (.slice (some As) Aa.length Ar : Value).ownBlock ∧ some k_ ≠ (Am : Value).ownBlock ∧ some k_ ≠ (An : Value).ownBlock) Al Ce):=⟨by rw [← hq_];exact (rl_ Af)⟩;have n5_ : Aside0 (Kd.R (Kd.int .i64) 3 wr w.heap.size (fun k_=>some k_ ≠ (Ai : Value).ownBlock ∧ some k_ ≠ (Aj : Value).ownBlock ∧ some k_ ≠ (Ak : Value).ownBlock ∧ some k_ ≠ (.slice (some As) Aa.length Ar : Value).ownBlock ∧ some k_ ≠ (Al : Value).ownBlock ∧ some k_ ≠ (An : Value).ownBlock) Am Cf):=⟨by rw [← hq_];exact (rl_ Ag)⟩;have n6_ : Aside0 (Kd.R (Kd.int .i64) 3 wr w.heap.size (fun k_=>some k_ ≠ (Ai : Value).ownBlock ∧ some k_ ≠ (Aj : Value).ownBlock ∧ some k_ ≠ (Ak : Value).ownBlock ∧ some k_ ≠ (.slice (some As) Aa.length Ar : Value).ownBlock ∧ some k_ ≠ (Al : Value).ownBlock ∧ some k_ ≠ (Am : Value).ownBlock) An Cg):=⟨by rw [← hq_];exact (rl_ Ah)⟩;have n7_ : Aside0 (wr.heap[B0]? = some (.cells #[.int .i64 Cm,Ai] 26 (0,0))):=⟨by rw [← hq_];exact (bl_ At)⟩;have n8_ : Aside0 (wr.heap[B2]? = some (.cells #[.int .i64 Cn,Aj] 26 (0,0))):=⟨by rw [← hq_];exact (bl_ Au)⟩;have n9_ : Aside0 (wr.heap[B4]? = some (.cells #[.int .i64 Co,Ak] 26 (0,0))):=⟨by rw [← hq_];exact (bl_ Av)⟩;have n10_ : Aside0 (wr.heap[Bp]? = some (.cells #[.int .i64 Bd,.slice (some As) Aa.length Ar] 26 (0,0))):=⟨by rw [← hq_];exact (bl_ Ao)⟩;have n11_ : Aside0 (wr.heap[B5]? = some (.cells #[.int .i64 Cp,Al] 26 (0,0))):=⟨by rw [← hq_];exact (bl_ Aw)⟩;have n12_ : Aside0 (wr.heap[B6]? = some (.cells #[.int .i64 Cq,Am] 26 (0,0))):=⟨by rw [← hq_];exact (bl_ Ax)⟩;have n13_ : Aside0 (wr.heap[B7]? = some (.cells #[.int .i64 Cr,An] 26 (0,0))):=⟨by rw [← hq_];exact (bl_ Ay)⟩;have n14_ : Aside0 (Below w.heap.size w wr):=⟨by rw [← hq_];exact bb_⟩;clear Ac Ad Ae Ab Af Ag Ah At Au Av Ao Aw Ax Ay HB hq_;have Ac:=n0_;have Ad:=n1_;have Ae:=n2_;have Ab:=n3_;have Af:=n4_;have Ag:=n5_;have Ah:=n6_;have At:=n7_;have Au:=n8_;have Av:=n9_;have Ao:=n10_;have Aw:=n11_;have Ax:=n12_;have Ay:=n13_;have HB:=n14_;clear n0_ n1_ n2_ n3_ n4_ n5_ n6_ n7_ n8_ n9_ n10_ n11_ n12_ n13_ n14_;have Z : wr.cell? ⟨B0,0,none⟩ = some (.int .i64 Cm):=blk_cell At.1 0;have Z:=blk_frozen At.1 0;have Z : wr.cell? ⟨B0,1,none⟩ = some (Ai):=blk_cell At.1 1;have Z:=blk_frozen At.1 1;have Z : wr.cell? ⟨B2,0,none⟩ = some (.int .i64 Cn):=blk_cell Au.1 0;have Z:=blk_frozen Au.1 0;have Z : wr.cell? ⟨B2,1,none⟩ = some (Aj):=blk_cell Au.1 1;have Z:=blk_frozen Au.1 1;have Z : wr.cell? ⟨B4,0,none⟩ = some (.int .i64 Co):=blk_cell Av.1 0;have Z:=blk_frozen Av.1 0;have Z : wr.cell? ⟨B4,1,none⟩ = some (Ak):=blk_cell Av.1 1;have Z:=blk_frozen Av.1 1;have Z : wr.cell? ⟨Bp,0,none⟩ = some (.int .i64 Bd):=blk_cell Ao.1 0;have Z:=blk_frozen Ao.1 0;have Z : wr.cell? ⟨Bp,1,none⟩ = some (.slice (some As) Aa.length Ar):=blk_cell Ao.1 1;have Z:=blk_frozen Ao.1 1;have Z : wr.cell? ⟨B5,0,none⟩ = some (.int .i64 Cp):=blk_cell Aw.1 0;have Z:=blk_frozen Aw.1 0;have Z : wr.cell? ⟨B5,1,none⟩ = some (Al):=blk_cell Aw.1 1;have Z:=blk_frozen Aw.1 1;have Z : wr.cell? ⟨B6,0,none⟩ = some (.int .i64 Cq):=blk_cell Ax.1 0;have Z:=blk_frozen Ax.1 0;have Z : wr.cell? ⟨B6,1,none⟩ = some (Am):=blk_cell Ax.1 1;have Z:=blk_frozen Ax.1 1;have Z : wr.cell? ⟨B7,0,none⟩ = some (.int .i64 Cr):=blk_cell Ay.1 0;have Z:=blk_frozen Ay.1 0;have Z : wr.cell? ⟨B7,1,none⟩ = some (An):=blk_cell Ay.1 1;have Z:=blk_frozen Ay.1 1))))
 have n0_:=A_ (Kd.R_drew Ac.1);have n1_:=A_ (Kd.R_drew Ad.1);have n2_:=A_ (Kd.R_drew Ae.1);have n3_:=A_ (Kd.R_drew Ab.1);have n4_:=A_ (Kd.R_drew Af.1);have n5_:=A_ (Kd.R_drew Ag.1);have n6_:=A_ (Kd.R_drew Ah.1);have n7_:=A_ (blk_drew At.1);have n8_:=A_ (blk_drew Au.1);have n9_:=A_ (blk_drew Av.1);have n10_:=A_ (blk_drew Ao.1);have n11_:=A_ (blk_drew Aw.1);have n12_:=A_ (blk_drew Ax.1);have n13_:=A_ (blk_drew Ay.1);have n14_:=A_ (below_drew1 HB.1);clear Ac;clear Ad;clear Ae;clear Ab;clear Af;clear Ag;clear Ah;clear At;clear Au;clear Av;clear Ao;clear Aw;clear Ax;clear Ay;clear HB;have Ac:=n0_;have Ad:=n1_;have Ae:=n2_;have Ab:=n3_;have Af:=n4_;have Ag:=n5_;have Ah:=n6_;have At:=n7_;have Au:=n8_;have Av:=n9_;have Ao:=n10_;have Aw:=n11_;have Ax:=n12_;have Ay:=n13_;have HB:=n14_;clear n0_ n1_ n2_ n3_ n4_ n5_ n6_ n7_ n8_ n9_ n10_ n11_ n12_ n13_ n14_;refine start_ (n:=9) (S:=fun w'=>w'.cell? ⟨Bp,0,none⟩ = some (.int .i64 Bd) ∧ w'.cell? ⟨Bp,1,none⟩ = some (.slice (some As) Aa.length Ar)) (ds:=[]) #[F,F,F,F,F,F,F,F,F] (by kernel_rfl) rfl rfl ⟨blk_cell Ao.1 0,blk_cell Ao.1 1⟩ (fun hHeld=>?_);refine with_tabW Aab.tab39 Aab.bits39 (fun HT_ HW_=>?_)
 generalize wr.drew = Mj at Ac Ad Ae Ab Af Ag Ah At Au Av Ao Aw Ax Ay HB hHeld ⊢
 refine pu_ (i:=0) (N:=162) #[T,F,F,F,F,F,F,F,F] HT_.1 rfl rfl (fun _ _ _ h=>h) rfl (h:=?_)
 refine pu_ (i:=3) (N:=165) #[T,F,F,T,F,F,F,F,F] HT_.1 rfl rfl (fun _ _ _ h=>h) rfl (h:=?_)
 refine take_ (i:=1) (N:=some 163) (v:=?_) (a':=?_) #[T,T,F,T,F,F,F,F,F] rfl rfl (take_ofW HT_.1 HW_.1 (by kernel_rfl)) (fun _ _ _ h=>h) (Or.inl ⟨by rfl,?_⟩) hHeld ?_ ?_
 rotate_left
 ·rintro w' ⟨s0,s1⟩
  go_simp
  with_reducible rfl
 rotate_left;·simp only [Act.put,L_,M_,N_,i64_w,i32_w];rfl
 refine take_ (i:=4) (N:=some 166) (v:=?_) (a':=?_) #[T,T,F,T,T,F,F,F,F] rfl rfl (take_ofW HT_.1 HW_.1 (by kernel_rfl)) (fun _ _ _ h=>h) (Or.inl ⟨by rfl,?_⟩) hHeld ?_ ?_
 rotate_left
 ·rintro w' ⟨s0,s1⟩
  go_simp
  with_reducible rfl
 rotate_left;·simp only [Act.put,L_,M_,N_,i64_w,i32_w];rfl
 refine join_ (σ:=Value × Value × Nat) 1 #[T,T,T,T,T,T,T,T,F] (fun s_=>[(164,s_.1),(167,s_.2.1),(23,.pointer (some ⟨s_.2.2,0,none⟩)),(168,.agg #[.int .i64 Bd,s_.2.1])]) (fun s_ w'=>(w'.cell? ⟨Bp,0,none⟩ = some (.int .i64 Bd) ∧ w'.cell? ⟨Bp,1,none⟩ = some (.slice (some As) Aa.length Ar)) ∧ (Kd.R (Kd.int .i64) 3 w' w.heap.size (fun k_=>some k_ ≠ (Ai : Value).ownBlock ∧ some k_ ≠ (Aj : Value).ownBlock ∧ some k_ ≠ (Ak : Value).ownBlock ∧ some k_ ≠ (.slice (some As) Aa.length Ar : Value).ownBlock ∧ some k_ ≠ (Al : Value).ownBlock ∧ some k_ ≠ (Am : Value).ownBlock ∧ some k_ ≠ (An : Value).ownBlock) s_.2.1 Az) ∧ (Kd.R (Kd.int .i64) 3 w' w.heap.size (fun k_=>some k_ ≠ (s_.2.1 : Value).ownBlock ∧ some k_ ≠ (Aj : Value).ownBlock ∧ some k_ ≠ (Ak : Value).ownBlock ∧ some k_ ≠ (.slice (some As) Aa.length Ar : Value).ownBlock ∧ some k_ ≠ (Al : Value).ownBlock ∧ some k_ ≠ (Am : Value).ownBlock ∧ some k_ ≠ (An : Value).ownBlock) Ai Cb) ∧ (Kd.R (Kd.int .i64) 3 w' w.heap.size (fun k_=>some k_ ≠ (s_.2.1 : Value).ownBlock ∧ some k_ ≠ (Ai : Value).ownBlock ∧ some k_ ≠ (Ak : Value).ownBlock ∧ some k_ ≠ (.slice (some As) Aa.length Ar : Value).ownBlock ∧ some k_ ≠ (Al : Value).ownBlock ∧ some k_ ≠ (Am : Value).ownBlock ∧ some k_ ≠ (An : Value).ownBlock) Aj Cc) ∧ (Kd.R (Kd.int .i64) 3 w' w.heap.size (fun k_=>some k_ ≠ (s_.2.1 : Value).ownBlock ∧ some k_ ≠ (Ai : Value).ownBlock ∧ some k_ ≠ (Aj : Value).ownBlock ∧ some k_ ≠ (.slice (some As) Aa.length Ar : Value).ownBlock ∧ some k_ ≠ (Al : Value).ownBlock ∧ some k_ ≠ (Am : Value).ownBlock ∧ some k_ ≠ (An : Value).ownBlock) Ak Cd) ∧ (Kd.R (Kd.int .i64) 3 w' w.heap.size (fun k_=>some k_ ≠ (s_.2.1 : Value).ownBlock ∧ some k_ ≠ (Ai : Value).ownBlock ∧ some k_ ≠ (Aj : Value).ownBlock ∧ some k_ ≠ (Ak : Value).ownBlock ∧ some k_ ≠ (Al : Value).ownBlock ∧ some k_ ≠ (Am : Value).ownBlock ∧ some k_ ≠ (An : Value).ownBlock) (.slice (some As) Aa.length Ar) Aa) ∧ (Kd.R (Kd.int .i64) 3 w' w.heap.size (fun k_=>some k_ ≠ (s_.2.1 : Value).ownBlock ∧ some k_ ≠ (Ai : Value).ownBlock ∧ some k_ ≠ (Aj : Value).ownBlock ∧ some k_ ≠ (Ak : Value).ownBlock ∧ some k_ ≠ (.slice (some As) Aa.length Ar : Value).ownBlock ∧ some k_ ≠ (Am : Value).ownBlock ∧ some k_ ≠ (An : Value).ownBlock) Al Ce) ∧ (Kd.R (Kd.int .i64) 3 w' w.heap.size (fun k_=>some k_ ≠ (s_.2.1 : Value).ownBlock ∧ some k_ ≠ (Ai : Value).ownBlock ∧ some k_ ≠ (Aj : Value).ownBlock ∧ some k_ ≠ (Ak : Value).ownBlock ∧ some k_ ≠ (.slice (some As) Aa.length Ar : Value).ownBlock ∧ some k_ ≠ (Al : Value).ownBlock ∧ some k_ ≠ (An : Value).ownBlock) Am Cf) ∧ (Kd.R (Kd.int .i64) 3 w' w.heap.size (fun k_=>some k_ ≠ (s_.2.1 : Value).ownBlock ∧ some k_ ≠ (Ai : Value).ownBlock ∧ some k_ ≠ (Aj : Value).ownBlock ∧ some k_ ≠ (Ak : Value).ownBlock ∧ some k_ ≠ (.slice (some As) Aa.length Ar : Value).ownBlock ∧ some k_ ≠ (Al : Value).ownBlock ∧ some k_ ≠ (Am : Value).ownBlock) An Cg) ∧ (w'.heap[B0]? = some (.cells #[.int .i64 Cm,Ai] 26 (0,0))) ∧ (w'.heap[B2]? = some (.cells #[.int .i64 Cn,Aj] 26 (0,0))) ∧ (w'.heap[B4]? = some (.cells #[.int .i64 Co,Ak] 26 (0,0))) ∧ (w'.heap[Bp]? = some (.cells #[.int .i64 Bd,.slice (some As) Aa.length Ar] 26 (0,0))) ∧ (w'.heap[B5]? = some (.cells #[.int .i64 Cp,Al] 26 (0,0))) ∧ (w'.heap[B6]? = some (.cells #[.int .i64 Cq,Am] 26 (0,0))) ∧ (w'.heap[B7]? = some (.cells #[.int .i64 Cr,An] 26 (0,0))) ∧ (w'.heap[s_.2.2]? = some (.cells #[.int .i64 0,.slice none 0 0] 26 (0,0))) ∧ (w.heap.size ≤ s_.2.2) ∧ (w.heap.size ≤ s_.2.2) ∧ (B0 ≠ s_.2.2) ∧ (s_.2.2 ≠ B0) ∧ (B2 ≠ s_.2.2) ∧ (s_.2.2 ≠ B2) ∧ (B4 ≠ s_.2.2) ∧ (s_.2.2 ≠ B4) ∧ (Bp ≠ s_.2.2) ∧ (s_.2.2 ≠ Bp) ∧ (B5 ≠ s_.2.2) ∧ (s_.2.2 ≠ B5) ∧ (B6 ≠ s_.2.2) ∧ (s_.2.2 ≠ B6) ∧ (B7 ≠ s_.2.2) ∧ (s_.2.2 ≠ B7) ∧ (Below w.heap.size w w')) ?_ ?_
 rotate_left
 ·intro hCont
  refine two_ (i:=2) (j:=7) (Ni:=some 164) (Nj:=some 23) #[T,T,T,T,T,F,F,F,F] #[T,T,F,T,T,F,F,T,F] rfl rfl rfl rfl (two_of HT_.1 (by kernel_rfl)) (by decide) (by decide) (fun K hK=>?_) (fun K hK=>?_)
  ·skip
   refine Kd.R_lit_step (Kd.int .i64) _ 3 ?hg (N:=164) ?hd (xs:=([] : List Int)) (inner:=[]) (ok:=fun _=>True) (okp:=fun _=>True) ?hr ?hp (fun _ hk=>hk) trivial (Below.refl _ _) (Nat.le_refl _) (by simp) ?_;(case hd=>rfl);(case hg=>rfl);(case hr=>go_simp;try rfl);(case hp=>exact (Reps.none _ _))
   intro Cu F0 B8 hb hg_ hnew_
   clear hg_ hnew_;(first|rw [← Da.1] at B8|(simp only [Int.reduceToNat] at B8;rw [← Da.1] at B8))
   have n0_:=A_ (Kd.R_elder' (rl_ Ac) (Kd.R_base B8) hb);have n1_:=A_ (Kd.R_elder' (rl_ Ad) (Kd.R_base B8) hb);have n2_:=A_ (Kd.R_elder' (rl_ Ae) (Kd.R_base B8) hb);have n3_:=A_ (Kd.R_elder' (rl_ Ab) (Kd.R_base B8) hb);have n4_:=A_ (Kd.R_elder' (rl_ Af) (Kd.R_base B8) hb);have n5_:=A_ (Kd.R_elder' (rl_ Ag) (Kd.R_base B8) hb);have n6_:=A_ (Kd.R_elder' (rl_ Ah) (Kd.R_base B8) hb);have n7_:=A_ (Kd.R_lower (Kd.R_new' (Kd.R_new' (Kd.R_new' (Kd.R_new' (Kd.R_new' (Kd.R_new' (Kd.R_new' B8 (Kd.R_lt (rl_ Ac))) (Kd.R_lt (rl_ Ad))) (Kd.R_lt (rl_ Ae))) (Kd.R_lt (rl_ Ab))) (Kd.R_lt (rl_ Af))) (Kd.R_lt (rl_ Ag))) (Kd.R_lt (rl_ Ah))) (below_size bb_));have n8_:=bz At hb;have n9_:=bz Au hb;have n10_:=bz Av hb;have n11_:=bz Ao hb;have n12_:=bz Aw hb;have n13_:=bz Ax hb;have n14_:=bz Ay hb;have n15_:=A_ (below_step bb_ hb);clear Ac;clear Ad;clear Ae;clear Ab;clear Af;clear Ag;clear Ah;clear At;clear Au;clear Av;clear Ao;clear Aw;clear Ax;clear Ay;clear HB;have Ac:=n0_;have Ad:=n1_;have Ae:=n2_;have Ab:=n3_;have Af:=n4_;have Ag:=n5_;have Ah:=n6_;have Bf:=n7_;have At:=n8_;have Au:=n9_;have Av:=n10_;have Ao:=n11_;have Aw:=n12_;have Ax:=n13_;have Ay:=n14_;have HB:=n15_;clear n0_ n1_ n2_ n3_ n4_ n5_ n6_ n7_ n8_ n9_ n10_ n11_ n12_ n13_ n14_ n15_;clear hb B8;refine hK.out _ _ ⟨blk_cell Ao.1 0,blk_cell Ao.1 1⟩ (fun hHeld=>?_)
   clear hK K;refine norm_ (a':=?_) ?_ ?_
   rotate_left
   ·show Act.put _ (some 164) _ = _
    simp only [Act.put,L_,M_,N_,i64_w,i32_w]
    rfl
   refine two_ (i:=5) (j:=7) (Ni:=some 167) (Nj:=some 23) #[T,T,T,T,T,T,F,F,F] #[T,T,T,T,T,F,F,T,F] rfl rfl rfl rfl (two_of HT_.1 (by kernel_rfl)) (by decide) (by decide) (fun K hK=>?_) (fun K hK=>?_)
   ·skip
    refine Kd.R_append_rows_step (Kd.int .i64) (w0:=w) w.heap.size (by rfl) (.tmp 164) (.tmp 166) 24 3 (.int .i64 0) 8 rfl Tryd.underlying24 info3 rfl (by decide) (by omega) Cu D2 Aa _ _ _ (fun k_=>some k_ ≠ (Ai : Value).ownBlock ∧ some k_ ≠ (Aj : Value).ownBlock ∧ some k_ ≠ (Ak : Value).ownBlock ∧ some k_ ≠ (.slice (some As) Aa.length Ar : Value).ownBlock ∧ some k_ ≠ (Al : Value).ownBlock ∧ some k_ ≠ (Am : Value).ownBlock ∧ some k_ ≠ (An : Value).ownBlock) (fun _=>False) rfl rfl ?aO ?aR (fun _ _ h=>h) (fun _ h=>h.elim) ?aF ?aB ?aS ?aL ?_
    (case aR=>exact cl_ (Kd.R_reads' Ab.1).2.2)
    (case aB=>exact bb_)
    (case aF=>exact (fun k_ hk=>⟨Kd.fresh' (Kd.R_lt (rl_ Ac)) k_ hk,Kd.fresh' (Kd.R_lt (rl_ Ad)) k_ hk,Kd.fresh' (Kd.R_lt (rl_ Ae)) k_ hk,Kd.fresh' (Kd.R_lt (rl_ Ab)) k_ hk,Kd.fresh' (Kd.R_lt (rl_ Af)) k_ hk,Kd.fresh' (Kd.R_lt (rl_ Ag)) k_ hk,Kd.fresh' (Kd.R_lt (rl_ Ah)) k_ hk⟩))
    (case aO=>exact (rq_ (Kd.R_mono Bf.1 (fun _ hk=>⟨hk.1.1.1.1.1.1.2,⟨hk.1.1.1.1.1.2,⟨hk.1.1.1.1.2,⟨hk.1.1.1.2,⟨hk.1.1.2,⟨hk.1.2,hk.2⟩⟩⟩⟩⟩⟩))))
    (case aS=>exact (below_size bb_))
    (case aL=>have:=Db.1;omega)
    intro Ck F1 ho hb hg hat
    rw [← Dd.1] at ho;have n0_:=A_ (Kd.R_after (ok:=(fun k_=>some k_ ≠ (Aj : Value).ownBlock ∧ some k_ ≠ (Ak : Value).ownBlock ∧ some k_ ≠ (.slice (some As) Aa.length Ar : Value).ownBlock ∧ some k_ ≠ (Al : Value).ownBlock ∧ some k_ ≠ (Am : Value).ownBlock ∧ some k_ ≠ (An : Value).ownBlock)) (rl_ Ac) hg hat);have n1_:=A_ (Kd.R_after (ok:=(fun k_=>some k_ ≠ (Ai : Value).ownBlock ∧ some k_ ≠ (Ak : Value).ownBlock ∧ some k_ ≠ (.slice (some As) Aa.length Ar : Value).ownBlock ∧ some k_ ≠ (Al : Value).ownBlock ∧ some k_ ≠ (Am : Value).ownBlock ∧ some k_ ≠ (An : Value).ownBlock)) (rl_ Ad) hg hat);have n2_:=A_ (Kd.R_after (ok:=(fun k_=>some k_ ≠ (Ai : Value).ownBlock ∧ some k_ ≠ (Aj : Value).ownBlock ∧ some k_ ≠ (.slice (some As) Aa.length Ar : Value).ownBlock ∧ some k_ ≠ (Al : Value).ownBlock ∧ some k_ ≠ (Am : Value).ownBlock ∧ some k_ ≠ (An : Value).ownBlock)) (rl_ Ae) hg hat);have n3_:=A_ (Kd.R_after (ok:=(fun k_=>some k_ ≠ (Ai : Value).ownBlock ∧ some k_ ≠ (Aj : Value).ownBlock ∧ some k_ ≠ (Ak : Value).ownBlock ∧ some k_ ≠ (Al : Value).ownBlock ∧ some k_ ≠ (Am : Value).ownBlock ∧ some k_ ≠ (An : Value).ownBlock)) (rl_ Ab) hg hat);have n4_:=A_ (Kd.R_after (ok:=(fun k_=>some k_ ≠ (Ai : Value).ownBlock ∧ some k_ ≠ (Aj : Value).ownBlock ∧ some k_ ≠ (Ak : Value).ownBlock ∧ some k_ ≠ (.slice (some As) Aa.length Ar : Value).ownBlock ∧ some k_ ≠ (Am : Value).ownBlock ∧ some k_ ≠ (An : Value).ownBlock)) (rl_ Af) hg hat);have n5_:=A_ (Kd.R_after (ok:=(fun k_=>some k_ ≠ (Ai : Value).ownBlock ∧ some k_ ≠ (Aj : Value).ownBlock ∧ some k_ ≠ (Ak : Value).ownBlock ∧ some k_ ≠ (.slice (some As) Aa.length Ar : Value).ownBlock ∧ some k_ ≠ (Al : Value).ownBlock ∧ some k_ ≠ (An : Value).ownBlock)) (rl_ Ag) hg hat);have n6_:=A_ (Kd.R_after (ok:=(fun k_=>some k_ ≠ (Ai : Value).ownBlock ∧ some k_ ≠ (Aj : Value).ownBlock ∧ some k_ ≠ (Ak : Value).ownBlock ∧ some k_ ≠ (.slice (some As) Aa.length Ar : Value).ownBlock ∧ some k_ ≠ (Al : Value).ownBlock ∧ some k_ ≠ (Am : Value).ownBlock)) (rl_ Ah) hg hat);have n7_:=A_ (blk_grown (g:=B0) (o:=.cells #[.int .i64 Cm,Ai] 26 (0,0)) (bl_ At) hg (Kd.R_ne Bf.1 At.1 (by decide)));have n8_:=A_ (blk_grown (g:=B2) (o:=.cells #[.int .i64 Cn,Aj] 26 (0,0)) (bl_ Au) hg (Kd.R_ne Bf.1 Au.1 (by decide)));have n9_:=A_ (blk_grown (g:=B4) (o:=.cells #[.int .i64 Co,Ak] 26 (0,0)) (bl_ Av) hg (Kd.R_ne Bf.1 Av.1 (by decide)));have n10_:=A_ (blk_grown (g:=Bp) (o:=.cells #[.int .i64 Bd,.slice (some As) Aa.length Ar] 26 (0,0)) (bl_ Ao) hg (Kd.R_ne Bf.1 Ao.1 (by decide)));have n11_:=A_ (blk_grown (g:=B5) (o:=.cells #[.int .i64 Cp,Al] 26 (0,0)) (bl_ Aw) hg (Kd.R_ne Bf.1 Aw.1 (by decide)));have n12_:=A_ (blk_grown (g:=B6) (o:=.cells #[.int .i64 Cq,Am] 26 (0,0)) (bl_ Ax) hg (Kd.R_ne Bf.1 Ax.1 (by decide)));have n13_:=A_ (blk_grown (g:=B7) (o:=.cells #[.int .i64 Cr,An] 26 (0,0)) (bl_ Ay) hg (Kd.R_ne Bf.1 Ay.1 (by decide)));have n14_:=A_ (hb);have n15_:=A_ (ho);clear Ac;clear Ad;clear Ae;clear Ab;clear Af;clear Ag;clear Ah;clear At;clear Au;clear Av;clear Ao;clear Aw;clear Ax;clear Ay;clear HB;clear Bf;have Ac:=n0_;have Ad:=n1_;have Ae:=n2_;have Ab:=n3_;have Af:=n4_;have Ag:=n5_;have Ah:=n6_;have At:=n7_;have Au:=n8_;have Av:=n9_;have Ao:=n10_;have Aw:=n11_;have Ax:=n12_;have Ay:=n13_;have HB:=n14_;have Bb:=n15_;clear n0_ n1_ n2_ n3_ n4_ n5_ n6_ n7_ n8_ n9_ n10_ n11_ n12_ n13_ n14_ n15_;clear ho hb hg hat;obtain ⟨En,Eo,Ed⟩:=Kd.R_slice Bb.1;(first|subst Ed|(injection Ed with f1_ f2_ f3_;have f4_:=f1_.symm;have f5_:=f3_.symm;clear f1_ f2_ f3_;subst f4_;subst f5_))
    refine hK.out _ _ ⟨blk_cell Ao.1 0,blk_cell Ao.1 1⟩ (fun hHeld=>?_)
    clear hK K;refine norm_ (a':=?_) ?_ ?_
    rotate_left
    ·show Act.put _ (some 167) _ = _
     simp only [Act.put,L_,M_,N_,i64_w,i32_w]
     rfl
    refine pu_ (i:=6) (N:=168) #[T,T,T,T,T,T,T,F,F] HT_.1 rfl rfl (fun _ _ _ h=>h) rfl (h:=?_)
    refine one_ (i:=7) (N:=some 23) #[T,T,T,T,T,T,T,T,F] rfl rfl (one_of HT_.1 (by kernel_rfl)) (by decide) (fun K hK=>?_)
    refine box_step ?hg (N:=23) ?hd (cs:=#[.int .i64 0,.slice none 0 0]) (t:=26) ?hr ?_;(case hd=>rfl);(case hg=>rfl);(case hr=>go_simp;try rfl)
    intro Ap hg Mk hbox hb
    have n0_:=rb_ Ac hb;have n1_:=rb_ Ad hb;have n2_:=rb_ Ae hb;have n3_:=rb_ Ab hb;have n4_:=rb_ Af hb;have n5_:=rb_ Ag hb;have n6_:=rb_ Ah hb;have n7_:=rb_ Bb hb;have n8_:=bz At hb;have n9_:=bz Au hb;have n10_:=bz Av hb;have n11_:=bz Ao hb;have n12_:=bz Aw hb;have n13_:=bz Ax hb;have n14_:=bz Ay hb;have n15_:=A_ (below_step bb_ hb);have n16_:=A_ (hbox);have n17_:=A_ (gw_ (w:=w) hg bb_);have n18_:=A_ (gw_ (w:=w) hg bb_);have n19_:=A_ (nl_ hg At);have n20_:=A_ (ng_ hg At);have n21_:=A_ (nl_ hg Au);have n22_:=A_ (ng_ hg Au);have n23_:=A_ (nl_ hg Av);have n24_:=A_ (ng_ hg Av);have n25_:=A_ (nl_ hg Ao);have n26_:=A_ (ng_ hg Ao);have n27_:=A_ (nl_ hg Aw);have n28_:=A_ (ng_ hg Aw);have n29_:=A_ (nl_ hg Ax);have n30_:=A_ (ng_ hg Ax);have n31_:=A_ (nl_ hg Ay);have n32_:=A_ (ng_ hg Ay);clear Ac;clear Ad;clear Ae;clear Ab;clear Af;clear Ag;clear Ah;clear Bb;clear At;clear Au;clear Av;clear Ao;clear Aw;clear Ax;clear Ay;clear HB;have Ac:=n0_;have Ad:=n1_;have Ae:=n2_;have Ab:=n3_;have Af:=n4_;have Ag:=n5_;have Ah:=n6_;have Bb:=n7_;have At:=n8_;have Au:=n9_;have Av:=n10_;have Ao:=n11_;have Aw:=n12_;have Ax:=n13_;have Ay:=n14_;have HB:=n15_;have A8:=n16_;have C2:=n17_;have C3:=n18_;have Bj:=n19_;have Br:=n20_;have Bk:=n21_;have Bs:=n22_;have Bl:=n23_;have Bt:=n24_;have Bh:=n25_;have Bu:=n26_;have Bm:=n27_;have Bv:=n28_;have Bn:=n29_;have Bw:=n30_;have Bo:=n31_;have Bx:=n32_;clear n0_ n1_ n2_ n3_ n4_ n5_ n6_ n7_ n8_ n9_ n10_ n11_ n12_ n13_ n14_ n15_ n16_ n17_ n18_ n19_ n20_ n21_ n22_ n23_ n24_ n25_ n26_ n27_ n28_ n29_ n30_ n31_ n32_;clear hb hbox hg;refine hK.out _ _ ⟨blk_cell Ao.1 0,blk_cell Ao.1 1⟩ (fun hHeld=>?_)
    clear hK K;refine norm_ (a':=?_) ?_ ?_
    rotate_left
    ·show Act.put _ (some 23) _ = _
     simp only [Act.put,L_,M_,N_,i64_w,i32_w]
     rfl
    exact norm_ (by simp only [putAll,Act.put,L_,M_,N_]) (hCont (Cu,.slice En Az.length Eo,Ap) _ ⟨hHeld,(rl_ Bb),(rq_ (Kd.R_mono Ac.1 (fun _ hk=>⟨hk.2,⟨hk.1.1,⟨hk.1.2.1,⟨hk.1.2.2.1,⟨hk.1.2.2.2.1,⟨hk.1.2.2.2.2.1,hk.1.2.2.2.2.2⟩⟩⟩⟩⟩⟩))),(rq_ (Kd.R_mono Ad.1 (fun _ hk=>⟨hk.2,⟨hk.1.1,⟨hk.1.2.1,⟨hk.1.2.2.1,⟨hk.1.2.2.2.1,⟨hk.1.2.2.2.2.1,hk.1.2.2.2.2.2⟩⟩⟩⟩⟩⟩))),(rq_ (Kd.R_mono Ae.1 (fun _ hk=>⟨hk.2,⟨hk.1.1,⟨hk.1.2.1,⟨hk.1.2.2.1,⟨hk.1.2.2.2.1,⟨hk.1.2.2.2.2.1,hk.1.2.2.2.2.2⟩⟩⟩⟩⟩⟩))),(rq_ (Kd.R_mono Ab.1 (fun _ hk=>⟨hk.2,⟨hk.1.1,⟨hk.1.2.1,⟨hk.1.2.2.1,⟨hk.1.2.2.2.1,⟨hk.1.2.2.2.2.1,hk.1.2.2.2.2.2⟩⟩⟩⟩⟩⟩))),(rq_ (Kd.R_mono Af.1 (fun _ hk=>⟨hk.2,⟨hk.1.1,⟨hk.1.2.1,⟨hk.1.2.2.1,⟨hk.1.2.2.2.1,⟨hk.1.2.2.2.2.1,hk.1.2.2.2.2.2⟩⟩⟩⟩⟩⟩))),(rq_ (Kd.R_mono Ag.1 (fun _ hk=>⟨hk.2,⟨hk.1.1,⟨hk.1.2.1,⟨hk.1.2.2.1,⟨hk.1.2.2.2.1,⟨hk.1.2.2.2.2.1,hk.1.2.2.2.2.2⟩⟩⟩⟩⟩⟩))),(rq_ (Kd.R_mono Ah.1 (fun _ hk=>⟨hk.2,⟨hk.1.1,⟨hk.1.2.1,⟨hk.1.2.2.1,⟨hk.1.2.2.2.1,⟨hk.1.2.2.2.2.1,hk.1.2.2.2.2.2⟩⟩⟩⟩⟩⟩))),(bl_ At),(bl_ Au),(bl_ Av),(bl_ Ao),(bl_ Aw),(bl_ Ax),(bl_ Ay),(bl_ A8),C2.1,C3.1,Bj.1,Br.1,Bk.1,Bs.1,Bl.1,Bt.1,Bh.1,Bu.1,Bm.1,Bv.1,Bn.1,Bw.1,Bo.1,Bx.1,bb_⟩)
   ·skip
    refine box_step ?hg (N:=23) ?hd (cs:=#[.int .i64 0,.slice none 0 0]) (t:=26) ?hr ?_;(case hd=>rfl);(case hg=>rfl);(case hr=>go_simp;try rfl)
    intro Ap hg F1 hbox hb
    have n0_:=rb_ Ac hb;have n1_:=rb_ Ad hb;have n2_:=rb_ Ae hb;have n3_:=rb_ Ab hb;have n4_:=rb_ Af hb;have n5_:=rb_ Ag hb;have n6_:=rb_ Ah hb;have n7_:=rb_ Bf hb;have n8_:=bz At hb;have n9_:=bz Au hb;have n10_:=bz Av hb;have n11_:=bz Ao hb;have n12_:=bz Aw hb;have n13_:=bz Ax hb;have n14_:=bz Ay hb;have n15_:=A_ (below_step bb_ hb);have n16_:=A_ (hbox);have n17_:=A_ (gw_ (w:=w) hg bb_);have n18_:=A_ (gw_ (w:=w) hg bb_);have n19_:=A_ (nl_ hg At);have n20_:=A_ (ng_ hg At);have n21_:=A_ (nl_ hg Au);have n22_:=A_ (ng_ hg Au);have n23_:=A_ (nl_ hg Av);have n24_:=A_ (ng_ hg Av);have n25_:=A_ (nl_ hg Ao);have n26_:=A_ (ng_ hg Ao);have n27_:=A_ (nl_ hg Aw);have n28_:=A_ (ng_ hg Aw);have n29_:=A_ (nl_ hg Ax);have n30_:=A_ (ng_ hg Ax);have n31_:=A_ (nl_ hg Ay);have n32_:=A_ (ng_ hg Ay);clear Ac;clear Ad;clear Ae;clear Ab;clear Af;clear Ag;clear Ah;clear Bf;clear At;clear Au;clear Av;clear Ao;clear Aw;clear Ax;clear Ay;clear HB;have Ac:=n0_;have Ad:=n1_;have Ae:=n2_;have Ab:=n3_;have Af:=n4_;have Ag:=n5_;have Ah:=n6_;have Bf:=n7_;have At:=n8_;have Au:=n9_;have Av:=n10_;have Ao:=n11_;have Aw:=n12_;have Ax:=n13_;have Ay:=n14_;have HB:=n15_;have A8:=n16_;have C2:=n17_;have C3:=n18_;have Bj:=n19_;have Br:=n20_;have Bk:=n21_;have Bs:=n22_;have Bl:=n23_;have Bt:=n24_;have Bh:=n25_;have Bu:=n26_;have Bm:=n27_;have Bv:=n28_;have Bn:=n29_;have Bw:=n30_;have Bo:=n31_;have Bx:=n32_;clear n0_ n1_ n2_ n3_ n4_ n5_ n6_ n7_ n8_ n9_ n10_ n11_ n12_ n13_ n14_ n15_ n16_ n17_ n18_ n19_ n20_ n21_ n22_ n23_ n24_ n25_ n26_ n27_ n28_ n29_ n30_ n31_ n32_;clear hb hbox hg;refine hK.out _ _ ⟨blk_cell Ao.1 0,blk_cell Ao.1 1⟩ (fun hHeld=>?_)
    clear hK K;refine norm_ (a':=?_) ?_ ?_
    rotate_left
    ·show Act.put _ (some 23) _ = _
     simp only [Act.put,L_,M_,N_,i64_w,i32_w]
     rfl
    refine one_ (i:=5) (N:=some 167) #[T,T,T,T,T,T,F,T,F] rfl rfl (one_of HT_.1 (by kernel_rfl)) (by decide) (fun K hK=>?_)
    refine Kd.R_append_rows_step (Kd.int .i64) (w0:=w) w.heap.size (by rfl) (.tmp 164) (.tmp 166) 24 3 (.int .i64 0) 8 rfl Tryd.underlying24 info3 rfl (by decide) (by omega) Cu D2 Aa _ _ _ (fun k_=>some k_ ≠ (Ai : Value).ownBlock ∧ some k_ ≠ (Aj : Value).ownBlock ∧ some k_ ≠ (Ak : Value).ownBlock ∧ some k_ ≠ (.slice (some As) Aa.length Ar : Value).ownBlock ∧ some k_ ≠ (Al : Value).ownBlock ∧ some k_ ≠ (Am : Value).ownBlock ∧ some k_ ≠ (An : Value).ownBlock) (fun _=>False) rfl rfl ?aO ?aR (fun _ _ h=>h) (fun _ h=>h.elim) ?aF ?aB ?aS ?aL ?_
    (case aR=>exact cl_ (Kd.R_reads' Ab.1).2.2)
    (case aB=>exact bb_)
    (case aF=>exact (fun k_ hk=>⟨Kd.fresh' (Kd.R_lt (rl_ Ac)) k_ hk,Kd.fresh' (Kd.R_lt (rl_ Ad)) k_ hk,Kd.fresh' (Kd.R_lt (rl_ Ae)) k_ hk,Kd.fresh' (Kd.R_lt (rl_ Ab)) k_ hk,Kd.fresh' (Kd.R_lt (rl_ Af)) k_ hk,Kd.fresh' (Kd.R_lt (rl_ Ag)) k_ hk,Kd.fresh' (Kd.R_lt (rl_ Ah)) k_ hk⟩))
    (case aO=>exact (rq_ (Kd.R_mono Bf.1 (fun _ hk=>⟨hk.1.1.1.1.1.1.2,⟨hk.1.1.1.1.1.2,⟨hk.1.1.1.1.2,⟨hk.1.1.1.2,⟨hk.1.1.2,⟨hk.1.2,hk.2⟩⟩⟩⟩⟩⟩))))
    (case aS=>exact (below_size bb_))
    (case aL=>have:=Db.1;omega)
    intro Ck F2 ho hb hg hat
    rw [← Dd.1] at ho;have n0_:=A_ (Kd.R_after (ok:=(fun k_=>some k_ ≠ (Aj : Value).ownBlock ∧ some k_ ≠ (Ak : Value).ownBlock ∧ some k_ ≠ (.slice (some As) Aa.length Ar : Value).ownBlock ∧ some k_ ≠ (Al : Value).ownBlock ∧ some k_ ≠ (Am : Value).ownBlock ∧ some k_ ≠ (An : Value).ownBlock)) (rl_ Ac) hg hat);have n1_:=A_ (Kd.R_after (ok:=(fun k_=>some k_ ≠ (Ai : Value).ownBlock ∧ some k_ ≠ (Ak : Value).ownBlock ∧ some k_ ≠ (.slice (some As) Aa.length Ar : Value).ownBlock ∧ some k_ ≠ (Al : Value).ownBlock ∧ some k_ ≠ (Am : Value).ownBlock ∧ some k_ ≠ (An : Value).ownBlock)) (rl_ Ad) hg hat);have n2_:=A_ (Kd.R_after (ok:=(fun k_=>some k_ ≠ (Ai : Value).ownBlock ∧ some k_ ≠ (Aj : Value).ownBlock ∧ some k_ ≠ (.slice (some As) Aa.length Ar : Value).ownBlock ∧ some k_ ≠ (Al : Value).ownBlock ∧ some k_ ≠ (Am : Value).ownBlock ∧ some k_ ≠ (An : Value).ownBlock)) (rl_ Ae) hg hat);have n3_:=A_ (Kd.R_after (ok:=(fun k_=>some k_ ≠ (Ai : Value).ownBlock ∧ some k_ ≠ (Aj : Value).ownBlock ∧ some k_ ≠ (Ak : Value).ownBlock ∧ some k_ ≠ (Al : Value).ownBlock ∧ some k_ ≠ (Am : Value).ownBlock ∧ some k_ ≠ (An : Value).ownBlock)) (rl_ Ab) hg hat);have n4_:=A_ (Kd.R_after (ok:=(fun k_=>some k_ ≠ (Ai : Value).ownBlock ∧ some k_ ≠ (Aj : Value).ownBlock ∧ some k_ ≠ (Ak : Value).ownBlock ∧ some k_ ≠ (.slice (some As) Aa.length Ar : Value).ownBlock ∧ some k_ ≠ (Am : Value).ownBlock ∧ some k_ ≠ (An : Value).ownBlock)) (rl_ Af) hg hat);have n5_:=A_ (Kd.R_after (ok:=(fun k_=>some k_ ≠ (Ai : Value).ownBlock ∧ some k_ ≠ (Aj : Value).ownBlock ∧ some k_ ≠ (Ak : Value).ownBlock ∧ some k_ ≠ (.slice (some As) Aa.length Ar : Value).ownBlock ∧ some k_ ≠ (Al : Value).ownBlock ∧ some k_ ≠ (An : Value).ownBlock)) (rl_ Ag) hg hat);have n6_:=A_ (Kd.R_after (ok:=(fun k_=>some k_ ≠ (Ai : Value).ownBlock ∧ some k_ ≠ (Aj : Value).ownBlock ∧ some k_ ≠ (Ak : Value).ownBlock ∧ some k_ ≠ (.slice (some As) Aa.length Ar : Value).ownBlock ∧ some k_ ≠ (Al : Value).ownBlock ∧ some k_ ≠ (Am : Value).ownBlock)) (rl_ Ah) hg hat);have n7_:=A_ (blk_grown (g:=B0) (o:=.cells #[.int .i64 Cm,Ai] 26 (0,0)) (bl_ At) hg (Kd.R_ne Bf.1 At.1 (by decide)));have n8_:=A_ (blk_grown (g:=B2) (o:=.cells #[.int .i64 Cn,Aj] 26 (0,0)) (bl_ Au) hg (Kd.R_ne Bf.1 Au.1 (by decide)));have n9_:=A_ (blk_grown (g:=B4) (o:=.cells #[.int .i64 Co,Ak] 26 (0,0)) (bl_ Av) hg (Kd.R_ne Bf.1 Av.1 (by decide)));have n10_:=A_ (blk_grown (g:=Bp) (o:=.cells #[.int .i64 Bd,.slice (some As) Aa.length Ar] 26 (0,0)) (bl_ Ao) hg (Kd.R_ne Bf.1 Ao.1 (by decide)));have n11_:=A_ (blk_grown (g:=B5) (o:=.cells #[.int .i64 Cp,Al] 26 (0,0)) (bl_ Aw) hg (Kd.R_ne Bf.1 Aw.1 (by decide)));have n12_:=A_ (blk_grown (g:=B6) (o:=.cells #[.int .i64 Cq,Am] 26 (0,0)) (bl_ Ax) hg (Kd.R_ne Bf.1 Ax.1 (by decide)));have n13_:=A_ (blk_grown (g:=B7) (o:=.cells #[.int .i64 Cr,An] 26 (0,0)) (bl_ Ay) hg (Kd.R_ne Bf.1 Ay.1 (by decide)));have n14_:=A_ (blk_grown (g:=Ap) (o:=.cells #[.int .i64 0,.slice none 0 0] 26 (0,0)) (bl_ A8) hg (Kd.R_ne Bf.1 A8.1 (by decide)));have n15_:=A_ (hb);have n16_:=A_ (ho);clear Ac;clear Ad;clear Ae;clear Ab;clear Af;clear Ag;clear Ah;clear At;clear Au;clear Av;clear Ao;clear Aw;clear Ax;clear Ay;clear A8;clear HB;clear Bf;have Ac:=n0_;have Ad:=n1_;have Ae:=n2_;have Ab:=n3_;have Af:=n4_;have Ag:=n5_;have Ah:=n6_;have At:=n7_;have Au:=n8_;have Av:=n9_;have Ao:=n10_;have Aw:=n11_;have Ax:=n12_;have Ay:=n13_;have A8:=n14_;have HB:=n15_;have Bb:=n16_;clear n0_ n1_ n2_ n3_ n4_ n5_ n6_ n7_ n8_ n9_ n10_ n11_ n12_ n13_ n14_ n15_ n16_;clear ho hb hg hat;obtain ⟨De,Df,C8⟩:=Kd.R_slice Bb.1;(first|subst C8|(injection C8 with f1_ f2_ f3_;have f4_:=f1_.symm;have f5_:=f3_.symm;clear f1_ f2_ f3_;subst f4_;subst f5_))
    refine hK.out _ _ ⟨blk_cell Ao.1 0,blk_cell Ao.1 1⟩ (fun hHeld=>?_)
    clear hK K;refine norm_ (a':=?_) ?_ ?_
    rotate_left
    ·show Act.put _ (some 167) _ = _
     simp only [Act.put,L_,M_,N_,i64_w,i32_w]
     rfl
    refine pu_ (i:=6) (N:=168) #[T,T,T,T,T,T,T,T,F] HT_.1 rfl rfl (fun _ _ _ h=>h) rfl (h:=?_)
    exact norm_ (by simp only [putAll,Act.put,L_,M_,N_]) (hCont (Cu,.slice De Az.length Df,Ap) _ ⟨hHeld,(rl_ Bb),(rq_ (Kd.R_mono Ac.1 (fun _ hk=>⟨hk.2,⟨hk.1.1,⟨hk.1.2.1,⟨hk.1.2.2.1,⟨hk.1.2.2.2.1,⟨hk.1.2.2.2.2.1,hk.1.2.2.2.2.2⟩⟩⟩⟩⟩⟩))),(rq_ (Kd.R_mono Ad.1 (fun _ hk=>⟨hk.2,⟨hk.1.1,⟨hk.1.2.1,⟨hk.1.2.2.1,⟨hk.1.2.2.2.1,⟨hk.1.2.2.2.2.1,hk.1.2.2.2.2.2⟩⟩⟩⟩⟩⟩))),(rq_ (Kd.R_mono Ae.1 (fun _ hk=>⟨hk.2,⟨hk.1.1,⟨hk.1.2.1,⟨hk.1.2.2.1,⟨hk.1.2.2.2.1,⟨hk.1.2.2.2.2.1,hk.1.2.2.2.2.2⟩⟩⟩⟩⟩⟩))),(rq_ (Kd.R_mono Ab.1 (fun _ hk=>⟨hk.2,⟨hk.1.1,⟨hk.1.2.1,⟨hk.1.2.2.1,⟨hk.1.2.2.2.1,⟨hk.1.2.2.2.2.1,hk.1.2.2.2.2.2⟩⟩⟩⟩⟩⟩))),(rq_ (Kd.R_mono Af.1 (fun _ hk=>⟨hk.2,⟨hk.1.1,⟨hk.1.2.1,⟨hk.1.2.2.1,⟨hk.1.2.2.2.1,⟨hk.1.2.2.2.2.1,hk.1.2.2.2.2.2⟩⟩⟩⟩⟩⟩))),(rq_ (Kd.R_mono Ag.1 (fun _ hk=>⟨hk.2,⟨hk.1.1,⟨hk.1.2.1,⟨hk.1.2.2.1,⟨hk.1.2.2.2.1,⟨hk.1.2.2.2.2.1,hk.1.2.2.2.2.2⟩⟩⟩⟩⟩⟩))),(rq_ (Kd.R_mono Ah.1 (fun _ hk=>⟨hk.2,⟨hk.1.1,⟨hk.1.2.1,⟨hk.1.2.2.1,⟨hk.1.2.2.2.1,⟨hk.1.2.2.2.2.1,hk.1.2.2.2.2.2⟩⟩⟩⟩⟩⟩))),(bl_ At),(bl_ Au),(bl_ Av),(bl_ Ao),(bl_ Aw),(bl_ Ax),(bl_ Ay),(bl_ A8),C2.1,C3.1,Bj.1,Br.1,Bk.1,Bs.1,Bl.1,Bt.1,Bh.1,Bu.1,Bm.1,Bv.1,Bn.1,Bw.1,Bo.1,Bx.1,bb_⟩)
  ·skip
   refine box_step ?hg (N:=23) ?hd (cs:=#[.int .i64 0,.slice none 0 0]) (t:=26) ?hr ?_;(case hd=>rfl);(case hg=>rfl);(case hr=>go_simp;try rfl)
   intro Ap hg F0 hbox hb
   have n0_:=rb_ Ac hb;have n1_:=rb_ Ad hb;have n2_:=rb_ Ae hb;have n3_:=rb_ Ab hb;have n4_:=rb_ Af hb;have n5_:=rb_ Ag hb;have n6_:=rb_ Ah hb;have n7_:=bz At hb;have n8_:=bz Au hb;have n9_:=bz Av hb;have n10_:=bz Ao hb;have n11_:=bz Aw hb;have n12_:=bz Ax hb;have n13_:=bz Ay hb;have n14_:=A_ (below_step bb_ hb);have n15_:=A_ (hbox);have n16_:=A_ (gw_ (w:=w) hg bb_);have n17_:=A_ (gw_ (w:=w) hg bb_);have n18_:=A_ (nl_ hg At);have n19_:=A_ (ng_ hg At);have n20_:=A_ (nl_ hg Au);have n21_:=A_ (ng_ hg Au);have n22_:=A_ (nl_ hg Av);have n23_:=A_ (ng_ hg Av);have n24_:=A_ (nl_ hg Ao);have n25_:=A_ (ng_ hg Ao);have n26_:=A_ (nl_ hg Aw);have n27_:=A_ (ng_ hg Aw);have n28_:=A_ (nl_ hg Ax);have n29_:=A_ (ng_ hg Ax);have n30_:=A_ (nl_ hg Ay);have n31_:=A_ (ng_ hg Ay);clear Ac;clear Ad;clear Ae;clear Ab;clear Af;clear Ag;clear Ah;clear At;clear Au;clear Av;clear Ao;clear Aw;clear Ax;clear Ay;clear HB;have Ac:=n0_;have Ad:=n1_;have Ae:=n2_;have Ab:=n3_;have Af:=n4_;have Ag:=n5_;have Ah:=n6_;have At:=n7_;have Au:=n8_;have Av:=n9_;have Ao:=n10_;have Aw:=n11_;have Ax:=n12_;have Ay:=n13_;have HB:=n14_;have A8:=n15_;have C2:=n16_;have C3:=n17_;have Bj:=n18_;have Br:=n19_;have Bk:=n20_;have Bs:=n21_;have Bl:=n22_;have Bt:=n23_;have Bh:=n24_;have Bu:=n25_;have Bm:=n26_;have Bv:=n27_;have Bn:=n28_;have Bw:=n29_;have Bo:=n30_;have Bx:=n31_;clear n0_ n1_ n2_ n3_ n4_ n5_ n6_ n7_ n8_ n9_ n10_ n11_ n12_ n13_ n14_ n15_ n16_ n17_ n18_ n19_ n20_ n21_ n22_ n23_ n24_ n25_ n26_ n27_ n28_ n29_ n30_ n31_;clear hb hbox hg;refine hK.out _ _ ⟨blk_cell Ao.1 0,blk_cell Ao.1 1⟩ (fun hHeld=>?_)
   clear hK K;refine norm_ (a':=?_) ?_ ?_
   rotate_left
   ·show Act.put _ (some 23) _ = _
    simp only [Act.put,L_,M_,N_,i64_w,i32_w]
    rfl
   refine one_ (i:=2) (N:=some 164) #[T,T,T,T,T,F,F,T,F] rfl rfl (one_of HT_.1 (by kernel_rfl)) (by decide) (fun K hK=>?_)
   refine Kd.R_lit_step (Kd.int .i64) _ 3 ?hg (N:=164) ?hd (xs:=([] : List Int)) (inner:=[]) (ok:=fun _=>True) (okp:=fun _=>True) ?hr ?hp (fun _ hk=>hk) trivial (Below.refl _ _) (Nat.le_refl _) (by simp) ?_;(case hd=>rfl);(case hg=>rfl);(case hr=>go_simp;try rfl);(case hp=>exact (Reps.none _ _))
   intro Cu Ml Ca hb hg_ hnew_
   clear hg_ hnew_;(first|rw [← Da.1] at Ca|(simp only [Int.reduceToNat] at Ca;rw [← Da.1] at Ca))
   have n0_:=A_ (Kd.R_elder' (rl_ Ac) (Kd.R_base Ca) hb);have n1_:=A_ (Kd.R_elder' (rl_ Ad) (Kd.R_base Ca) hb);have n2_:=A_ (Kd.R_elder' (rl_ Ae) (Kd.R_base Ca) hb);have n3_:=A_ (Kd.R_elder' (rl_ Ab) (Kd.R_base Ca) hb);have n4_:=A_ (Kd.R_elder' (rl_ Af) (Kd.R_base Ca) hb);have n5_:=A_ (Kd.R_elder' (rl_ Ag) (Kd.R_base Ca) hb);have n6_:=A_ (Kd.R_elder' (rl_ Ah) (Kd.R_base Ca) hb);have n7_:=A_ (Kd.R_lower (Kd.R_new' (Kd.R_new' (Kd.R_new' (Kd.R_new' (Kd.R_new' (Kd.R_new' (Kd.R_new' Ca (Kd.R_lt (rl_ Ac))) (Kd.R_lt (rl_ Ad))) (Kd.R_lt (rl_ Ae))) (Kd.R_lt (rl_ Ab))) (Kd.R_lt (rl_ Af))) (Kd.R_lt (rl_ Ag))) (Kd.R_lt (rl_ Ah))) (below_size bb_));have n8_:=bz At hb;have n9_:=bz Au hb;have n10_:=bz Av hb;have n11_:=bz Ao hb;have n12_:=bz Aw hb;have n13_:=bz Ax hb;have n14_:=bz Ay hb;have n15_:=bz A8 hb;have n16_:=A_ (below_step bb_ hb);clear Ac;clear Ad;clear Ae;clear Ab;clear Af;clear Ag;clear Ah;clear At;clear Au;clear Av;clear Ao;clear Aw;clear Ax;clear Ay;clear A8;clear HB;have Ac:=n0_;have Ad:=n1_;have Ae:=n2_;have Ab:=n3_;have Af:=n4_;have Ag:=n5_;have Ah:=n6_;have Bf:=n7_;have At:=n8_;have Au:=n9_;have Av:=n10_;have Ao:=n11_;have Aw:=n12_;have Ax:=n13_;have Ay:=n14_;have A8:=n15_;have HB:=n16_;clear n0_ n1_ n2_ n3_ n4_ n5_ n6_ n7_ n8_ n9_ n10_ n11_ n12_ n13_ n14_ n15_ n16_;clear hb Ca;refine hK.out _ _ ⟨blk_cell Ao.1 0,blk_cell Ao.1 1⟩ (fun hHeld=>?_)
   clear hK K;refine norm_ (a':=?_) ?_ ?_
   rotate_left
   ·show Act.put _ (some 164) _ = _
    simp only [Act.put,L_,M_,N_,i64_w,i32_w]
    rfl
   refine one_ (i:=5) (N:=some 167) #[T,T,T,T,T,T,F,T,F] rfl rfl (one_of HT_.1 (by kernel_rfl)) (by decide) (fun K hK=>?_)
   refine Kd.R_append_rows_step (Kd.int .i64) (w0:=w) w.heap.size (by rfl) (.tmp 164) (.tmp 166) 24 3 (.int .i64 0) 8 rfl Tryd.underlying24 info3 rfl (by decide) (by omega) Cu D2 Aa _ _ _ (fun k_=>some k_ ≠ (Ai : Value).ownBlock ∧ some k_ ≠ (Aj : Value).ownBlock ∧ some k_ ≠ (Ak : Value).ownBlock ∧ some k_ ≠ (.slice (some As) Aa.length Ar : Value).ownBlock ∧ some k_ ≠ (Al : Value).ownBlock ∧ some k_ ≠ (Am : Value).ownBlock ∧ some k_ ≠ (An : Value).ownBlock) (fun _=>False) rfl rfl ?aO ?aR (fun _ _ h=>h) (fun _ h=>h.elim) ?aF ?aB ?aS ?aL ?_
   (case aR=>exact cl_ (Kd.R_reads' Ab.1).2.2)
   (case aB=>exact bb_)
   (case aF=>exact (fun k_ hk=>⟨Kd.fresh' (Kd.R_lt (rl_ Ac)) k_ hk,Kd.fresh' (Kd.R_lt (rl_ Ad)) k_ hk,Kd.fresh' (Kd.R_lt (rl_ Ae)) k_ hk,Kd.fresh' (Kd.R_lt (rl_ Ab)) k_ hk,Kd.fresh' (Kd.R_lt (rl_ Af)) k_ hk,Kd.fresh' (Kd.R_lt (rl_ Ag)) k_ hk,Kd.fresh' (Kd.R_lt (rl_ Ah)) k_ hk⟩))
   (case aO=>exact (rq_ (Kd.R_mono Bf.1 (fun _ hk=>⟨hk.1.1.1.1.1.1.2,⟨hk.1.1.1.1.1.2,⟨hk.1.1.1.1.2,⟨hk.1.1.1.2,⟨hk.1.1.2,⟨hk.1.2,hk.2⟩⟩⟩⟩⟩⟩))))
   (case aS=>exact (below_size bb_))
   (case aL=>have:=Db.1;omega)
   intro Ck F2 ho hb hg hat
   rw [← Dd.1] at ho;have n0_:=A_ (Kd.R_after (ok:=(fun k_=>some k_ ≠ (Aj : Value).ownBlock ∧ some k_ ≠ (Ak : Value).ownBlock ∧ some k_ ≠ (.slice (some As) Aa.length Ar : Value).ownBlock ∧ some k_ ≠ (Al : Value).ownBlock ∧ some k_ ≠ (Am : Value).ownBlock ∧ some k_ ≠ (An : Value).ownBlock)) (rl_ Ac) hg hat);have n1_:=A_ (Kd.R_after (ok:=(fun k_=>some k_ ≠ (Ai : Value).ownBlock ∧ some k_ ≠ (Ak : Value).ownBlock ∧ some k_ ≠ (.slice (some As) Aa.length Ar : Value).ownBlock ∧ some k_ ≠ (Al : Value).ownBlock ∧ some k_ ≠ (Am : Value).ownBlock ∧ some k_ ≠ (An : Value).ownBlock)) (rl_ Ad) hg hat);have n2_:=A_ (Kd.R_after (ok:=(fun k_=>some k_ ≠ (Ai : Value).ownBlock ∧ some k_ ≠ (Aj : Value).ownBlock ∧ some k_ ≠ (.slice (some As) Aa.length Ar : Value).ownBlock ∧ some k_ ≠ (Al : Value).ownBlock ∧ some k_ ≠ (Am : Value).ownBlock ∧ some k_ ≠ (An : Value).ownBlock)) (rl_ Ae) hg hat);have n3_:=A_ (Kd.R_after (ok:=(fun k_=>some k_ ≠ (Ai : Value).ownBlock ∧ some k_ ≠ (Aj : Value).ownBlock ∧ some k_ ≠ (Ak : Value).ownBlock ∧ some k_ ≠ (Al : Value).ownBlock ∧ some k_ ≠ (Am : Value).ownBlock ∧ some k_ ≠ (An : Value).ownBlock)) (rl_ Ab) hg hat);have n4_:=A_ (Kd.R_after (ok:=(fun k_=>some k_ ≠ (Ai : Value).ownBlock ∧ some k_ ≠ (Aj : Value).ownBlock ∧ some k_ ≠ (Ak : Value).ownBlock ∧ some k_ ≠ (.slice (some As) Aa.length Ar : Value).ownBlock ∧ some k_ ≠ (Am : Value).ownBlock ∧ some k_ ≠ (An : Value).ownBlock)) (rl_ Af) hg hat);have n5_:=A_ (Kd.R_after (ok:=(fun k_=>some k_ ≠ (Ai : Value).ownBlock ∧ some k_ ≠ (Aj : Value).ownBlock ∧ some k_ ≠ (Ak : Value).ownBlock ∧ some k_ ≠ (.slice (some As) Aa.length Ar : Value).ownBlock ∧ some k_ ≠ (Al : Value).ownBlock ∧ some k_ ≠ (An : Value).ownBlock)) (rl_ Ag) hg hat);have n6_:=A_ (Kd.R_after (ok:=(fun k_=>some k_ ≠ (Ai : Value).ownBlock ∧ some k_ ≠ (Aj : Value).ownBlock ∧ some k_ ≠ (Ak : Value).ownBlock ∧ some k_ ≠ (.slice (some As) Aa.length Ar : Value).ownBlock ∧ some k_ ≠ (Al : Value).ownBlock ∧ some k_ ≠ (Am : Value).ownBlock)) (rl_ Ah) hg hat);have n7_:=A_ (blk_grown (g:=B0) (o:=.cells #[.int .i64 Cm,Ai] 26 (0,0)) (bl_ At) hg (Kd.R_ne Bf.1 At.1 (by decide)));have n8_:=A_ (blk_grown (g:=B2) (o:=.cells #[.int .i64 Cn,Aj] 26 (0,0)) (bl_ Au) hg (Kd.R_ne Bf.1 Au.1 (by decide)));have n9_:=A_ (blk_grown (g:=B4) (o:=.cells #[.int .i64 Co,Ak] 26 (0,0)) (bl_ Av) hg (Kd.R_ne Bf.1 Av.1 (by decide)));have n10_:=A_ (blk_grown (g:=Bp) (o:=.cells #[.int .i64 Bd,.slice (some As) Aa.length Ar] 26 (0,0)) (bl_ Ao) hg (Kd.R_ne Bf.1 Ao.1 (by decide)));have n11_:=A_ (blk_grown (g:=B5) (o:=.cells #[.int .i64 Cp,Al] 26 (0,0)) (bl_ Aw) hg (Kd.R_ne Bf.1 Aw.1 (by decide)));have n12_:=A_ (blk_grown (g:=B6) (o:=.cells #[.int .i64 Cq,Am] 26 (0,0)) (bl_ Ax) hg (Kd.R_ne Bf.1 Ax.1 (by decide)));have n13_:=A_ (blk_grown (g:=B7) (o:=.cells #[.int .i64 Cr,An] 26 (0,0)) (bl_ Ay) hg (Kd.R_ne Bf.1 Ay.1 (by decide)));have n14_:=A_ (blk_grown (g:=Ap) (o:=.cells #[.int .i64 0,.slice none 0 0] 26 (0,0)) (bl_ A8) hg (Kd.R_ne Bf.1 A8.1 (by decide)));have n15_:=A_ (hb);have n16_:=A_ (ho);clear Ac;clear Ad;clear Ae;clear Ab;clear Af;clear Ag;clear Ah;clear At;clear Au;clear Av;clear Ao;clear Aw;clear Ax;clear Ay;clear A8;clear HB;clear Bf;have Ac:=n0_;have Ad:=n1_;have Ae:=n2_;have Ab:=n3_;have Af:=n4_;have Ag:=n5_;have Ah:=n6_;have At:=n7_;have Au:=n8_;have Av:=n9_;have Ao:=n10_;have Aw:=n11_;have Ax:=n12_;have Ay:=n13_;have A8:=n14_;have HB:=n15_;have Bb:=n16_;clear n0_ n1_ n2_ n3_ n4_ n5_ n6_ n7_ n8_ n9_ n10_ n11_ n12_ n13_ n14_ n15_ n16_;clear ho hb hg hat;obtain ⟨De,Df,C8⟩:=Kd.R_slice Bb.1;(first|subst C8|(injection C8 with f1_ f2_ f3_;have f4_:=f1_.symm;have f5_:=f3_.symm;clear f1_ f2_ f3_;subst f4_;subst f5_))
   refine hK.out _ _ ⟨blk_cell Ao.1 0,blk_cell Ao.1 1⟩ (fun hHeld=>?_)
   clear hK K;refine norm_ (a':=?_) ?_ ?_
   rotate_left
   ·show Act.put _ (some 167) _ = _
    simp only [Act.put,L_,M_,N_,i64_w,i32_w]
    rfl
   refine pu_ (i:=6) (N:=168) #[T,T,T,T,T,T,T,T,F] HT_.1 rfl rfl (fun _ _ _ h=>h) rfl (h:=?_)
   exact norm_ (by simp only [putAll,Act.put,L_,M_,N_]) (hCont (Cu,.slice De Az.length Df,Ap) _ ⟨hHeld,(rl_ Bb),(rq_ (Kd.R_mono Ac.1 (fun _ hk=>⟨hk.2,⟨hk.1.1,⟨hk.1.2.1,⟨hk.1.2.2.1,⟨hk.1.2.2.2.1,⟨hk.1.2.2.2.2.1,hk.1.2.2.2.2.2⟩⟩⟩⟩⟩⟩))),(rq_ (Kd.R_mono Ad.1 (fun _ hk=>⟨hk.2,⟨hk.1.1,⟨hk.1.2.1,⟨hk.1.2.2.1,⟨hk.1.2.2.2.1,⟨hk.1.2.2.2.2.1,hk.1.2.2.2.2.2⟩⟩⟩⟩⟩⟩))),(rq_ (Kd.R_mono Ae.1 (fun _ hk=>⟨hk.2,⟨hk.1.1,⟨hk.1.2.1,⟨hk.1.2.2.1,⟨hk.1.2.2.2.1,⟨hk.1.2.2.2.2.1,hk.1.2.2.2.2.2⟩⟩⟩⟩⟩⟩))),(rq_ (Kd.R_mono Ab.1 (fun _ hk=>⟨hk.2,⟨hk.1.1,⟨hk.1.2.1,⟨hk.1.2.2.1,⟨hk.1.2.2.2.1,⟨hk.1.2.2.2.2.1,hk.1.2.2.2.2.2⟩⟩⟩⟩⟩⟩))),(rq_ (Kd.R_mono Af.1 (fun _ hk=>⟨hk.2,⟨hk.1.1,⟨hk.1.2.1,⟨hk.1.2.2.1,⟨hk.1.2.2.2.1,⟨hk.1.2.2.2.2.1,hk.1.2.2.2.2.2⟩⟩⟩⟩⟩⟩))),(rq_ (Kd.R_mono Ag.1 (fun _ hk=>⟨hk.2,⟨hk.1.1,⟨hk.1.2.1,⟨hk.1.2.2.1,⟨hk.1.2.2.2.1,⟨hk.1.2.2.2.2.1,hk.1.2.2.2.2.2⟩⟩⟩⟩⟩⟩))),(rq_ (Kd.R_mono Ah.1 (fun _ hk=>⟨hk.2,⟨hk.1.1,⟨hk.1.2.1,⟨hk.1.2.2.1,⟨hk.1.2.2.2.1,⟨hk.1.2.2.2.2.1,hk.1.2.2.2.2.2⟩⟩⟩⟩⟩⟩))),(bl_ At),(bl_ Au),(bl_ Av),(bl_ Ao),(bl_ Aw),(bl_ Ax),(bl_ Ay),(bl_ A8),C2.1,C3.1,Bj.1,Br.1,Bk.1,Bs.1,Bl.1,Bt.1,Bh.1,Bu.1,Bm.1,Bv.1,Bn.1,Bw.1,Bo.1,Bx.1,bb_⟩)
 rintro ⟨Cu,Ck,Ap⟩ Bg ⟨hS_,h0_,h1_,h2_,h3_,h4_,h5_,h6_,h7_,h8_,h9_,h10_,h11_,h12_,h13_,h14_,h15_,h16_,h17_,h18_,h19_,h20_,h21_,h22_,h23_,h24_,h25_,h26_,h27_,h28_,h29_,h30_,h31_,h32_⟩
 have n0_ : Aside0 (Kd.R (Kd.int .i64) 3 Bg w.heap.size (fun k_=>some k_ ≠ (Ai : Value).ownBlock ∧ some k_ ≠ (Aj : Value).ownBlock ∧ some k_ ≠ (Ak : Value).ownBlock ∧ some k_ ≠ (.slice (some As) Aa.length Ar : Value).ownBlock ∧ some k_ ≠ (Al : Value).ownBlock ∧ some k_ ≠ (Am : Value).ownBlock ∧ some k_ ≠ (An : Value).ownBlock) Ck Az):=⟨h0_⟩;have n1_ : Aside0 (Kd.R (Kd.int .i64) 3 Bg w.heap.size (fun k_=>some k_ ≠ (Ck : Value).ownBlock ∧ some k_ ≠ (Aj : Value).ownBlock ∧ some k_ ≠ (Ak : Value).ownBlock ∧ some k_ ≠ (.slice (some As) Aa.length Ar : Value).ownBlock ∧ some k_ ≠ (Al : Value).ownBlock ∧ some k_ ≠ (Am : Value).ownBlock ∧ some k_ ≠ (An : Value).ownBlock) Ai Cb):=⟨h1_⟩;have n2_ : Aside0 (Kd.R (Kd.int .i64) 3 Bg w.heap.size (fun k_=>some k_ ≠ (Ck : Value).ownBlock ∧ some k_ ≠ (Ai : Value).ownBlock ∧ some k_ ≠ (Ak : Value).ownBlock ∧ some k_ ≠ (.slice (some As) Aa.length Ar : Value).ownBlock ∧ some k_ ≠ (Al : Value).ownBlock ∧ some k_ ≠ (Am : Value).ownBlock ∧ some k_ ≠ (An : Value).ownBlock) Aj Cc):=⟨h2_⟩;have n3_ : Aside0 (Kd.R (Kd.int .i64) 3 Bg w.heap.size (fun k_=>some k_ ≠ (Ck : Value).ownBlock ∧ some k_ ≠ (Ai : Value).ownBlock ∧ some k_ ≠ (Aj : Value).ownBlock ∧ some k_ ≠ (.slice (some As) Aa.length Ar : Value).ownBlock ∧ some k_ ≠ (Al : Value).ownBlock ∧ some k_ ≠ (Am : Value).ownBlock ∧ some k_ ≠ (An : Value).ownBlock) Ak Cd):=⟨h3_⟩;have n4_ : Aside0 (Kd.R (Kd.int .i64) 3 Bg w.heap.size (fun k_=>some k_ ≠ (Ck : Value).ownBlock ∧ some k_ ≠ (Ai : Value).ownBlock ∧ some k_ ≠ (Aj : Value).ownBlock ∧ some k_ ≠ (Ak : Value).ownBlock ∧ some k_ ≠ (Al : Value).ownBlock ∧ some k_ ≠ (Am : Value).ownBlock ∧ some k_ ≠ (An : Value).ownBlock) (.slice (some As) Aa.length Ar) Aa):=⟨h4_⟩;have n5_ : Aside0 (Kd.R (Kd.int .i64) 3 Bg w.heap.size (fun k_=>some k_ ≠ (Ck : Value).ownBlock ∧ some k_ ≠ (Ai : Value).ownBlock ∧ some k_ ≠ (Aj : Value).ownBlock ∧ some k_ ≠ (Ak : Value).ownBlock ∧ some k_ ≠ (.slice (some As) Aa.length Ar : Value).ownBlock ∧ some k_ ≠ (Am : Value).ownBlock ∧ some k_ ≠ (An : Value).ownBlock) Al Ce):=⟨h5_⟩;have n6_ : Aside0 (Kd.R (Kd.int .i64) 3 Bg w.heap.size (fun k_=>some k_ ≠ (Ck : Value).ownBlock ∧ some k_ ≠ (Ai : Value).ownBlock ∧ some k_ ≠ (Aj : Value).ownBlock ∧ some k_ ≠ (Ak : Value).ownBlock ∧ some k_ ≠ (.slice (some As) Aa.length Ar : Value).ownBlock ∧ some k_ ≠ (Al : Value).ownBlock ∧ some k_ ≠ (An : Value).ownBlock) Am Cf):=⟨h6_⟩;have n7_ : Aside0 (Kd.R (Kd.int .i64) 3 Bg w.heap.size (fun k_=>some k_ ≠ (Ck : Value).ownBlock ∧ some k_ ≠ (Ai : Value).ownBlock ∧ some k_ ≠ (Aj : Value).ownBlock ∧ some k_ ≠ (Ak : Value).ownBlock ∧ some k_ ≠ (.slice (some As) Aa.length Ar : Value).ownBlock ∧ some k_ ≠ (Al : Value).ownBlock ∧ some k_ ≠ (Am : Value).ownBlock) An Cg):=⟨h7_⟩;have n8_ : Aside0 (Bg.heap[B0]? = some (.cells #[.int .i64 Cm,Ai] 26 (0,0))):=⟨h8_⟩;have n9_ : Aside0 (Bg.heap[B2]? = some (.cells #[.int .i64 Cn,Aj] 26 (0,0))):=⟨h9_⟩;have n10_ : Aside0 (Bg.heap[B4]? = some (.cells #[.int .i64 Co,Ak] 26 (0,0))):=⟨h10_⟩;have n11_ : Aside0 (Bg.heap[Bp]? = some (.cells #[.int .i64 Bd,.slice (some As) Aa.length Ar] 26 (0,0))):=⟨h11_⟩;have n12_ : Aside0 (Bg.heap[B5]? = some (.cells #[.int .i64 Cp,Al] 26 (0,0))):=⟨h12_⟩;have n13_ : Aside0 (Bg.heap[B6]? = some (.cells #[.int .i64 Cq,Am] 26 (0,0))):=⟨h13_⟩;have n14_ : Aside0 (Bg.heap[B7]? = some (.cells #[.int .i64 Cr,An] 26 (0,0))):=⟨h14_⟩;have n15_ : Aside0 (Bg.heap[Ap]? = some (.cells #[.int .i64 0,.slice none 0 0] 26 (0,0))):=⟨h15_⟩;have n16_ : Aside0 (w.heap.size ≤ Ap):=⟨h16_⟩;have n17_ : Aside0 (w.heap.size ≤ Ap):=⟨h17_⟩;have n18_ : Aside0 (B0 ≠ Ap):=⟨h18_⟩;have n19_ : Aside0 (Ap ≠ B0):=⟨h19_⟩;have n20_ : Aside0 (B2 ≠ Ap):=⟨h20_⟩;have n21_ : Aside0 (Ap ≠ B2):=⟨h21_⟩;have n22_ : Aside0 (B4 ≠ Ap):=⟨h22_⟩;have n23_ : Aside0 (Ap ≠ B4):=⟨h23_⟩;have n24_ : Aside0 (Bp ≠ Ap):=⟨h24_⟩;have n25_ : Aside0 (Ap ≠ Bp):=⟨h25_⟩;have n26_ : Aside0 (B5 ≠ Ap):=⟨h26_⟩;have n27_ : Aside0 (Ap ≠ B5):=⟨h27_⟩;have n28_ : Aside0 (B6 ≠ Ap):=⟨h28_⟩;have n29_ : Aside0 (Ap ≠ B6):=⟨h29_⟩;have n30_ : Aside0 (B7 ≠ Ap):=⟨h30_⟩;have n31_ : Aside0 (Ap ≠ B7):=⟨h31_⟩;have n32_ : Aside0 (Below w.heap.size w Bg):=⟨h32_⟩;clear Ac;clear Ad;clear Ae;clear Ab;clear Af;clear Ag;clear Ah;clear At;clear Au;clear Av;clear Ao;clear Aw;clear Ax;clear Ay;clear HB;clear h0_ h1_ h2_ h3_ h4_ h5_ h6_ h7_ h8_ h9_ h10_ h11_ h12_ h13_ h14_ h15_ h16_ h17_ h18_ h19_ h20_ h21_ h22_ h23_ h24_ h25_ h26_ h27_ h28_ h29_ h30_ h31_ h32_;have Bb:=n0_;have Ac:=n1_;have Ad:=n2_;have Ae:=n3_;have Ab:=n4_;have Af:=n5_;have Ag:=n6_;have Ah:=n7_;have At:=n8_;have Au:=n9_;have Av:=n10_;have Ao:=n11_;have Aw:=n12_;have Ax:=n13_;have Ay:=n14_;have A8:=n15_;have C2:=n16_;have C3:=n17_;have Bj:=n18_;have Br:=n19_;have Bk:=n20_;have Bs:=n21_;have Bl:=n22_;have Bt:=n23_;have Bh:=n24_;have Bu:=n25_;have Bm:=n26_;have Bv:=n27_;have Bn:=n28_;have Bw:=n29_;have Bo:=n30_;have Bx:=n31_;have HB:=n32_;clear n0_ n1_ n2_ n3_ n4_ n5_ n6_ n7_ n8_ n9_ n10_ n11_ n12_ n13_ n14_ n15_ n16_ n17_ n18_ n19_ n20_ n21_ n22_ n23_ n24_ n25_ n26_ n27_ n28_ n29_ n30_ n31_ n32_;have hHeld : Bg.cell? ⟨Bp,0,none⟩ = some (.int .i64 Bd) ∧ Bg.cell? ⟨Bp,1,none⟩ = some (.slice (some As) Aa.length Ar):=hS_;obtain ⟨Be,Ba,Ee⟩:=Kd.R_slice Bb.1;(first|subst Ee|(injection Ee with f1_ f2_ f3_;have f4_:=f1_.symm;have f5_:=f3_.symm;clear f1_ f2_ f3_;subst f4_;subst f5_))
 refine norm_ (a':=?_) ?_ ?_
 rotate_left;·simp only [putAll,Act.put,L_,M_,N_];rfl
 refine one_ (i:=8) (N:=none) #[T,T,T,T,T,T,T,T,T] rfl rfl (one_of HT_.1 (by kernel_rfl)) (by decide) (fun K hK=>?_)
 have Z : Bg.cell? ⟨Ap,0,none⟩ = some (.int .i64 0):=blk_cell A8.1 0;have Z:=blk_frozen A8.1 0;have Z:=Bj.1;have Z:=Bk.1;have Z:=Bl.1;have Z:=Bh.1;have Z:=Bm.1;have Z:=Bn.1;have Z:=Bo.1;have Z:=Br.1;have Z:=Bs.1;have Z:=Bt.1;have Z:=Bu.1;have Z:=Bv.1;have Z:=Bw.1;have Z:=Bx.1;have Z : Bg.cell? ⟨Ap,1,none⟩ = some (.slice none 0 0):=blk_cell A8.1 1;have Z:=blk_frozen A8.1 1;have Z:=Bj.1;have Z:=Bk.1;have Z:=Bl.1;have Z:=Bh.1;have Z:=Bm.1;have Z:=Bn.1;have Z:=Bo.1;have Z:=Br.1;have Z:=Bs.1;have Z:=Bt.1;have Z:=Bu.1;have Z:=Bv.1;have Z:=Bw.1;have Z:=Bx.1;refine skip_ (w1:=?_) (by rfl) rfl ?_ ?_
 rotate_left
 ·go_simp
  rfl
 refine hK.out _ _ ⟨((cell_far (p:=⟨Ap,_,none⟩) Bh.1 _).trans (((cell_far (p:=⟨Ap,_,none⟩) Bh.1 _).trans (hHeld.1)))),((cell_far (p:=⟨Ap,_,none⟩) Bh.1 _).trans (((cell_far (p:=⟨Ap,_,none⟩) Bh.1 _).trans (hHeld.2))))⟩ (fun hHeld=>?_)
 clear hK K;refine done_ (done_of HT_.1 (by kernel_rfl)) ?_
 try go_wp2
 have n0_ : Aside0 (Kd.R (Kd.int .i64) 3 ((Bg.setCell ⟨Ap,0,none⟩ (.int .i64 Bd)).setCell ⟨Ap,1,none⟩ (.slice Be Az.length Ba)) w.heap.size (fun k_=>some k_ ≠ (Aj : Value).ownBlock ∧ some k_ ≠ (Ak : Value).ownBlock ∧ some k_ ≠ (.slice (some As) Aa.length Ar : Value).ownBlock ∧ some k_ ≠ (Al : Value).ownBlock ∧ some k_ ≠ (Am : Value).ownBlock ∧ some k_ ≠ (An : Value).ownBlock ∧ some k_ ≠ (.slice Be Az.length Ba : Value).ownBlock) Ai Cb):=⟨rq_ (Kd.R_mono (Kd.R_far (p:=⟨Ap,1,none⟩) (Kd.R_far (p:=⟨Ap,0,none⟩) (Kd.R_types Ac.1 A8.1 (by decide)) (fun _ hk=>hk.2) (.int .i64 Bd)) (fun _ hk=>hk.2) (.slice Be Az.length Ba)) (fun _ hk=>⟨hk.1.2.1,⟨hk.1.2.2.1,⟨hk.1.2.2.2.1,⟨hk.1.2.2.2.2.1,⟨hk.1.2.2.2.2.2.1,⟨hk.1.2.2.2.2.2.2,hk.1.1⟩⟩⟩⟩⟩⟩))⟩;have n1_ : Aside0 (Kd.R (Kd.int .i64) 3 ((Bg.setCell ⟨Ap,0,none⟩ (.int .i64 Bd)).setCell ⟨Ap,1,none⟩ (.slice Be Az.length Ba)) w.heap.size (fun k_=>some k_ ≠ (Ai : Value).ownBlock ∧ some k_ ≠ (Ak : Value).ownBlock ∧ some k_ ≠ (.slice (some As) Aa.length Ar : Value).ownBlock ∧ some k_ ≠ (Al : Value).ownBlock ∧ some k_ ≠ (Am : Value).ownBlock ∧ some k_ ≠ (An : Value).ownBlock ∧ some k_ ≠ (.slice Be Az.length Ba : Value).ownBlock) Aj Cc):=⟨rq_ (Kd.R_mono (Kd.R_far (p:=⟨Ap,1,none⟩) (Kd.R_far (p:=⟨Ap,0,none⟩) (Kd.R_types Ad.1 A8.1 (by decide)) (fun _ hk=>hk.2) (.int .i64 Bd)) (fun _ hk=>hk.2) (.slice Be Az.length Ba)) (fun _ hk=>⟨hk.1.2.1,⟨hk.1.2.2.1,⟨hk.1.2.2.2.1,⟨hk.1.2.2.2.2.1,⟨hk.1.2.2.2.2.2.1,⟨hk.1.2.2.2.2.2.2,hk.1.1⟩⟩⟩⟩⟩⟩))⟩;have n2_ : Aside0 (Kd.R (Kd.int .i64) 3 ((Bg.setCell ⟨Ap,0,none⟩ (.int .i64 Bd)).setCell ⟨Ap,1,none⟩ (.slice Be Az.length Ba)) w.heap.size (fun k_=>some k_ ≠ (Ai : Value).ownBlock ∧ some k_ ≠ (Aj : Value).ownBlock ∧ some k_ ≠ (.slice (some As) Aa.length Ar : Value).ownBlock ∧ some k_ ≠ (Al : Value).ownBlock ∧ some k_ ≠ (Am : Value).ownBlock ∧ some k_ ≠ (An : Value).ownBlock ∧ some k_ ≠ (.slice Be Az.length Ba : Value).ownBlock) Ak Cd):=⟨rq_ (Kd.R_mono (Kd.R_far (p:=⟨Ap,1,none⟩) (Kd.R_far (p:=⟨Ap,0,none⟩) (Kd.R_types Ae.1 A8.1 (by decide)) (fun _ hk=>hk.2) (.int .i64 Bd)) (fun _ hk=>hk.2) (.slice Be Az.length Ba)) (fun _ hk=>⟨hk.1.2.1,⟨hk.1.2.2.1,⟨hk.1.2.2.2.1,⟨hk.1.2.2.2.2.1,⟨hk.1.2.2.2.2.2.1,⟨hk.1.2.2.2.2.2.2,hk.1.1⟩⟩⟩⟩⟩⟩))⟩;have n3_ : Aside0 (Kd.R (Kd.int .i64) 3 ((Bg.setCell ⟨Ap,0,none⟩ (.int .i64 Bd)).setCell ⟨Ap,1,none⟩ (.slice Be Az.length Ba)) w.heap.size (fun k_=>some k_ ≠ (Ai : Value).ownBlock ∧ some k_ ≠ (Aj : Value).ownBlock ∧ some k_ ≠ (Ak : Value).ownBlock ∧ some k_ ≠ (Al : Value).ownBlock ∧ some k_ ≠ (Am : Value).ownBlock ∧ some k_ ≠ (An : Value).ownBlock ∧ some k_ ≠ (.slice Be Az.length Ba : Value).ownBlock) (.slice (some As) Aa.length Ar) Aa):=⟨rq_ (Kd.R_mono (Kd.R_far (p:=⟨Ap,1,none⟩) (Kd.R_far (p:=⟨Ap,0,none⟩) (Kd.R_types Ab.1 A8.1 (by decide)) (fun _ hk=>hk.2) (.int .i64 Bd)) (fun _ hk=>hk.2) (.slice Be Az.length Ba)) (fun _ hk=>⟨hk.1.2.1,⟨hk.1.2.2.1,⟨hk.1.2.2.2.1,⟨hk.1.2.2.2.2.1,⟨hk.1.2.2.2.2.2.1,⟨hk.1.2.2.2.2.2.2,hk.1.1⟩⟩⟩⟩⟩⟩))⟩;have n4_ : Aside0 (Kd.R (Kd.int .i64) 3 ((Bg.setCell ⟨Ap,0,none⟩ (.int .i64 Bd)).setCell ⟨Ap,1,none⟩ (.slice Be Az.length Ba)) w.heap.size (fun k_=>some k_ ≠ (Ai : Value).ownBlock ∧ some k_ ≠ (Aj : Value).ownBlock ∧ some k_ ≠ (Ak : Value).ownBlock ∧ some k_ ≠ (.slice (some As) Aa.length Ar : Value).ownBlock ∧ some k_ ≠ (Am : Value).ownBlock ∧ some k_ ≠ (An : Value).ownBlock ∧ some k_ ≠ (.slice Be Az.length Ba : Value).ownBlock) Al Ce):=⟨rq_ (Kd.R_mono (Kd.R_far (p:=⟨Ap,1,none⟩) (Kd.R_far (p:=⟨Ap,0,none⟩) (Kd.R_types Af.1 A8.1 (by decide)) (fun _ hk=>hk.2) (.int .i64 Bd)) (fun _ hk=>hk.2) (.slice Be Az.length Ba)) (fun _ hk=>⟨hk.1.2.1,⟨hk.1.2.2.1,⟨hk.1.2.2.2.1,⟨hk.1.2.2.2.2.1,⟨hk.1.2.2.2.2.2.1,⟨hk.1.2.2.2.2.2.2,hk.1.1⟩⟩⟩⟩⟩⟩))⟩;have n5_ : Aside0 (Kd.R (Kd.int .i64) 3 ((Bg.setCell ⟨Ap,0,none⟩ (.int .i64 Bd)).setCell ⟨Ap,1,none⟩ (.slice Be Az.length Ba)) w.heap.size (fun k_=>some k_ ≠ (Ai : Value).ownBlock ∧ some k_ ≠ (Aj : Value).ownBlock ∧ some k_ ≠ (Ak : Value).ownBlock ∧ some k_ ≠ (.slice (some As) Aa.length Ar : Value).ownBlock ∧ some k_ ≠ (Al : Value).ownBlock ∧ some k_ ≠ (An : Value).ownBlock ∧ some k_ ≠ (.slice Be Az.length Ba : Value).ownBlock) Am Cf):=⟨rq_ (Kd.R_mono (Kd.R_far (p:=⟨Ap,1,none⟩) (Kd.R_far (p:=⟨Ap,0,none⟩) (Kd.R_types Ag.1 A8.1 (by decide)) (fun _ hk=>hk.2) (.int .i64 Bd)) (fun _ hk=>hk.2) (.slice Be Az.length Ba)) (fun _ hk=>⟨hk.1.2.1,⟨hk.1.2.2.1,⟨hk.1.2.2.2.1,⟨hk.1.2.2.2.2.1,⟨hk.1.2.2.2.2.2.1,⟨hk.1.2.2.2.2.2.2,hk.1.1⟩⟩⟩⟩⟩⟩))⟩;have n6_ : Aside0 (Kd.R (Kd.int .i64) 3 ((Bg.setCell ⟨Ap,0,none⟩ (.int .i64 Bd)).setCell ⟨Ap,1,none⟩ (.slice Be Az.length Ba)) w.heap.size (fun k_=>some k_ ≠ (Ai : Value).ownBlock ∧ some k_ ≠ (Aj : Value).ownBlock ∧ some k_ ≠ (Ak : Value).ownBlock ∧ some k_ ≠ (.slice (some As) Aa.length Ar : Value).ownBlock ∧ some k_ ≠ (Al : Value).ownBlock ∧ some k_ ≠ (Am : Value).ownBlock ∧ some k_ ≠ (.slice Be Az.length Ba : Value).ownBlock) An Cg):=⟨rq_ (Kd.R_mono (Kd.R_far (p:=⟨Ap,1,none⟩) (Kd.R_far (p:=⟨Ap,0,none⟩) (Kd.R_types Ah.1 A8.1 (by decide)) (fun _ hk=>hk.2) (.int .i64 Bd)) (fun _ hk=>hk.2) (.slice Be Az.length Ba)) (fun _ hk=>⟨hk.1.2.1,⟨hk.1.2.2.1,⟨hk.1.2.2.2.1,⟨hk.1.2.2.2.2.1,⟨hk.1.2.2.2.2.2.1,⟨hk.1.2.2.2.2.2.2,hk.1.1⟩⟩⟩⟩⟩⟩))⟩;have n7_ : Aside0 (Kd.R (Kd.int .i64) 3 ((Bg.setCell ⟨Ap,0,none⟩ (.int .i64 Bd)).setCell ⟨Ap,1,none⟩ (.slice Be Az.length Ba)) w.heap.size (fun k_=>some k_ ≠ (Ai : Value).ownBlock ∧ some k_ ≠ (Aj : Value).ownBlock ∧ some k_ ≠ (Ak : Value).ownBlock ∧ some k_ ≠ (.slice (some As) Aa.length Ar : Value).ownBlock ∧ some k_ ≠ (Al : Value).ownBlock ∧ some k_ ≠ (Am : Value).ownBlock ∧ some k_ ≠ (An : Value).ownBlock) (.slice Be Az.length Ba) Az):=⟨rq_ (Kd.R_mono (Kd.R_far (p:=⟨Ap,1,none⟩) (Kd.R_far (p:=⟨Ap,0,none⟩) (Kd.R_types Bb.1 A8.1 (by decide)) (fun _ hk=>hk.2) (.int .i64 Bd)) (fun _ hk=>hk.2) (.slice Be Az.length Ba)) (fun _ hk=>⟨hk.1.1,⟨hk.1.2.1,⟨hk.1.2.2.1,⟨hk.1.2.2.2.1,⟨hk.1.2.2.2.2.1,⟨hk.1.2.2.2.2.2.1,hk.1.2.2.2.2.2.2⟩⟩⟩⟩⟩⟩))⟩;have n8_ : Aside0 (((Bg.setCell ⟨Ap,0,none⟩ (.int .i64 Bd)).setCell ⟨Ap,1,none⟩ (.slice Be Az.length Ba)).heap[B0]? = some (.cells #[.int .i64 Cm,Ai] 26 (0,0))):=⟨by (with_reducible repeat (first|refine blk_drewN ?_ _|refine blk_drew ?_|refine blk_alloc ?_ _));refine blk_far ?_ Bj.1 _;(with_reducible repeat (first|refine blk_drewN ?_ _|refine blk_drew ?_|refine blk_alloc ?_ _));refine blk_far ?_ Bj.1 _;(with_reducible repeat (first|refine blk_drewN ?_ _|refine blk_drew ?_|refine blk_alloc ?_ _));exact At.1⟩;have n9_ : Aside0 (((Bg.setCell ⟨Ap,0,none⟩ (.int .i64 Bd)).setCell ⟨Ap,1,none⟩ (.slice Be Az.length Ba)).heap[B2]? = some (.cells #[.int .i64 Cn,Aj] 26 (0,0))):=⟨by (with_reducible repeat (first|refine blk_drewN ?_ _|refine blk_drew ?_|refine blk_alloc ?_ _));refine blk_far ?_ Bk.1 _;(with_reducible repeat (first|refine blk_drewN ?_ _|refine blk_drew ?_|refine blk_alloc ?_ _));refine blk_far ?_ Bk.1 _;(with_reducible repeat (first|refine blk_drewN ?_ _|refine blk_drew ?_|refine blk_alloc ?_ _));exact Au.1⟩;have n10_ : Aside0 (((Bg.setCell ⟨Ap,0,none⟩ (.int .i64 Bd)).setCell ⟨Ap,1,none⟩ (.slice Be Az.length Ba)).heap[B4]? = some (.cells #[.int .i64 Co,Ak] 26 (0,0))):=⟨by (with_reducible repeat (first|refine blk_drewN ?_ _|refine blk_drew ?_|refine blk_alloc ?_ _));refine blk_far ?_ Bl.1 _;(with_reducible repeat (first|refine blk_drewN ?_ _|refine blk_drew ?_|refine blk_alloc ?_ _));refine blk_far ?_ Bl.1 _;(with_reducible repeat (first|refine blk_drewN ?_ _|refine blk_drew ?_|refine blk_alloc ?_ _));exact Av.1⟩;have n11_ : Aside0 (((Bg.setCell ⟨Ap,0,none⟩ (.int .i64 Bd)).setCell ⟨Ap,1,none⟩ (.slice Be Az.length Ba)).heap[Bp]? = some (.cells #[.int .i64 Bd,.slice (some As) Aa.length Ar] 26 (0,0))):=⟨by (with_reducible repeat (first|refine blk_drewN ?_ _|refine blk_drew ?_|refine blk_alloc ?_ _));refine blk_far ?_ Bh.1 _;(with_reducible repeat (first|refine blk_drewN ?_ _|refine blk_drew ?_|refine blk_alloc ?_ _));refine blk_far ?_ Bh.1 _;(with_reducible repeat (first|refine blk_drewN ?_ _|refine blk_drew ?_|refine blk_alloc ?_ _));exact Ao.1⟩;have n12_ : Aside0 (((Bg.setCell ⟨Ap,0,none⟩ (.int .i64 Bd)).setCell ⟨Ap,1,none⟩ (.slice Be Az.length Ba)).heap[B5]? = some (.cells #[.int .i64 Cp,Al] 26 (0,0))):=⟨by (with_reducible repeat (first|refine blk_drewN ?_ _|refine blk_drew ?_|refine blk_alloc ?_ _));refine blk_far ?_ Bm.1 _;(with_reducible repeat (first|refine blk_drewN ?_ _|refine blk_drew ?_|refine blk_alloc ?_ _));refine blk_far ?_ Bm.1 _;(with_reducible repeat (first|refine blk_drewN ?_ _|refine blk_drew ?_|refine blk_alloc ?_ _));exact Aw.1⟩;have n13_ : Aside0 (((Bg.setCell ⟨Ap,0,none⟩ (.int .i64 Bd)).setCell ⟨Ap,1,none⟩ (.slice Be Az.length Ba)).heap[B6]? = some (.cells #[.int .i64 Cq,Am] 26 (0,0))):=⟨by (with_reducible repeat (first|refine blk_drewN ?_ _|refine blk_drew ?_|refine blk_alloc ?_ _));refine blk_far ?_ Bn.1 _;(with_reducible repeat (first|refine blk_drewN ?_ _|refine blk_drew ?_|refine blk_alloc ?_ _));refine blk_far ?_ Bn.1 _;(with_reducible repeat (first|refine blk_drewN ?_ _|refine blk_drew ?_|refine blk_alloc ?_ _));exact Ax.1⟩;have n14_ : Aside0 (((Bg.setCell ⟨Ap,0,none⟩ (.int .i64 Bd)).setCell ⟨Ap,1,none⟩ (.slice Be Az.length Ba)).heap[B7]? = some (.cells #[.int .i64 Cr,An] 26 (0,0))):=⟨by (with_reducible repeat (first|refine blk_drewN ?_ _|refine blk_drew ?_|refine blk_alloc ?_ _));refine blk_far ?_ Bo.1 _;(with_reducible repeat (first|refine blk_drewN ?_ _|refine blk_drew ?_|refine blk_alloc ?_ _));refine blk_far ?_ Bo.1 _;(with_reducible repeat (first|refine blk_drewN ?_ _|refine blk_drew ?_|refine blk_alloc ?_ _));exact Ay.1⟩;have n15_ : Aside0 (((Bg.setCell ⟨Ap,0,none⟩ (.int .i64 Bd)).setCell ⟨Ap,1,none⟩ (.slice Be Az.length Ba)).heap[Ap]? = some (.cells #[.int .i64 Bd,.slice Be Az.length Ba] 26 (0,0))):=⟨by (with_reducible repeat (first|refine blk_drewN ?_ _|refine blk_drew ?_|refine blk_alloc ?_ _));refine blk_put (cs:=#[.int .i64 Bd,.slice none 0 0]) ?_ 1 _ rfl;(with_reducible repeat (first|refine blk_drewN ?_ _|refine blk_drew ?_|refine blk_alloc ?_ _));refine blk_put (cs:=#[.int .i64 0,.slice none 0 0]) ?_ 0 _ rfl;(with_reducible repeat (first|refine blk_drewN ?_ _|refine blk_drew ?_|refine blk_alloc ?_ _));exact A8.1⟩;have n16_ : Aside0 (Below w.heap.size w ((Bg.setCell ⟨Ap,0,none⟩ (.int .i64 Bd)).setCell ⟨Ap,1,none⟩ (.slice Be Az.length Ba))):=⟨bb_⟩;(try clear Ac);(try clear Ad);(try clear Ae);(try clear Ab);(try clear Af);(try clear Ag);(try clear Ah);(try clear Bb);(try clear At);(try clear Au);(try clear Av);(try clear Ao);(try clear Aw);(try clear Ax);(try clear Ay);(try clear A8);(try clear HB);generalize ((Bg.setCell ⟨Ap,0,none⟩ (.int .i64 Bd)).setCell ⟨Ap,1,none⟩ (.slice Be Az.length Ba)) = F3 at n0_ n1_ n2_ n3_ n4_ n5_ n6_ n7_ n8_ n9_ n10_ n11_ n12_ n13_ n14_ n15_ n16_ ⊢
 have Ac:=n0_;have Ad:=n1_;have Ae:=n2_;have Ab:=n3_;have Af:=n4_;have Ag:=n5_;have Ah:=n6_;have Bb:=n7_;have At:=n8_;have Au:=n9_;have Av:=n10_;have Ao:=n11_;have Aw:=n12_;have Ax:=n13_;have Ay:=n14_;have A8:=n15_;have HB:=n16_;clear n0_ n1_ n2_ n3_ n4_ n5_ n6_ n7_ n8_ n9_ n10_ n11_ n12_ n13_ n14_ n15_ n16_;have n0_:=A_ (Kd.R_drew Ac.1);have n1_:=A_ (Kd.R_drew Ad.1);have n2_:=A_ (Kd.R_drew Ae.1);have n3_:=A_ (Kd.R_drew Ab.1);have n4_:=A_ (Kd.R_drew Af.1);have n5_:=A_ (Kd.R_drew Ag.1);have n6_:=A_ (Kd.R_drew Ah.1);have n7_:=A_ (Kd.R_drew Bb.1);have n8_:=A_ (blk_drew At.1);have n9_:=A_ (blk_drew Au.1);have n10_:=A_ (blk_drew Av.1);have n11_:=A_ (blk_drew Ao.1);have n12_:=A_ (blk_drew Aw.1);have n13_:=A_ (blk_drew Ax.1);have n14_:=A_ (blk_drew Ay.1);have n15_:=A_ (blk_drew A8.1);have n16_:=A_ (below_drew1 HB.1);clear Ac;clear Ad;clear Ae;clear Ab;clear Af;clear Ag;clear Ah;clear Bb;clear At;clear Au;clear Av;clear Ao;clear Aw;clear Ax;clear Ay;clear A8;clear HB;have Ac:=n0_;have Ad:=n1_;have Ae:=n2_;have Ab:=n3_;have Af:=n4_;have Ag:=n5_;have Ah:=n6_;have Bb:=n7_;have At:=n8_;have Au:=n9_;have Av:=n10_;have Ao:=n11_;have Aw:=n12_;have Ax:=n13_;have Ay:=n14_;have A8:=n15_;have HB:=n16_;clear n0_ n1_ n2_ n3_ n4_ n5_ n6_ n7_ n8_ n9_ n10_ n11_ n12_ n13_ n14_ n15_ n16_;have D6 : 0 ≤ (Aq : Int):=of_decide_eq_true (by first|(with_reducible assumption)|assumption);have D7 : Aq < (Az.length : Int):=of_decide_eq_true (by first|(with_reducible assumption)|assumption);obtain ⟨Ja,F4,C9⟩:=Kd.at_int (Kd.R_reads' Bb.1).2.2 Aq D6 D7;cases F4
 replace D6:=eq_true D6;replace D7:=eq_true D7;have D8 : 0 ≤ (Aq : Int):=of_decide_eq_true (by first|(with_reducible assumption)|assumption);have D9 : (Aq : Int) < ((Az.length : Int) : Int):=of_decide_eq_true (by first|(with_reducible assumption)|assumption);obtain ⟨Bc,Jb,Ef,Eg,Ep,Jc,Eh⟩:=Kd.R_form Bb.1 (by omega);(first|cases Ef|(injection Ef with ea_ en_ ec_;(first|subst ea_|(injection ea_ with ea_;subst ea_));subst ec_;clear en_))
 have Er:=A_ Eg;have Es:=A_ Eh;clear Eg Ep Eh;(first|simp only [add_plain] at C9|skip)
 obtain ⟨Ej,Ek⟩:=Kd.R_celln 0 Bb.1 (Aq : Int) D8 D9;replace D8:=eq_true D8;replace D9:=eq_true D9;have Dg:=Kd.R_putn Bb.1 (Aq : Int) (wrap64 ((rd Az Aq) - (Bi)));rw [← El.1] at Dg;have Ei:=A_ Dg;clear Dg;refine start_ (n:=10) (S:=fun w'=>w'.cell? ⟨Ap,0,none⟩ = some (.int .i64 Bd) ∧ w'.cell? ⟨Ap,1,none⟩ = some (.slice (some ⟨Bc,0,none⟩) Az.length Ba) ∧ w'.cell? ⟨Bc,(Aq).toNat,none⟩ = some (.int .i64 (rd Az Aq))) (ds:=[9]) #[F,F,F,F,F,F,F,F,F,F] (by kernel_rfl) rfl rfl ⟨blk_cell A8.1 0,blk_cell A8.1 1,C9⟩ (fun hHeld=>?_);refine with_tabW Aab.tab40 Aab.bits40 (fun HT_ HW_=>?_)
 generalize F3.drew = Bz at Ac Ad Ae Ab Af Ag Ah Bb At Au Av Ao Aw Ax Ay A8 HB Es Ei Ek Ej C9 hHeld ⊢
 refine pu_ (i:=0) (N:=169) #[T,F,F,F,F,F,F,F,F,F] HT_.1 rfl rfl (fun _ _ _ h=>h) rfl (h:=?_)
 refine pu_ (i:=2) (N:=171) #[T,F,T,F,F,F,F,F,F,F] HT_.1 rfl rfl (fun _ _ _ h=>h) rfl (h:=?_)
 refine pu_ (i:=5) (N:=174) #[T,F,T,F,F,T,F,F,F,F] HT_.1 rfl rfl (fun _ _ _ h=>h) rfl (h:=?_)
 refine pu_ (i:=6) (N:=175) #[T,F,T,F,F,T,T,F,F,F] HT_.1 rfl rfl (fun _ _ _ h=>h) rfl (h:=?_)
 refine take_ (i:=1) (N:=some 170) (v:=?_) (a':=?_) #[T,T,T,F,F,T,T,F,F,F] rfl rfl (take_ofW HT_.1 HW_.1 (by kernel_rfl)) (fun _ _ _ h=>h) (Or.inl ⟨by rfl,?_⟩) hHeld ?_ ?_
 rotate_left
 ·rintro w' ⟨s0,s1,s2⟩
  go_simp
  with_reducible rfl
 rotate_left;·simp only [Act.put,L_,M_,N_,i64_w,i32_w];rfl
 refine pu_ (i:=3) (N:=172) #[T,T,T,T,F,T,T,F,F,F] HT_.1 rfl rfl (fun _ _ _ h=>h) rfl (h:=?_)
 refine take_ (i:=4) (N:=some 173) (v:=?_) (a':=?_) #[T,T,T,T,T,T,T,F,F,F] rfl rfl (take_ofW HT_.1 HW_.1 (by kernel_rfl)) (fun _ _ _ h=>h) (Or.inl ⟨by rfl,?_⟩) hHeld ?_ ?_
 rotate_left
 ·rintro w' ⟨s0,s1,s2⟩
  go_simp
  with_reducible rfl
 rotate_left;·simp only [Act.put,L_,M_,N_,i64_w,i32_w];rfl
 refine pu_ (i:=7) (N:=176) #[T,T,T,T,T,T,T,T,F,F] HT_.1 rfl rfl (fun _ _ _ h=>h) rfl (h:=?_)
 refine pu_ (i:=8) (N:=177) #[T,T,T,T,T,T,T,T,T,F] HT_.1 rfl rfl (fun _ _ _ h=>h) rfl (h:=?_)
 refine last_ (i:=9) (N:=none) #[T,T,T,T,T,T,T,T,T,T] rfl rfl (one_of HT_.1 (by kernel_rfl)) (by decide) (fun K hK=>?_)
 refine skip_ (w1:=?_) (by rfl) rfl ?_ ?_
 rotate_left
 ·go_simp
  rfl
 refine hK.out _ _ ?_
 clear hK K;refine done_ (done_of HT_.1 (by kernel_rfl)) ?_
 have n0_ : Aside0 (Kd.R (Kd.int .i64) 3 (Bz.setCell ⟨Bc,(Aq : Int).toNat,none⟩ (.int .i64 (wrap64 ((rd Az Aq) - (Bi))))) w.heap.size (fun k_=>some k_ ≠ (Aj : Value).ownBlock ∧ some k_ ≠ (Ak : Value).ownBlock ∧ some k_ ≠ (.slice (some As) Aa.length Ar : Value).ownBlock ∧ some k_ ≠ (Al : Value).ownBlock ∧ some k_ ≠ (Am : Value).ownBlock ∧ some k_ ≠ (An : Value).ownBlock ∧ some k_ ≠ (.slice (some ⟨Bc,0,none⟩) Az.length Ba : Value).ownBlock) Ai Cb):=⟨rq_ (Kd.R_mono (Kd.R_far (p:=⟨Bc,(Aq : Int).toNat,none⟩) (Kd.R_mono Ac.1 (fun k_ hk=>(⟨hk,fun e_=>hk.2.2.2.2.2.2 (by rw [e_];rfl)⟩ : _ ∧ k_ ≠ Bc))) (fun _ hk=>hk.2) (.int .i64 (wrap64 ((rd Az Aq) - (Bi))))) (fun _ hk=>⟨hk.1.1,⟨hk.1.2.1,⟨hk.1.2.2.1,⟨hk.1.2.2.2.1,⟨hk.1.2.2.2.2.1,⟨hk.1.2.2.2.2.2.1,hk.1.2.2.2.2.2.2⟩⟩⟩⟩⟩⟩))⟩;have n1_ : Aside0 (Kd.R (Kd.int .i64) 3 (Bz.setCell ⟨Bc,(Aq : Int).toNat,none⟩ (.int .i64 (wrap64 ((rd Az Aq) - (Bi))))) w.heap.size (fun k_=>some k_ ≠ (Ai : Value).ownBlock ∧ some k_ ≠ (Ak : Value).ownBlock ∧ some k_ ≠ (.slice (some As) Aa.length Ar : Value).ownBlock ∧ some k_ ≠ (Al : Value).ownBlock ∧ some k_ ≠ (Am : Value).ownBlock ∧ some k_ ≠ (An : Value).ownBlock ∧ some k_ ≠ (.slice (some ⟨Bc,0,none⟩) Az.length Ba : Value).ownBlock) Aj Cc):=⟨rq_ (Kd.R_mono (Kd.R_far (p:=⟨Bc,(Aq : Int).toNat,none⟩) (Kd.R_mono Ad.1 (fun k_ hk=>(⟨hk,fun e_=>hk.2.2.2.2.2.2 (by rw [e_];rfl)⟩ : _ ∧ k_ ≠ Bc))) (fun _ hk=>hk.2) (.int .i64 (wrap64 ((rd Az Aq) - (Bi))))) (fun _ hk=>⟨hk.1.1,⟨hk.1.2.1,⟨hk.1.2.2.1,⟨hk.1.2.2.2.1,⟨hk.1.2.2.2.2.1,⟨hk.1.2.2.2.2.2.1,hk.1.2.2.2.2.2.2⟩⟩⟩⟩⟩⟩))⟩;have n2_ : Aside0 (Kd.R (Kd.int .i64) 3 (Bz.setCell ⟨Bc,(Aq : Int).toNat,none⟩ (.int .i64 (wrap64 ((rd Az Aq) - (Bi))))) w.heap.size (fun k_=>some k_ ≠ (Ai : Value).ownBlock ∧ some k_ ≠ (Aj : Value).ownBlock ∧ some k_ ≠ (.slice (some As) Aa.length Ar : Value).ownBlock ∧ some k_ ≠ (Al : Value).ownBlock ∧ some k_ ≠ (Am : Value).ownBlock ∧ some k_ ≠ (An : Value).ownBlock ∧ some k_ ≠ (.slice (some ⟨Bc,0,none⟩) Az.length Ba : Value).ownBlock) Ak Cd):=⟨rq_ (Kd.R_mono (Kd.R_far (p:=⟨Bc,(Aq : Int).toNat,none⟩) (Kd.R_mono Ae.1 (fun k_ hk=>(⟨hk,fun e_=>hk.2.2.2.2.2.2 (by rw [e_];rfl)⟩ : _ ∧ k_ ≠ Bc))) (fun _ hk=>hk.2) (.int .i64 (wrap64 ((rd Az Aq) - (Bi))))) (fun _ hk=>⟨hk.1.1,⟨hk.1.2.1,⟨hk.1.2.2.1,⟨hk.1.2.2.2.1,⟨hk.1.2.2.2.2.1,⟨hk.1.2.2.2.2.2.1,hk.1.2.2.2.2.2.2⟩⟩⟩⟩⟩⟩))⟩;have n3_ : Aside0 (Kd.R (Kd.int .i64) 3 (Bz.setCell ⟨Bc,(Aq : Int).toNat,none⟩ (.int .i64 (wrap64 ((rd Az Aq) - (Bi))))) w.heap.size (fun k_=>some k_ ≠ (Ai : Value).ownBlock ∧ some k_ ≠ (Aj : Value).ownBlock ∧ some k_ ≠ (Ak : Value).ownBlock ∧ some k_ ≠ (Al : Value).ownBlock ∧ some k_ ≠ (Am : Value).ownBlock ∧ some k_ ≠ (An : Value).ownBlock ∧ some k_ ≠ (.slice (some ⟨Bc,0,none⟩) Az.length Ba : Value).ownBlock) (.slice (some As) Aa.length Ar) Aa):=⟨rq_ (Kd.R_mono (Kd.R_far (p:=⟨Bc,(Aq : Int).toNat,none⟩) (Kd.R_mono Ab.1 (fun k_ hk=>(⟨hk,fun e_=>hk.2.2.2.2.2.2 (by rw [e_];rfl)⟩ : _ ∧ k_ ≠ Bc))) (fun _ hk=>hk.2) (.int .i64 (wrap64 ((rd Az Aq) - (Bi))))) (fun _ hk=>⟨hk.1.1,⟨hk.1.2.1,⟨hk.1.2.2.1,⟨hk.1.2.2.2.1,⟨hk.1.2.2.2.2.1,⟨hk.1.2.2.2.2.2.1,hk.1.2.2.2.2.2.2⟩⟩⟩⟩⟩⟩))⟩;have n4_ : Aside0 (Kd.R (Kd.int .i64) 3 (Bz.setCell ⟨Bc,(Aq : Int).toNat,none⟩ (.int .i64 (wrap64 ((rd Az Aq) - (Bi))))) w.heap.size (fun k_=>some k_ ≠ (Ai : Value).ownBlock ∧ some k_ ≠ (Aj : Value).ownBlock ∧ some k_ ≠ (Ak : Value).ownBlock ∧ some k_ ≠ (.slice (some As) Aa.length Ar : Value).ownBlock ∧ some k_ ≠ (Am : Value).ownBlock ∧ some k_ ≠ (An : Value).ownBlock ∧ some k_ ≠ (.slice (some ⟨Bc,0,none⟩) Az.length Ba : Value).ownBlock) Al Ce):=⟨rq_ (Kd.R_mono (Kd.R_far (p:=⟨Bc,(Aq : Int).toNat,none⟩) (Kd.R_mono Af.1 (fun k_ hk=>(⟨hk,fun e_=>hk.2.2.2.2.2.2 (by rw [e_];rfl)⟩ : _ ∧ k_ ≠ Bc))) (fun _ hk=>hk.2) (.int .i64 (wrap64 ((rd Az Aq) - (Bi))))) (fun _ hk=>⟨hk.1.1,⟨hk.1.2.1,⟨hk.1.2.2.1,⟨hk.1.2.2.2.1,⟨hk.1.2.2.2.2.1,⟨hk.1.2.2.2.2.2.1,hk.1.2.2.2.2.2.2⟩⟩⟩⟩⟩⟩))⟩;have n5_ : Aside0 (Kd.R (Kd.int .i64) 3 (Bz.setCell ⟨Bc,(Aq : Int).toNat,none⟩ (.int .i64 (wrap64 ((rd Az Aq) - (Bi))))) w.heap.size (fun k_=>some k_ ≠ (Ai : Value).ownBlock ∧ some k_ ≠ (Aj : Value).ownBlock ∧ some k_ ≠ (Ak : Value).ownBlock ∧ some k_ ≠ (.slice (some As) Aa.length Ar : Value).ownBlock ∧ some k_ ≠ (Al : Value).ownBlock ∧ some k_ ≠ (An : Value).ownBlock ∧ some k_ ≠ (.slice (some ⟨Bc,0,none⟩) Az.length Ba : Value).ownBlock) Am Cf):=⟨rq_ (Kd.R_mono (Kd.R_far (p:=⟨Bc,(Aq : Int).toNat,none⟩) (Kd.R_mono Ag.1 (fun k_ hk=>(⟨hk,fun e_=>hk.2.2.2.2.2.2 (by rw [e_];rfl)⟩ : _ ∧ k_ ≠ Bc))) (fun _ hk=>hk.2) (.int .i64 (wrap64 ((rd Az Aq) - (Bi))))) (fun _ hk=>⟨hk.1.1,⟨hk.1.2.1,⟨hk.1.2.2.1,⟨hk.1.2.2.2.1,⟨hk.1.2.2.2.2.1,⟨hk.1.2.2.2.2.2.1,hk.1.2.2.2.2.2.2⟩⟩⟩⟩⟩⟩))⟩;have n6_ : Aside0 (Kd.R (Kd.int .i64) 3 (Bz.setCell ⟨Bc,(Aq : Int).toNat,none⟩ (.int .i64 (wrap64 ((rd Az Aq) - (Bi))))) w.heap.size (fun k_=>some k_ ≠ (Ai : Value).ownBlock ∧ some k_ ≠ (Aj : Value).ownBlock ∧ some k_ ≠ (Ak : Value).ownBlock ∧ some k_ ≠ (.slice (some As) Aa.length Ar : Value).ownBlock ∧ some k_ ≠ (Al : Value).ownBlock ∧ some k_ ≠ (Am : Value).ownBlock ∧ some k_ ≠ (.slice (some ⟨Bc,0,none⟩) Az.length Ba : Value).ownBlock) An Cg):=⟨rq_ (Kd.R_mono (Kd.R_far (p:=⟨Bc,(Aq : Int).toNat,none⟩) (Kd.R_mono Ah.1 (fun k_ hk=>(⟨hk,fun e_=>hk.2.2.2.2.2.2 (by rw [e_];rfl)⟩ : _ ∧ k_ ≠ Bc))) (fun _ hk=>hk.2) (.int .i64 (wrap64 ((rd Az Aq) - (Bi))))) (fun _ hk=>⟨hk.1.1,⟨hk.1.2.1,⟨hk.1.2.2.1,⟨hk.1.2.2.2.1,⟨hk.1.2.2.2.2.1,⟨hk.1.2.2.2.2.2.1,hk.1.2.2.2.2.2.2⟩⟩⟩⟩⟩⟩))⟩;have n7_ : Aside0 (Kd.R (Kd.int .i64) 3 (Bz.setCell ⟨Bc,(Aq : Int).toNat,none⟩ (.int .i64 (wrap64 ((rd Az Aq) - (Bi))))) w.heap.size (fun k_=>some k_ ≠ (Ai : Value).ownBlock ∧ some k_ ≠ (Aj : Value).ownBlock ∧ some k_ ≠ (Ak : Value).ownBlock ∧ some k_ ≠ (.slice (some As) Aa.length Ar : Value).ownBlock ∧ some k_ ≠ (Al : Value).ownBlock ∧ some k_ ≠ (Am : Value).ownBlock ∧ some k_ ≠ (An : Value).ownBlock) (.slice (some ⟨Bc,0,none⟩) Az.length Ba) Dc):=⟨rl_ Ei⟩;have n8_ : Aside0 ((Bz.setCell ⟨Bc,(Aq : Int).toNat,none⟩ (.int .i64 (wrap64 ((rd Az Aq) - (Bi))))).heap[B0]? = some (.cells #[.int .i64 Cm,Ai] 26 (0,0))):=⟨by (with_reducible repeat (first|refine blk_drewN ?_ _|refine blk_drew ?_|refine blk_alloc ?_ _));refine blk_far ?_ (by have h_:=Kd.R_ne Bb.1 At.1 (by decide);intro e_;exact h_ (by rw [e_];rfl)) _;(with_reducible repeat (first|refine blk_drewN ?_ _|refine blk_drew ?_|refine blk_alloc ?_ _));exact At.1⟩;have n9_ : Aside0 ((Bz.setCell ⟨Bc,(Aq : Int).toNat,none⟩ (.int .i64 (wrap64 ((rd Az Aq) - (Bi))))).heap[B2]? = some (.cells #[.int .i64 Cn,Aj] 26 (0,0))):=⟨by (with_reducible repeat (first|refine blk_drewN ?_ _|refine blk_drew ?_|refine blk_alloc ?_ _));refine blk_far ?_ (by have h_:=Kd.R_ne Bb.1 Au.1 (by decide);intro e_;exact h_ (by rw [e_];rfl)) _;(with_reducible repeat (first|refine blk_drewN ?_ _|refine blk_drew ?_|refine blk_alloc ?_ _));exact Au.1⟩;have n10_ : Aside0 ((Bz.setCell ⟨Bc,(Aq : Int).toNat,none⟩ (.int .i64 (wrap64 ((rd Az Aq) - (Bi))))).heap[B4]? = some (.cells #[.int .i64 Co,Ak] 26 (0,0))):=⟨by (with_reducible repeat (first|refine blk_drewN ?_ _|refine blk_drew ?_|refine blk_alloc ?_ _));refine blk_far ?_ (by have h_:=Kd.R_ne Bb.1 Av.1 (by decide);intro e_;exact h_ (by rw [e_];rfl)) _;(with_reducible repeat (first|refine blk_drewN ?_ _|refine blk_drew ?_|refine blk_alloc ?_ _));exact Av.1⟩;have n11_ : Aside0 ((Bz.setCell ⟨Bc,(Aq : Int).toNat,none⟩ (.int .i64 (wrap64 ((rd Az Aq) - (Bi))))).heap[Bp]? = some (.cells #[.int .i64 Bd,.slice (some As) Aa.length Ar] 26 (0,0))):=⟨by (with_reducible repeat (first|refine blk_drewN ?_ _|refine blk_drew ?_|refine blk_alloc ?_ _));refine blk_far ?_ (by have h_:=Kd.R_ne Bb.1 Ao.1 (by decide);intro e_;exact h_ (by rw [e_];rfl)) _;(with_reducible repeat (first|refine blk_drewN ?_ _|refine blk_drew ?_|refine blk_alloc ?_ _));exact Ao.1⟩;have n12_ : Aside0 ((Bz.setCell ⟨Bc,(Aq : Int).toNat,none⟩ (.int .i64 (wrap64 ((rd Az Aq) - (Bi))))).heap[B5]? = some (.cells #[.int .i64 Cp,Al] 26 (0,0))):=⟨by (with_reducible repeat (first|refine blk_drewN ?_ _|refine blk_drew ?_|refine blk_alloc ?_ _));refine blk_far ?_ (by have h_:=Kd.R_ne Bb.1 Aw.1 (by decide);intro e_;exact h_ (by rw [e_];rfl)) _;(with_reducible repeat (first|refine blk_drewN ?_ _|refine blk_drew ?_|refine blk_alloc ?_ _));exact Aw.1⟩;have n13_ : Aside0 ((Bz.setCell ⟨Bc,(Aq : Int).toNat,none⟩ (.int .i64 (wrap64 ((rd Az Aq) - (Bi))))).heap[B6]? = some (.cells #[.int .i64 Cq,Am] 26 (0,0))):=⟨by (with_reducible repeat (first|refine blk_drewN ?_ _|refine blk_drew ?_|refine blk_alloc ?_ _));refine blk_far ?_ (by have h_:=Kd.R_ne Bb.1 Ax.1 (by decide);intro e_;exact h_ (by rw [e_];rfl)) _;(with_reducible repeat (first|refine blk_drewN ?_ _|refine blk_drew ?_|refine blk_alloc ?_ _));exact Ax.1⟩;have n14_ : Aside0 ((Bz.setCell ⟨Bc,(Aq : Int).toNat,none⟩ (.int .i64 (wrap64 ((rd Az Aq) - (Bi))))).heap[B7]? = some (.cells #[.int .i64 Cr,An] 26 (0,0))):=⟨by (with_reducible repeat (first|refine blk_drewN ?_ _|refine blk_drew ?_|refine blk_alloc ?_ _));refine blk_far ?_ (by have h_:=Kd.R_ne Bb.1 Ay.1 (by decide);intro e_;exact h_ (by rw [e_];rfl)) _;(with_reducible repeat (first|refine blk_drewN ?_ _|refine blk_drew ?_|refine blk_alloc ?_ _));exact Ay.1⟩;have n15_ : Aside0 ((Bz.setCell ⟨Bc,(Aq : Int).toNat,none⟩ (.int .i64 (wrap64 ((rd Az Aq) - (Bi))))).heap[Ap]? = some (.cells #[.int .i64 Bd,.slice (some ⟨Bc,0,none⟩) Az.length Ba] 26 (0,0))):=⟨by (with_reducible repeat (first|refine blk_drewN ?_ _|refine blk_drew ?_|refine blk_alloc ?_ _));refine blk_far ?_ (by have h_:=Kd.R_ne Bb.1 A8.1 (by decide);intro e_;exact h_ (by rw [e_];rfl)) _;(with_reducible repeat (first|refine blk_drewN ?_ _|refine blk_drew ?_|refine blk_alloc ?_ _));exact A8.1⟩;have n16_ : Aside0 (Below w.heap.size w (Bz.setCell ⟨Bc,(Aq : Int).toNat,none⟩ (.int .i64 (wrap64 ((rd Az Aq) - (Bi)))))):=⟨by repeat (first|(with_reducible first|exact HB.1|apply below_alloc|apply pw_below_drewN|apply below_drew1|refine below_set ?_ Er.1|refine below_set ?_ (Aside0.out (by assumption)))|exact HB.1)⟩;(try clear Ac);(try clear Ad);(try clear Ae);(try clear Ab);(try clear Af);(try clear Ag);(try clear Ah);(try clear Bb);(try clear At);(try clear Au);(try clear Av);(try clear Ao);(try clear Aw);(try clear Ax);(try clear Ay);(try clear A8);(try clear HB);generalize (Bz.setCell ⟨Bc,(Aq : Int).toNat,none⟩ (.int .i64 (wrap64 ((rd Az Aq) - (Bi))))) = Mm at n0_ n1_ n2_ n3_ n4_ n5_ n6_ n7_ n8_ n9_ n10_ n11_ n12_ n13_ n14_ n15_ n16_ ⊢
 have Ac:=n0_;have Ad:=n1_;have Ae:=n2_;have Ab:=n3_;have Af:=n4_;have Ag:=n5_;have Ah:=n6_;have Bb:=n7_;have At:=n8_;have Au:=n9_;have Av:=n10_;have Ao:=n11_;have Aw:=n12_;have Ax:=n13_;have Ay:=n14_;have A8:=n15_;have HB:=n16_;clear n0_ n1_ n2_ n3_ n4_ n5_ n6_ n7_ n8_ n9_ n10_ n11_ n12_ n13_ n14_ n15_ n16_;have Z:=Br.1;have Z:=Bj.1;have Z:=Bs.1;have Z:=Bk.1;have Z:=Bt.1;have Z:=Bl.1;have Z:=Bu.1;have Z:=Bh.1;have Z:=Bv.1;have Z:=Bm.1;have Z:=Bw.1;have Z:=Bn.1;have Z:=Bx.1;have Z:=Bo.1;obtain ⟨Z,Z,Z,Z⟩:=o2_ A8.1;try go_wp2_with (first|((with_reducible refine gate_callee (f:=11) rfl ?_);refine goesL_ (some 180) rfl rfl Tryd.func11 (by kernel_rfl) rfl #[.agg #[.int .i64 Bd,.slice (some ⟨Bc,0,none⟩) Dc.length Ba]] rfl (by (try simp only [P_,Q_,R_]);first|done|(rw [show Dc.length = Az.length from (Kd.R_reads' Bb.1).1.symm] <;> rfl)|rfl|(simp only [S_,U_];rfl)) ?_;(with_reducible refine (Aal.calls k7 Bd _ _ Dc Cs Cj true _ ?side1 ?side2 Fx.1).mono ?_);(case side1=>exact cl_ (Kd.R_reads' Bb.1).2.2);(case side2=>rw [show Dc.length = Az.length from (Kd.R_reads' Bb.1).1.symm];exact (Kd.R_reads' Bb.1).2.1);rintro e Mn ⟨Mo,rfl,ho0,hb⟩;refine ⟨_,rfl,?_⟩;have n0_:=A_ (Kd.R_elder' (rl_ Ac) (Kd.R_base ho0) hb);have n1_:=A_ (Kd.R_elder' (rl_ Ad) (Kd.R_base ho0) hb);have n2_:=A_ (Kd.R_elder' (rl_ Ae) (Kd.R_base ho0) hb);have n3_:=A_ (Kd.R_elder' (rl_ Ab) (Kd.R_base ho0) hb);have n4_:=A_ (Kd.R_elder' (rl_ Af) (Kd.R_base ho0) hb);have n5_:=A_ (Kd.R_elder' (rl_ Ag) (Kd.R_base ho0) hb);have n6_:=A_ (Kd.R_elder' (rl_ Ah) (Kd.R_base ho0) hb);have n7_:=A_ (Kd.R_elder' (rl_ Bb) (Kd.R_base ho0) hb);have n8_:=A_ (Kd.R_lower (Kd.R_new' (Kd.R_new' (Kd.R_new' (Kd.R_new' (Kd.R_new' (Kd.R_new' (Kd.R_new' (Kd.R_new' ho0 (Kd.R_lt (rl_ Ac))) (Kd.R_lt (rl_ Ad))) (Kd.R_lt (rl_ Ae))) (Kd.R_lt (rl_ Ab))) (Kd.R_lt (rl_ Af))) (Kd.R_lt (rl_ Ag))) (Kd.R_lt (rl_ Ah))) (Kd.R_lt (rl_ Bb))) (below_size bb_));have n9_:=bz At hb;have n10_:=bz Au hb;have n11_:=bz Av hb;have n12_:=bz Ao hb;have n13_:=bz Aw hb;have n14_:=bz Ax hb;have n15_:=bz Ay hb;have n16_:=bz A8 hb;have n17_:=A_ (below_step bb_ hb);clear Ac;clear Ad;clear Ae;clear Ab;clear Af;clear Ag;clear Ah;clear Bb;clear At;clear Au;clear Av;clear Ao;clear Aw;clear Ax;clear Ay;clear A8;clear HB;have Ac:=n0_;have Ad:=n1_;have Ae:=n2_;have Ab:=n3_;have Af:=n4_;have Ag:=n5_;have Ah:=n6_;have Bb:=n7_;have Ct:=n8_;have At:=n9_;have Au:=n10_;have Av:=n11_;have Ao:=n12_;have Aw:=n13_;have Ax:=n14_;have Ay:=n15_;have A8:=n16_;have HB:=n17_;clear n0_ n1_ n2_ n3_ n4_ n5_ n6_ n7_ n8_ n9_ n10_ n11_ n12_ n13_ n14_ n15_ n16_ n17_;(try clear hb);(try clear hb2);(try clear hk);(try clear hi);(try clear ho0))|((with_reducible refine gate_dst (N:=24) rfl ?_);refine box_event ?hg (N:=24) ?hd (cs:=#[.int .i64 0,.slice none 0 0]) (t:=26) ?hr ?_;(case hd=>rfl);(case hg=>rfl);(case hr=>go_simp;try rfl);intro Bq hg Mp hbox hb;have n0_:=rb_ Ac hb;have n1_:=rb_ Ad hb;have n2_:=rb_ Ae hb;have n3_:=rb_ Ab hb;have n4_:=rb_ Af hb;have n5_:=rb_ Ag hb;have n6_:=rb_ Ah hb;have n7_:=rb_ Bb hb;have n8_:=rb_ Ct hb;have n9_:=bz At hb;have n10_:=bz Au hb;have n11_:=bz Av hb;have n12_:=bz Ao hb;have n13_:=bz Aw hb;have n14_:=bz Ax hb;have n15_:=bz Ay hb;have n16_:=bz A8 hb;have n17_:=A_ (below_step bb_ hb);have n18_:=A_ (hbox);have n19_:=A_ (gw_ (w:=w) hg bb_);have n20_:=A_ (gw_ (w:=w) hg bb_);have n21_:=A_ (nl_ hg At);have n22_:=A_ (ng_ hg At);have n23_:=A_ (nl_ hg Au);have n24_:=A_ (ng_ hg Au);have n25_:=A_ (nl_ hg Av);have n26_:=A_ (ng_ hg Av);have n27_:=A_ (nl_ hg Ao);have n28_:=A_ (ng_ hg Ao);have n29_:=A_ (nl_ hg Aw);have n30_:=A_ (ng_ hg Aw);have n31_:=A_ (nl_ hg Ax);have n32_:=A_ (ng_ hg Ax);have n33_:=A_ (nl_ hg Ay);have n34_:=A_ (ng_ hg Ay);have n35_:=A_ (nl_ hg A8);have n36_:=A_ (ng_ hg A8);clear Ac;clear Ad;clear Ae;clear Ab;clear Af;clear Ag;clear Ah;clear Bb;clear Ct;clear At;clear Au;clear Av;clear Ao;clear Aw;clear Ax;clear Ay;clear A8;clear HB;have Ac:=n0_;have Ad:=n1_;have Ae:=n2_;have Ab:=n3_;have Af:=n4_;have Ag:=n5_;have Ah:=n6_;have Bb:=n7_;have Ct:=n8_;have At:=n9_;have Au:=n10_;have Av:=n11_;have Ao:=n12_;have Aw:=n13_;have Ax:=n14_;have Ay:=n15_;have A8:=n16_;have HB:=n17_;have Ch:=n18_;have Jd:=n19_;have Je:=n20_;have Cv:=n21_;have Dt:=n22_;have Cw:=n23_;have Du:=n24_;have Cx:=n25_;have Dv:=n26_;have Cy:=n27_;have Dw:=n28_;have Cz:=n29_;have Dx:=n30_;have C0:=n31_;have Dy:=n32_;have C1:=n33_;have Dz:=n34_;have D0:=n35_;have D1:=n36_;clear n0_ n1_ n2_ n3_ n4_ n5_ n6_ n7_ n8_ n9_ n10_ n11_ n12_ n13_ n14_ n15_ n16_ n17_ n18_ n19_ n20_ n21_ n22_ n23_ n24_ n25_ n26_ n27_ n28_ n29_ n30_ n31_ n32_ n33_ n34_ n35_ n36_;clear hb hbox hg;have Z:=Dt.1;have Z:=Cv.1;have Z:=Du.1;have Z:=Cw.1;have Z:=Dv.1;have Z:=Cx.1;have Z:=Dw.1;have Z:=Cy.1;have Z:=Dx.1;have Z:=Cz.1;have Z:=Dy.1;have Z:=C0.1;have Z:=Dz.1;have Z:=C1.1;have Z:=D1.1;have Z:=D0.1;obtain ⟨Z,Z,Z,Z⟩:=o2_ Ch.1;obtain ⟨Jf,Cl,Et⟩:=Kd.R_slice Ct.1;subst Et;have Ea : 0 ≤ (Aq : Int):=of_decide_eq_true (by first|(with_reducible assumption)|assumption);have Eb : Aq < (Cj.length : Int):=of_decide_eq_true (by first|(with_reducible assumption)|assumption);obtain ⟨Ci,F5,C4⟩:=Kd.at_int (Kd.R_reads' Ct.1).2.2 Aq Ea Eb;cases F5;have C5 : Ci.block ≠ Bq:=Kd.own_blk (Kd.R_ne Ct.1 Ch.1 (by decide));have C6 : Ci.block ≠ Bq:=Kd.own_blk (Kd.R_ne Ct.1 Ch.1 (by decide));replace C4:=(cell_far (p:=⟨Bq,0,none⟩) (by first|(rw [add_block];exact C5)|(show (Addr.add _ _).block ≠ _;rw [add_block];exact C5)|exact C5) (.int .i64 Cs)).trans C4;replace C4:=(cell_far (p:=⟨Bq,1,none⟩) (by first|(rw [add_block];exact C6)|(show (Addr.add _ _).block ≠ _;rw [add_block];exact C6)|exact C6) (.slice (some Ci) Cj.length Cl)).trans C4;clear C5;clear C6;replace Ea:=eq_true Ea;replace Eb:=eq_true Eb)|(go_at_call 17;(with_reducible refine (Aa8.calls (rd Cj Aq) C7 false _ Fy.1).mono ?_);rintro e w' ⟨rfl,⟨nd,rfl⟩⟩))
 go_roundg k7
 case measure=>have:=HJ7.1;have:=HJ35.1;have:=HJ86.1;have:=HK4.1;have:=Ec.1;have:=HK6.1;have:=HK7.1;omega
 case rel=>exact ⟨(wrap64 (C7 + 1)),(Cb),(Cc),(Cd),(Aa),(Ce),(Cf),(Cg),(Ai),(Aj),(Ak),(.slice (some As) Aa.length Ar),(Al),(Am),(An),(by first|rfl|(simp;done)|(simp [*];done)),H',⟨by have:=HJ7.1;have:=HJ35.1;have:=HJ86.1;have:=HK4.1;have:=Ec.1;have:=HK6.1;have:=HK7.1;omega⟩,⟨rq_ (Kd.R_mono (Kd.R_far (p:=⟨Bq,1,none⟩) (Kd.R_far (p:=⟨Bq,0,none⟩) (Kd.R_types Ac.1 Ch.1 (by decide)) (fun _ hk=>hk.2) (.int .i64 Cs)) (fun _ hk=>hk.2) (.slice (some Ci) Cj.length Cl)) (fun _ hk=>⟨hk.1.1.1,⟨hk.1.1.2.1,⟨hk.1.1.2.2.1,⟨hk.1.1.2.2.2.1,⟨hk.1.1.2.2.2.2.1,hk.1.1.2.2.2.2.2.1⟩⟩⟩⟩⟩))⟩,⟨rq_ (Kd.R_mono (Kd.R_far (p:=⟨Bq,1,none⟩) (Kd.R_far (p:=⟨Bq,0,none⟩) (Kd.R_types Ad.1 Ch.1 (by decide)) (fun _ hk=>hk.2) (.int .i64 Cs)) (fun _ hk=>hk.2) (.slice (some Ci) Cj.length Cl)) (fun _ hk=>⟨hk.1.1.1,⟨hk.1.1.2.1,⟨hk.1.1.2.2.1,⟨hk.1.1.2.2.2.1,⟨hk.1.1.2.2.2.2.1,hk.1.1.2.2.2.2.2.1⟩⟩⟩⟩⟩))⟩,⟨rq_ (Kd.R_mono (Kd.R_far (p:=⟨Bq,1,none⟩) (Kd.R_far (p:=⟨Bq,0,none⟩) (Kd.R_types Ae.1 Ch.1 (by decide)) (fun _ hk=>hk.2) (.int .i64 Cs)) (fun _ hk=>hk.2) (.slice (some Ci) Cj.length Cl)) (fun _ hk=>⟨hk.1.1.1,⟨hk.1.1.2.1,⟨hk.1.1.2.2.1,⟨hk.1.1.2.2.2.1,⟨hk.1.1.2.2.2.2.1,hk.1.1.2.2.2.2.2.1⟩⟩⟩⟩⟩))⟩,⟨rq_ (Kd.R_mono (Kd.R_far (p:=⟨Bq,1,none⟩) (Kd.R_far (p:=⟨Bq,0,none⟩) (Kd.R_types Ab.1 Ch.1 (by decide)) (fun _ hk=>hk.2) (.int .i64 Cs)) (fun _ hk=>hk.2) (.slice (some Ci) Cj.length Cl)) (fun _ hk=>⟨hk.1.1.1,⟨hk.1.1.2.1,⟨hk.1.1.2.2.1,⟨hk.1.1.2.2.2.1,⟨hk.1.1.2.2.2.2.1,hk.1.1.2.2.2.2.2.1⟩⟩⟩⟩⟩))⟩,⟨rq_ (Kd.R_mono (Kd.R_far (p:=⟨Bq,1,none⟩) (Kd.R_far (p:=⟨Bq,0,none⟩) (Kd.R_types Af.1 Ch.1 (by decide)) (fun _ hk=>hk.2) (.int .i64 Cs)) (fun _ hk=>hk.2) (.slice (some Ci) Cj.length Cl)) (fun _ hk=>⟨hk.1.1.1,⟨hk.1.1.2.1,⟨hk.1.1.2.2.1,⟨hk.1.1.2.2.2.1,⟨hk.1.1.2.2.2.2.1,hk.1.1.2.2.2.2.2.1⟩⟩⟩⟩⟩))⟩,⟨rq_ (Kd.R_mono (Kd.R_far (p:=⟨Bq,1,none⟩) (Kd.R_far (p:=⟨Bq,0,none⟩) (Kd.R_types Ag.1 Ch.1 (by decide)) (fun _ hk=>hk.2) (.int .i64 Cs)) (fun _ hk=>hk.2) (.slice (some Ci) Cj.length Cl)) (fun _ hk=>⟨hk.1.1.1,⟨hk.1.1.2.1,⟨hk.1.1.2.2.1,⟨hk.1.1.2.2.2.1,⟨hk.1.1.2.2.2.2.1,hk.1.1.2.2.2.2.2.1⟩⟩⟩⟩⟩))⟩,⟨rq_ (Kd.R_mono (Kd.R_far (p:=⟨Bq,1,none⟩) (Kd.R_far (p:=⟨Bq,0,none⟩) (Kd.R_types Ah.1 Ch.1 (by decide)) (fun _ hk=>hk.2) (.int .i64 Cs)) (fun _ hk=>hk.2) (.slice (some Ci) Cj.length Cl)) (fun _ hk=>⟨hk.1.1.1,⟨hk.1.1.2.1,⟨hk.1.1.2.2.1,⟨hk.1.1.2.2.2.1,⟨hk.1.1.2.2.2.2.1,hk.1.1.2.2.2.2.2.1⟩⟩⟩⟩⟩))⟩,⟨by (with_reducible repeat (first|refine blk_drewN ?_ _|refine blk_drew ?_|refine blk_alloc ?_ _));refine blk_far ?_ Cv.1 _;(with_reducible repeat (first|refine blk_drewN ?_ _|refine blk_drew ?_|refine blk_alloc ?_ _));refine blk_far ?_ Cv.1 _;(with_reducible repeat (first|refine blk_drewN ?_ _|refine blk_drew ?_|refine blk_alloc ?_ _));exact At.1⟩,⟨by (with_reducible repeat (first|refine blk_drewN ?_ _|refine blk_drew ?_|refine blk_alloc ?_ _));refine blk_far ?_ Cw.1 _;(with_reducible repeat (first|refine blk_drewN ?_ _|refine blk_drew ?_|refine blk_alloc ?_ _));refine blk_far ?_ Cw.1 _;(with_reducible repeat (first|refine blk_drewN ?_ _|refine blk_drew ?_|refine blk_alloc ?_ _));exact Au.1⟩,⟨by (with_reducible repeat (first|refine blk_drewN ?_ _|refine blk_drew ?_|refine blk_alloc ?_ _));refine blk_far ?_ Cx.1 _;(with_reducible repeat (first|refine blk_drewN ?_ _|refine blk_drew ?_|refine blk_alloc ?_ _));refine blk_far ?_ Cx.1 _;(with_reducible repeat (first|refine blk_drewN ?_ _|refine blk_drew ?_|refine blk_alloc ?_ _));exact Av.1⟩,⟨by (with_reducible repeat (first|refine blk_drewN ?_ _|refine blk_drew ?_|refine blk_alloc ?_ _));refine blk_far ?_ Cy.1 _;(with_reducible repeat (first|refine blk_drewN ?_ _|refine blk_drew ?_|refine blk_alloc ?_ _));refine blk_far ?_ Cy.1 _;(with_reducible repeat (first|refine blk_drewN ?_ _|refine blk_drew ?_|refine blk_alloc ?_ _));exact Ao.1⟩,⟨by (with_reducible repeat (first|refine blk_drewN ?_ _|refine blk_drew ?_|refine blk_alloc ?_ _));refine blk_far ?_ Cz.1 _;(with_reducible repeat (first|refine blk_drewN ?_ _|refine blk_drew ?_|refine blk_alloc ?_ _));refine blk_far ?_ Cz.1 _;(with_reducible repeat (first|refine blk_drewN ?_ _|refine blk_drew ?_|refine blk_alloc ?_ _));exact Aw.1⟩,⟨by (with_reducible repeat (first|refine blk_drewN ?_ _|refine blk_drew ?_|refine blk_alloc ?_ _));refine blk_far ?_ C0.1 _;(with_reducible repeat (first|refine blk_drewN ?_ _|refine blk_drew ?_|refine blk_alloc ?_ _));refine blk_far ?_ C0.1 _;(with_reducible repeat (first|refine blk_drewN ?_ _|refine blk_drew ?_|refine blk_alloc ?_ _));exact Ax.1⟩,⟨by (with_reducible repeat (first|refine blk_drewN ?_ _|refine blk_drew ?_|refine blk_alloc ?_ _));refine blk_far ?_ C1.1 _;(with_reducible repeat (first|refine blk_drewN ?_ _|refine blk_drew ?_|refine blk_alloc ?_ _));refine blk_far ?_ C1.1 _;(with_reducible repeat (first|refine blk_drewN ?_ _|refine blk_drew ?_|refine blk_alloc ?_ _));exact Ay.1⟩,⟨bb_⟩⟩
set_option maxHeartbeats 8000000 in
set_option maxRecDepth 100000 in
theorem Aab.calls.rest1.rest1.rest3 : Aab.calls.rest1.rest1.part.2.2.1:=by
 intro k A0 c0 l0 A1 c1 l1 r w hu26 HT HR0 HC0 HR1 HC1 A3 Ch I8 A5 Ci I9 Ja A6 Cj Jb i0_ nd w9 Bz w10 Hu Hv Ao12 co12 w13 B0 w14 Hw Hx Ej Ek hnb15 hnc15 Ao17 co17 w19 B2 w20 Hy Hz El Em En Eo hnb21 hnc21 hnb22 hnc22 Ao24 co24 H0 H2 H3 kj7 HJ7 Bd Jc Ck Jd Je A35 hnb37 hnc37 hnb38 hnc38 w40 Bp w41 H4 H5 C0 C1 C2 C3 C4 C5 hnb42 hnc42 hnb43 hnc43 hnb44 hnc44 Ao46 co46 w48 B4 w49 H6 H7 Ep Er Es Et Eu Ew C6 C7 hnb50 hnc50 hnb51 hnc51 hnb52 hnc52 hnb53 hnc53 Ao55 co55 H8 H9 Ia kj35 HJ35 A7 Cl Jf Jg A86 hnb88 hnc88 hnb89 hnc89 hnb90 hnc90 hnb91 hnc91 w93 B5 w94 Ib Ic Ex Ey Ez E0 E1 E2 C8 C9 E3 E4 hnb95 hnc95 hnb96 hnc96 hnb97 hnc97 hnb98 hnc98 hnb99 hnc99 Id Ie If kj86 HJ86 Fz F0 F1 F2 F3 F4 F5 F6 F7 F8 u17 u18 x16_4 F9 k4 HK4 Jh Ji c190b3 A34 Cm Jj Jk Jl Ga Gb Gc Gd Ge Gf Gg Gh Gi Gj Jm Gk Gl Gm Gn Gp Gq Gr Gs Jn B6 Jo Ig Ih E5 E6 E7 E8 E9 Fa Da Db Fb Fc Fd Fe Gt Gu Gv Gw Gx Gy Gz G0 G1 G2 G3 G4 Ii Ij G5 Ik wc u26 u27 u28 u29 u30 u31 u32 u33 u34 u35 u36 u37 u38 u39 u40 u41 u42 u43 u44 u45 u46 u47 u48 u49 u50 u51 u52 u53 u54 u55 u56 u57 u58 u59 u60 u61 u62 u63 u64 u65 u66 u67 u68 u69 u70 u71 u72 u73 u74 u75 u76 u77 u78 u79 u80 u81 u82 u83 u84 u85 u86 u87 u88 u89 u90 u91 u92 u93 u94 u95 u96 u97 u98 u99 Jp Jq Jr Js Jt Ju Jv Jw Jx Jy Jz J0 J1 J2 J3 J4 J5 J6 J7 J8 J9 Ka Kb Ke Kf Kg Kh Ki Kj Kk Kl Km Kn Ko Kp Kq Kr Ks Kt Ku Il Im G6 G7 G8 G9 Ha Hb Hc Hd He Hf Hg Hh i79_ i80_ u21 Kv Kw Kx Ky Kz K0 K1 In Io Ip Aq Ff Fg Fh Fi Fj Fk Fl k6 Iq HK6 Hi Hj Hk Hl Hm Hn Ho Hp Hq Hr Hs Ht Ir Is It Iu wr u4 u22 u23 u24 u25 K2 K3 K4 K5 K6 K7 K8 K9 La Lb Lc Ld Le Lf Lg Lh Li Lj Lk Ll Lm Ln Lo Lp Lq Lr Ls Lu Lv Lw Lx Ly Lz L0 L1 L2 L3 L4 L5 L6 L7 L8 L9 Iv Iw Ix Dc Ca Cb Cc Aa Cd Ce Cf Ai Aj Ak Fw Al Am An Ac Ad Ae Ab Af Ag Ah At Au Av Ao Aw Ax Ay HB k7 Iy HK7 c256b0 c257b0 c258b0 Fm Dt Cs Cu Az Cw c262b0 c263b0 c263b1 Bi D9 Fx hji264z hji264u hji264v hji264y hji264x Cv Ea Fn Fo Ma H Fp Du
 replace Du:=Bool.eq_false_iff.mpr Du;subst Du;rw [if_neg nf_] at H;obtain rfl:=Option.some.inj H;have Z:=C1.1;have Z:=C0.1;have Z:=C3.1;have Z:=C2.1;have Z:=C5.1;have Z:=C4.1;have Z:=C6.1;have Z:=C7.1;have Z:=C8.1;have Z:=C9.1;have Z:=Da.1;have Z:=Db.1;obtain ⟨Z,Z,Z,Z⟩:=o2_ Ao.1;obtain ⟨Iz,Ar,Eb⟩:=Kd.R_slice Ab.1;subst Eb;have Dv : 0 ≤ (Aq : Int):=of_decide_eq_true (by first|(with_reducible assumption)|assumption);have Dw : Aq < (Aa.length : Int):=of_decide_eq_true (by first|(with_reducible assumption)|assumption);obtain ⟨As,Fq,Fy⟩:=Kd.at_int (Kd.R_reads' Ab.1).2.2 Aq Dv Dw;cases Fq
 replace Dv:=eq_true Dv;replace Dw:=eq_true Dw;try go_wp2_with (first|((with_reducible refine gate_callee (f:=17) rfl ?_);refine goesL_ (some 160) rfl rfl Tryd.func17 (by kernel_rfl) rfl #[.int .i64 (rd Aa Aq),.int .i64 Dc] rfl au_ ?_;(with_reducible refine (Aa8.calls (rd Aa Aq) Dc true _ Fm.1).mono ?_);rintro e w' ⟨rfl,⟨nd,rfl⟩⟩;refine ⟨_,rfl,?_⟩;(try (rw [drewN_self wr];generalize hq_ : World.drewN wr _ = wr;have n0_ : Aside0 (Kd.R (Kd.int .i64) 3 wr w.heap.size (fun k_=>some k_ ≠ (Aj : Value).ownBlock ∧ some k_ ≠ (Ak : Value).ownBlock ∧ some k_ ≠ (.slice (some As) Aa.length Ar : Value).ownBlock ∧ some k_ ≠ (Al : Value).ownBlock ∧ some k_ ≠ (Am : Value).ownBlock ∧ some k_ ≠ (An : Value).ownBlock) Ai Ca):=⟨by rw [← hq_];exact (rl_ Ac)⟩;have n1_ : Aside0 (Kd.R (Kd.int .i64) 3 wr w.heap.size (fun k_=>some k_ ≠ (Ai : Value).ownBlock ∧ some k_ ≠ (Ak : Value).ownBlock ∧ some k_ ≠ (.slice (some As) Aa.length Ar : Value).ownBlock ∧ some k_ ≠ (Al : Value).ownBlock ∧ some k_ ≠ (Am : Value).ownBlock ∧ some k_ ≠ (An : Value).ownBlock) Aj Cb):=⟨by rw [← hq_];exact (rl_ Ad)⟩;have n2_ : Aside0 (Kd.R (Kd.int .i64) 3 wr w.heap.size (fun k_=>some k_ ≠ (Ai : Value).ownBlock ∧ some k_ ≠ (Aj : Value).ownBlock ∧ some k_ ≠ (.slice (some As) Aa.length Ar : Value).ownBlock ∧ some k_ ≠ (Al : Value).ownBlock ∧ some k_ ≠ (Am : Value).ownBlock ∧ some k_ ≠ (An : Value).ownBlock) Ak Cc):=⟨by rw [← hq_];exact (rl_ Ae)⟩;have n3_ : Aside0 (Kd.R (Kd.int .i64) 3 wr w.heap.size (fun k_=>some k_ ≠ (Ai : Value).ownBlock ∧ some k_ ≠ (Aj : Value).ownBlock ∧ some k_ ≠ (Ak : Value).ownBlock ∧ some k_ ≠ (Al : Value).ownBlock ∧ some k_ ≠ (Am : Value).ownBlock ∧ some k_ ≠ (An : Value).ownBlock) (.slice (some As) Aa.length Ar) Aa):=⟨by rw [← hq_];exact (rl_ Ab)⟩;have n4_ : Aside0 (Kd.R (Kd.int .i64) 3 wr w.heap.size (fun k_=>some k_ ≠ (Ai : Value).ownBlock ∧ some k_ ≠ (Aj : Value).ownBlock ∧ some k_ ≠ (Ak : Value).ownBlock ∧ some k_ ≠ (.slice (some As) Aa.length Ar : Value).ownBlock ∧ some k_ ≠ (Am : Value).ownBlock ∧ some k_ ≠ (An : Value).ownBlock) Al Cd):=⟨by rw [← hq_];exact (rl_ Af)⟩;have n5_ : Aside0 (Kd.R (Kd.int .i64) 3 wr w.heap.size (fun k_=>some k_ ≠ (Ai : Value).ownBlock ∧ some k_ ≠ (Aj : Value).ownBlock ∧ some k_ ≠ (Ak : Value).ownBlock ∧ some k_ ≠ (.slice (some As) Aa.length Ar : Value).ownBlock ∧ some k_ ≠ (Al : Value).ownBlock ∧ some k_ ≠ (An : Value).ownBlock) Am Ce):=⟨by rw [← hq_];exact (rl_ Ag)⟩;have n6_ : Aside0 (Kd.R (Kd.int .i64) 3 wr w.heap.size (fun k_=>some k_ ≠ (Ai : Value).ownBlock ∧ some k_ ≠ (Aj : Value).ownBlock ∧ some k_ ≠ (Ak : Value).ownBlock ∧ some k_ ≠ (.slice (some As) Aa.length Ar : Value).ownBlock ∧ some k_ ≠ (Al : Value).ownBlock ∧ some k_ ≠ (Am : Value).ownBlock) An Cf):=⟨by rw [← hq_];exact (rl_ Ah)⟩;have n7_ : Aside0 (wr.heap[Bz]? = some (.cells #[.int .i64 Ch,Ai] 26 (0,0))):=⟨by rw [← hq_];exact (bl_ At)⟩;have n8_ : Aside0 (wr.heap[B0]? = some (.cells #[.int .i64 Ci,Aj] 26 (0,0))):=⟨by rw [← hq_];exact (bl_ Au)⟩;have n9_ : Aside0 (wr.heap[B2]? = some (.cells #[.int .i64 Cj,Ak] 26 (0,0))):=⟨by rw [← hq_];exact (bl_ Av)⟩;have n10_ : Aside0 (wr.heap[Bp]? = some (.cells #[.int .i64 Bd,.slice (some As) Aa.length Ar] 26 (0,0))):=⟨by rw [← hq_];exact (bl_ Ao)⟩;have n11_ : Aside0 (wr.heap[B4]? = some (.cells #[.int .i64 Ck,Al] 26 (0,0))):=⟨by rw [← hq_];exact (bl_ Aw)⟩;have n12_ : Aside0 (wr.heap[B5]? = some (.cells #[.int .i64 Cl,Am] 26 (0,0))):=⟨by rw [← hq_];exact (bl_ Ax)⟩;have n13_ : Aside0 (wr.heap[B6]? = some (.cells #[.int .i64 Cm,An] 26 (0,0))):=⟨by rw [← hq_];exact (bl_ Ay)⟩;have n14_ : Aside0 (Below w.heap.size w wr):=⟨by rw [← hq_];exact bb_⟩;clear Ac Ad Ae Ab Af Ag Ah At Au Av Ao Aw Ax Ay HB hq_;have Ac:=n0_;have Ad:=n1_;have Ae:=n2_;have Ab:=n3_;have Af:=n4_;have Ag:=n5_;have Ah:=n6_;have At:=n7_;have Au:=n8_;have Av:=n9_;have Ao:=n10_;have Aw:=n11_;have Ax:=n12_;have Ay:=n13_;have HB:=n14_;clear n0_ n1_ n2_ n3_ n4_ n5_ n6_ n7_ n8_ n9_ n10_ n11_ n12_ n13_ n14_;have Z : wr.cell? ⟨Bz,0,none⟩ = some (.int .i64 Ch):=blk_cell At.1 0;have Z:=blk_frozen At.1 0;have Z : wr.cell? ⟨Bz,1,none⟩ = some (Ai):=blk_cell At.1 1;have Z:=blk_frozen At.1 1;have Z : wr.cell? ⟨B0,0,none⟩ = some (.int .i64 Ci):=blk_cell Au.1 0;have Z:=blk_frozen Au.1 0;have Z : wr.cell? ⟨B0,1,none⟩ = some (Aj):=blk_cell Au.1 1;have Z:=blk_frozen Au.1 1;have Z : wr.cell? ⟨B2,0,none⟩ = some (.int .i64 Cj):=blk_cell Av.1 0;have Z:=blk_frozen Av.1 0;have Z : wr.cell? ⟨B2,1,none⟩ = some (Ak):=blk_cell Av.1 1;have Z:=blk_frozen Av.1 1;have Z : wr.cell? ⟨Bp,0,none⟩ = some (.int .i64 Bd):=blk_cell Ao.1 0;have Z:=blk_frozen Ao.1 0;have Z : wr.cell? ⟨Bp,1,none⟩ = some (.slice (some As) Aa.length Ar):=blk_cell Ao.1 1;have Z:=blk_frozen Ao.1 1;have Z : wr.cell? ⟨B4,0,none⟩ = some (.int .i64 Ck):=blk_cell Aw.1 0;have Z:=blk_frozen Aw.1 0;have Z : wr.cell? ⟨B4,1,none⟩ = some (Al):=blk_cell Aw.1 1;have Z:=blk_frozen Aw.1 1;have Z : wr.cell? ⟨B5,0,none⟩ = some (.int .i64 Cl):=blk_cell Ax.1 0;have Z:=blk_frozen Ax.1 0;have Z : wr.cell? ⟨B5,1,none⟩ = some (Am):=blk_cell Ax.1 1;have Z:=blk_frozen Ax.1 1;have Z : wr.cell? ⟨B6,0,none⟩ = some (.int .i64 Cm):=blk_cell Ay.1 0;have Z:=blk_frozen Ay.1 0;have Z : wr.cell? ⟨B6,1,none⟩ = some (An):=blk_cell Ay.1 1;have Z:=blk_frozen Ay.1 1))))
 have n0_:=A_ (Kd.R_drew Ac.1);have n1_:=A_ (Kd.R_drew Ad.1);have n2_:=A_ (Kd.R_drew Ae.1);have n3_:=A_ (Kd.R_drew Ab.1);have n4_:=A_ (Kd.R_drew Af.1);have n5_:=A_ (Kd.R_drew Ag.1);have n6_:=A_ (Kd.R_drew Ah.1);have n7_:=A_ (blk_drew At.1);have n8_:=A_ (blk_drew Au.1);have n9_:=A_ (blk_drew Av.1);have n10_:=A_ (blk_drew Ao.1);have n11_:=A_ (blk_drew Aw.1);have n12_:=A_ (blk_drew Ax.1);have n13_:=A_ (blk_drew Ay.1);have n14_:=A_ (below_drew1 HB.1);clear Ac;clear Ad;clear Ae;clear Ab;clear Af;clear Ag;clear Ah;clear At;clear Au;clear Av;clear Ao;clear Aw;clear Ax;clear Ay;clear HB;have Ac:=n0_;have Ad:=n1_;have Ae:=n2_;have Ab:=n3_;have Af:=n4_;have Ag:=n5_;have Ah:=n6_;have At:=n7_;have Au:=n8_;have Av:=n9_;have Ao:=n10_;have Aw:=n11_;have Ax:=n12_;have Ay:=n13_;have HB:=n14_;clear n0_ n1_ n2_ n3_ n4_ n5_ n6_ n7_ n8_ n9_ n10_ n11_ n12_ n13_ n14_;refine start_ (n:=9) (S:=fun w'=>w'.cell? ⟨Bp,0,none⟩ = some (.int .i64 Bd) ∧ w'.cell? ⟨Bp,1,none⟩ = some (.slice (some As) Aa.length Ar)) (ds:=[]) #[F,F,F,F,F,F,F,F,F] (by kernel_rfl) rfl rfl ⟨blk_cell Ao.1 0,blk_cell Ao.1 1⟩ (fun hHeld=>?_);refine with_tabW Aab.tab39 Aab.bits39 (fun HT_ HW_=>?_)
 generalize wr.drew = Mb at Ac Ad Ae Ab Af Ag Ah At Au Av Ao Aw Ax Ay HB hHeld ⊢
 refine pu_ (i:=0) (N:=162) #[T,F,F,F,F,F,F,F,F] HT_.1 rfl rfl (fun _ _ _ h=>h) rfl (h:=?_)
 refine pu_ (i:=3) (N:=165) #[T,F,F,T,F,F,F,F,F] HT_.1 rfl rfl (fun _ _ _ h=>h) rfl (h:=?_)
 refine take_ (i:=1) (N:=some 163) (v:=?_) (a':=?_) #[T,T,F,T,F,F,F,F,F] rfl rfl (take_ofW HT_.1 HW_.1 (by kernel_rfl)) (fun _ _ _ h=>h) (Or.inl ⟨by rfl,?_⟩) hHeld ?_ ?_
 rotate_left
 ·rintro w' ⟨s0,s1⟩
  go_simp
  with_reducible rfl
 rotate_left;·simp only [Act.put,L_,M_,N_,i64_w,i32_w];rfl
 refine take_ (i:=4) (N:=some 166) (v:=?_) (a':=?_) #[T,T,F,T,T,F,F,F,F] rfl rfl (take_ofW HT_.1 HW_.1 (by kernel_rfl)) (fun _ _ _ h=>h) (Or.inl ⟨by rfl,?_⟩) hHeld ?_ ?_
 rotate_left
 ·rintro w' ⟨s0,s1⟩
  go_simp
  with_reducible rfl
 rotate_left;·simp only [Act.put,L_,M_,N_,i64_w,i32_w];rfl
 refine join_ (σ:=Value × Value × Nat) 1 #[T,T,T,T,T,T,T,T,F] (fun s_=>[(164,s_.1),(167,s_.2.1),(23,.pointer (some ⟨s_.2.2,0,none⟩)),(168,.agg #[.int .i64 Bd,s_.2.1])]) (fun s_ w'=>(w'.cell? ⟨Bp,0,none⟩ = some (.int .i64 Bd) ∧ w'.cell? ⟨Bp,1,none⟩ = some (.slice (some As) Aa.length Ar)) ∧ (Kd.R (Kd.int .i64) 3 w' w.heap.size (fun k_=>some k_ ≠ (Ai : Value).ownBlock ∧ some k_ ≠ (Aj : Value).ownBlock ∧ some k_ ≠ (Ak : Value).ownBlock ∧ some k_ ≠ (.slice (some As) Aa.length Ar : Value).ownBlock ∧ some k_ ≠ (Al : Value).ownBlock ∧ some k_ ≠ (Am : Value).ownBlock ∧ some k_ ≠ (An : Value).ownBlock) s_.2.1 Az) ∧ (Kd.R (Kd.int .i64) 3 w' w.heap.size (fun k_=>some k_ ≠ (s_.2.1 : Value).ownBlock ∧ some k_ ≠ (Aj : Value).ownBlock ∧ some k_ ≠ (Ak : Value).ownBlock ∧ some k_ ≠ (.slice (some As) Aa.length Ar : Value).ownBlock ∧ some k_ ≠ (Al : Value).ownBlock ∧ some k_ ≠ (Am : Value).ownBlock ∧ some k_ ≠ (An : Value).ownBlock) Ai Ca) ∧ (Kd.R (Kd.int .i64) 3 w' w.heap.size (fun k_=>some k_ ≠ (s_.2.1 : Value).ownBlock ∧ some k_ ≠ (Ai : Value).ownBlock ∧ some k_ ≠ (Ak : Value).ownBlock ∧ some k_ ≠ (.slice (some As) Aa.length Ar : Value).ownBlock ∧ some k_ ≠ (Al : Value).ownBlock ∧ some k_ ≠ (Am : Value).ownBlock ∧ some k_ ≠ (An : Value).ownBlock) Aj Cb) ∧ (Kd.R (Kd.int .i64) 3 w' w.heap.size (fun k_=>some k_ ≠ (s_.2.1 : Value).ownBlock ∧ some k_ ≠ (Ai : Value).ownBlock ∧ some k_ ≠ (Aj : Value).ownBlock ∧ some k_ ≠ (.slice (some As) Aa.length Ar : Value).ownBlock ∧ some k_ ≠ (Al : Value).ownBlock ∧ some k_ ≠ (Am : Value).ownBlock ∧ some k_ ≠ (An : Value).ownBlock) Ak Cc) ∧ (Kd.R (Kd.int .i64) 3 w' w.heap.size (fun k_=>some k_ ≠ (s_.2.1 : Value).ownBlock ∧ some k_ ≠ (Ai : Value).ownBlock ∧ some k_ ≠ (Aj : Value).ownBlock ∧ some k_ ≠ (Ak : Value).ownBlock ∧ some k_ ≠ (Al : Value).ownBlock ∧ some k_ ≠ (Am : Value).ownBlock ∧ some k_ ≠ (An : Value).ownBlock) (.slice (some As) Aa.length Ar) Aa) ∧ (Kd.R (Kd.int .i64) 3 w' w.heap.size (fun k_=>some k_ ≠ (s_.2.1 : Value).ownBlock ∧ some k_ ≠ (Ai : Value).ownBlock ∧ some k_ ≠ (Aj : Value).ownBlock ∧ some k_ ≠ (Ak : Value).ownBlock ∧ some k_ ≠ (.slice (some As) Aa.length Ar : Value).ownBlock ∧ some k_ ≠ (Am : Value).ownBlock ∧ some k_ ≠ (An : Value).ownBlock) Al Cd) ∧ (Kd.R (Kd.int .i64) 3 w' w.heap.size (fun k_=>some k_ ≠ (s_.2.1 : Value).ownBlock ∧ some k_ ≠ (Ai : Value).ownBlock ∧ some k_ ≠ (Aj : Value).ownBlock ∧ some k_ ≠ (Ak : Value).ownBlock ∧ some k_ ≠ (.slice (some As) Aa.length Ar : Value).ownBlock ∧ some k_ ≠ (Al : Value).ownBlock ∧ some k_ ≠ (An : Value).ownBlock) Am Ce) ∧ (Kd.R (Kd.int .i64) 3 w' w.heap.size (fun k_=>some k_ ≠ (s_.2.1 : Value).ownBlock ∧ some k_ ≠ (Ai : Value).ownBlock ∧ some k_ ≠ (Aj : Value).ownBlock ∧ some k_ ≠ (Ak : Value).ownBlock ∧ some k_ ≠ (.slice (some As) Aa.length Ar : Value).ownBlock ∧ some k_ ≠ (Al : Value).ownBlock ∧ some k_ ≠ (Am : Value).ownBlock) An Cf) ∧ (w'.heap[Bz]? = some (.cells #[.int .i64 Ch,Ai] 26 (0,0))) ∧ (w'.heap[B0]? = some (.cells #[.int .i64 Ci,Aj] 26 (0,0))) ∧ (w'.heap[B2]? = some (.cells #[.int .i64 Cj,Ak] 26 (0,0))) ∧ (w'.heap[Bp]? = some (.cells #[.int .i64 Bd,.slice (some As) Aa.length Ar] 26 (0,0))) ∧ (w'.heap[B4]? = some (.cells #[.int .i64 Ck,Al] 26 (0,0))) ∧ (w'.heap[B5]? = some (.cells #[.int .i64 Cl,Am] 26 (0,0))) ∧ (w'.heap[B6]? = some (.cells #[.int .i64 Cm,An] 26 (0,0))) ∧ (w'.heap[s_.2.2]? = some (.cells #[.int .i64 0,.slice none 0 0] 26 (0,0))) ∧ (w.heap.size ≤ s_.2.2) ∧ (w.heap.size ≤ s_.2.2) ∧ (Bz ≠ s_.2.2) ∧ (s_.2.2 ≠ Bz) ∧ (B0 ≠ s_.2.2) ∧ (s_.2.2 ≠ B0) ∧ (B2 ≠ s_.2.2) ∧ (s_.2.2 ≠ B2) ∧ (Bp ≠ s_.2.2) ∧ (s_.2.2 ≠ Bp) ∧ (B4 ≠ s_.2.2) ∧ (s_.2.2 ≠ B4) ∧ (B5 ≠ s_.2.2) ∧ (s_.2.2 ≠ B5) ∧ (B6 ≠ s_.2.2) ∧ (s_.2.2 ≠ B6) ∧ (Below w.heap.size w w')) ?_ ?_
 rotate_left
 ·intro hCont
  refine two_ (i:=2) (j:=7) (Ni:=some 164) (Nj:=some 23) #[T,T,T,T,T,F,F,F,F] #[T,T,F,T,T,F,F,T,F] rfl rfl rfl rfl (two_of HT_.1 (by kernel_rfl)) (by decide) (by decide) (fun K hK=>?_) (fun K hK=>?_)
  ·skip
   refine Kd.R_lit_step (Kd.int .i64) _ 3 ?hg (N:=164) ?hd (xs:=([] : List Int)) (inner:=[]) (ok:=fun _=>True) (okp:=fun _=>True) ?hr ?hp (fun _ hk=>hk) trivial (Below.refl _ _) (Nat.le_refl _) (by simp) ?_;(case hd=>rfl);(case hg=>rfl);(case hr=>go_simp;try rfl);(case hp=>exact (Reps.none _ _))
   intro Cn Fr B7 hb hg_ hnew_
   clear hg_ hnew_;(first|rw [← Cs.1] at B7|(simp only [Int.reduceToNat] at B7;rw [← Cs.1] at B7))
   have n0_:=A_ (Kd.R_elder' (rl_ Ac) (Kd.R_base B7) hb);have n1_:=A_ (Kd.R_elder' (rl_ Ad) (Kd.R_base B7) hb);have n2_:=A_ (Kd.R_elder' (rl_ Ae) (Kd.R_base B7) hb);have n3_:=A_ (Kd.R_elder' (rl_ Ab) (Kd.R_base B7) hb);have n4_:=A_ (Kd.R_elder' (rl_ Af) (Kd.R_base B7) hb);have n5_:=A_ (Kd.R_elder' (rl_ Ag) (Kd.R_base B7) hb);have n6_:=A_ (Kd.R_elder' (rl_ Ah) (Kd.R_base B7) hb);have n7_:=A_ (Kd.R_lower (Kd.R_new' (Kd.R_new' (Kd.R_new' (Kd.R_new' (Kd.R_new' (Kd.R_new' (Kd.R_new' B7 (Kd.R_lt (rl_ Ac))) (Kd.R_lt (rl_ Ad))) (Kd.R_lt (rl_ Ae))) (Kd.R_lt (rl_ Ab))) (Kd.R_lt (rl_ Af))) (Kd.R_lt (rl_ Ag))) (Kd.R_lt (rl_ Ah))) (below_size bb_));have n8_:=bz At hb;have n9_:=bz Au hb;have n10_:=bz Av hb;have n11_:=bz Ao hb;have n12_:=bz Aw hb;have n13_:=bz Ax hb;have n14_:=bz Ay hb;have n15_:=A_ (below_step bb_ hb);clear Ac;clear Ad;clear Ae;clear Ab;clear Af;clear Ag;clear Ah;clear At;clear Au;clear Av;clear Ao;clear Aw;clear Ax;clear Ay;clear HB;have Ac:=n0_;have Ad:=n1_;have Ae:=n2_;have Ab:=n3_;have Af:=n4_;have Ag:=n5_;have Ah:=n6_;have Bf:=n7_;have At:=n8_;have Au:=n9_;have Av:=n10_;have Ao:=n11_;have Aw:=n12_;have Ax:=n13_;have Ay:=n14_;have HB:=n15_;clear n0_ n1_ n2_ n3_ n4_ n5_ n6_ n7_ n8_ n9_ n10_ n11_ n12_ n13_ n14_ n15_;clear hb B7;refine hK.out _ _ ⟨blk_cell Ao.1 0,blk_cell Ao.1 1⟩ (fun hHeld=>?_)
   clear hK K;refine norm_ (a':=?_) ?_ ?_
   rotate_left
   ·show Act.put _ (some 164) _ = _
    simp only [Act.put,L_,M_,N_,i64_w,i32_w]
    rfl
   refine two_ (i:=5) (j:=7) (Ni:=some 167) (Nj:=some 23) #[T,T,T,T,T,T,F,F,F] #[T,T,T,T,T,F,F,T,F] rfl rfl rfl rfl (two_of HT_.1 (by kernel_rfl)) (by decide) (by decide) (fun K hK=>?_) (fun K hK=>?_)
   ·skip
    refine Kd.R_append_rows_step (Kd.int .i64) (w0:=w) w.heap.size (by rfl) (.tmp 164) (.tmp 166) 24 3 (.int .i64 0) 8 rfl Tryd.underlying24 info3 rfl (by decide) (by omega) Cn Dt Aa _ _ _ (fun k_=>some k_ ≠ (Ai : Value).ownBlock ∧ some k_ ≠ (Aj : Value).ownBlock ∧ some k_ ≠ (Ak : Value).ownBlock ∧ some k_ ≠ (.slice (some As) Aa.length Ar : Value).ownBlock ∧ some k_ ≠ (Al : Value).ownBlock ∧ some k_ ≠ (Am : Value).ownBlock ∧ some k_ ≠ (An : Value).ownBlock) (fun _=>False) rfl rfl ?aO ?aR (fun _ _ h=>h) (fun _ h=>h.elim) ?aF ?aB ?aS ?aL ?_
    (case aR=>exact cl_ (Kd.R_reads' Ab.1).2.2)
    (case aB=>exact bb_)
    (case aF=>exact (fun k_ hk=>⟨Kd.fresh' (Kd.R_lt (rl_ Ac)) k_ hk,Kd.fresh' (Kd.R_lt (rl_ Ad)) k_ hk,Kd.fresh' (Kd.R_lt (rl_ Ae)) k_ hk,Kd.fresh' (Kd.R_lt (rl_ Ab)) k_ hk,Kd.fresh' (Kd.R_lt (rl_ Af)) k_ hk,Kd.fresh' (Kd.R_lt (rl_ Ag)) k_ hk,Kd.fresh' (Kd.R_lt (rl_ Ah)) k_ hk⟩))
    (case aO=>exact (rq_ (Kd.R_mono Bf.1 (fun _ hk=>⟨hk.1.1.1.1.1.1.2,⟨hk.1.1.1.1.1.2,⟨hk.1.1.1.1.2,⟨hk.1.1.1.2,⟨hk.1.1.2,⟨hk.1.2,hk.2⟩⟩⟩⟩⟩⟩))))
    (case aS=>exact (below_size bb_))
    (case aL=>have:=Cu.1;omega)
    intro Cg Fs ho hb hg hat
    rw [← Cw.1] at ho;have n0_:=A_ (Kd.R_after (ok:=(fun k_=>some k_ ≠ (Aj : Value).ownBlock ∧ some k_ ≠ (Ak : Value).ownBlock ∧ some k_ ≠ (.slice (some As) Aa.length Ar : Value).ownBlock ∧ some k_ ≠ (Al : Value).ownBlock ∧ some k_ ≠ (Am : Value).ownBlock ∧ some k_ ≠ (An : Value).ownBlock)) (rl_ Ac) hg hat);have n1_:=A_ (Kd.R_after (ok:=(fun k_=>some k_ ≠ (Ai : Value).ownBlock ∧ some k_ ≠ (Ak : Value).ownBlock ∧ some k_ ≠ (.slice (some As) Aa.length Ar : Value).ownBlock ∧ some k_ ≠ (Al : Value).ownBlock ∧ some k_ ≠ (Am : Value).ownBlock ∧ some k_ ≠ (An : Value).ownBlock)) (rl_ Ad) hg hat);have n2_:=A_ (Kd.R_after (ok:=(fun k_=>some k_ ≠ (Ai : Value).ownBlock ∧ some k_ ≠ (Aj : Value).ownBlock ∧ some k_ ≠ (.slice (some As) Aa.length Ar : Value).ownBlock ∧ some k_ ≠ (Al : Value).ownBlock ∧ some k_ ≠ (Am : Value).ownBlock ∧ some k_ ≠ (An : Value).ownBlock)) (rl_ Ae) hg hat);have n3_:=A_ (Kd.R_after (ok:=(fun k_=>some k_ ≠ (Ai : Value).ownBlock ∧ some k_ ≠ (Aj : Value).ownBlock ∧ some k_ ≠ (Ak : Value).ownBlock ∧ some k_ ≠ (Al : Value).ownBlock ∧ some k_ ≠ (Am : Value).ownBlock ∧ some k_ ≠ (An : Value).ownBlock)) (rl_ Ab) hg hat);have n4_:=A_ (Kd.R_after (ok:=(fun k_=>some k_ ≠ (Ai : Value).ownBlock ∧ some k_ ≠ (Aj : Value).ownBlock ∧ some k_ ≠ (Ak : Value).ownBlock ∧ some k_ ≠ (.slice (some As) Aa.length Ar : Value).ownBlock ∧ some k_ ≠ (Am : Value).ownBlock ∧ some k_ ≠ (An : Value).ownBlock)) (rl_ Af) hg hat);have n5_:=A_ (Kd.R_after (ok:=(fun k_=>some k_ ≠ (Ai : Value).ownBlock ∧ some k_ ≠ (Aj : Value).ownBlock ∧ some k_ ≠ (Ak : Value).ownBlock ∧ some k_ ≠ (.slice (some As) Aa.length Ar : Value).ownBlock ∧ some k_ ≠ (Al : Value).ownBlock ∧ some k_ ≠ (An : Value).ownBlock)) (rl_ Ag) hg hat);have n6_:=A_ (Kd.R_after (ok:=(fun k_=>some k_ ≠ (Ai : Value).ownBlock ∧ some k_ ≠ (Aj : Value).ownBlock ∧ some k_ ≠ (Ak : Value).ownBlock ∧ some k_ ≠ (.slice (some As) Aa.length Ar : Value).ownBlock ∧ some k_ ≠ (Al : Value).ownBlock ∧ some k_ ≠ (Am : Value).ownBlock)) (rl_ Ah) hg hat);have n7_:=A_ (blk_grown (g:=Bz) (o:=.cells #[.int .i64 Ch,Ai] 26 (0,0)) (bl_ At) hg (Kd.R_ne Bf.1 At.1 (by decide)));have n8_:=A_ (blk_grown (g:=B0) (o:=.cells #[.int .i64 Ci,Aj] 26 (0,0)) (bl_ Au) hg (Kd.R_ne Bf.1 Au.1 (by decide)));have n9_:=A_ (blk_grown (g:=B2) (o:=.cells #[.int .i64 Cj,Ak] 26 (0,0)) (bl_ Av) hg (Kd.R_ne Bf.1 Av.1 (by decide)));have n10_:=A_ (blk_grown (g:=Bp) (o:=.cells #[.int .i64 Bd,.slice (some As) Aa.length Ar] 26 (0,0)) (bl_ Ao) hg (Kd.R_ne Bf.1 Ao.1 (by decide)));have n11_:=A_ (blk_grown (g:=B4) (o:=.cells #[.int .i64 Ck,Al] 26 (0,0)) (bl_ Aw) hg (Kd.R_ne Bf.1 Aw.1 (by decide)));have n12_:=A_ (blk_grown (g:=B5) (o:=.cells #[.int .i64 Cl,Am] 26 (0,0)) (bl_ Ax) hg (Kd.R_ne Bf.1 Ax.1 (by decide)));have n13_:=A_ (blk_grown (g:=B6) (o:=.cells #[.int .i64 Cm,An] 26 (0,0)) (bl_ Ay) hg (Kd.R_ne Bf.1 Ay.1 (by decide)));have n14_:=A_ (hb);have n15_:=A_ (ho);clear Ac;clear Ad;clear Ae;clear Ab;clear Af;clear Ag;clear Ah;clear At;clear Au;clear Av;clear Ao;clear Aw;clear Ax;clear Ay;clear HB;clear Bf;have Ac:=n0_;have Ad:=n1_;have Ae:=n2_;have Ab:=n3_;have Af:=n4_;have Ag:=n5_;have Ah:=n6_;have At:=n7_;have Au:=n8_;have Av:=n9_;have Ao:=n10_;have Aw:=n11_;have Ax:=n12_;have Ay:=n13_;have HB:=n14_;have Bb:=n15_;clear n0_ n1_ n2_ n3_ n4_ n5_ n6_ n7_ n8_ n9_ n10_ n11_ n12_ n13_ n14_ n15_;clear ho hb hg hat;obtain ⟨Ec,Ed,D1⟩:=Kd.R_slice Bb.1;(first|subst D1|(injection D1 with f1_ f2_ f3_;have f4_:=f1_.symm;have f5_:=f3_.symm;clear f1_ f2_ f3_;subst f4_;subst f5_))
    refine hK.out _ _ ⟨blk_cell Ao.1 0,blk_cell Ao.1 1⟩ (fun hHeld=>?_)
    clear hK K;refine norm_ (a':=?_) ?_ ?_
    rotate_left
    ·show Act.put _ (some 167) _ = _
     simp only [Act.put,L_,M_,N_,i64_w,i32_w]
     rfl
    refine pu_ (i:=6) (N:=168) #[T,T,T,T,T,T,T,F,F] HT_.1 rfl rfl (fun _ _ _ h=>h) rfl (h:=?_)
    refine one_ (i:=7) (N:=some 23) #[T,T,T,T,T,T,T,T,F] rfl rfl (one_of HT_.1 (by kernel_rfl)) (by decide) (fun K hK=>?_)
    refine box_step ?hg (N:=23) ?hd (cs:=#[.int .i64 0,.slice none 0 0]) (t:=26) ?hr ?_;(case hd=>rfl);(case hg=>rfl);(case hr=>go_simp;try rfl)
    intro Ap hg Mc hbox hb
    have n0_:=rb_ Ac hb;have n1_:=rb_ Ad hb;have n2_:=rb_ Ae hb;have n3_:=rb_ Ab hb;have n4_:=rb_ Af hb;have n5_:=rb_ Ag hb;have n6_:=rb_ Ah hb;have n7_:=rb_ Bb hb;have n8_:=bz At hb;have n9_:=bz Au hb;have n10_:=bz Av hb;have n11_:=bz Ao hb;have n12_:=bz Aw hb;have n13_:=bz Ax hb;have n14_:=bz Ay hb;have n15_:=A_ (below_step bb_ hb);have n16_:=A_ (hbox);have n17_:=A_ (gw_ (w:=w) hg bb_);have n18_:=A_ (gw_ (w:=w) hg bb_);have n19_:=A_ (nl_ hg At);have n20_:=A_ (ng_ hg At);have n21_:=A_ (nl_ hg Au);have n22_:=A_ (ng_ hg Au);have n23_:=A_ (nl_ hg Av);have n24_:=A_ (ng_ hg Av);have n25_:=A_ (nl_ hg Ao);have n26_:=A_ (ng_ hg Ao);have n27_:=A_ (nl_ hg Aw);have n28_:=A_ (ng_ hg Aw);have n29_:=A_ (nl_ hg Ax);have n30_:=A_ (ng_ hg Ax);have n31_:=A_ (nl_ hg Ay);have n32_:=A_ (ng_ hg Ay);clear Ac;clear Ad;clear Ae;clear Ab;clear Af;clear Ag;clear Ah;clear Bb;clear At;clear Au;clear Av;clear Ao;clear Aw;clear Ax;clear Ay;clear HB;have Ac:=n0_;have Ad:=n1_;have Ae:=n2_;have Ab:=n3_;have Af:=n4_;have Ag:=n5_;have Ah:=n6_;have Bb:=n7_;have At:=n8_;have Au:=n9_;have Av:=n10_;have Ao:=n11_;have Aw:=n12_;have Ax:=n13_;have Ay:=n14_;have HB:=n15_;have A8:=n16_;have Co:=n17_;have Cp:=n18_;have Bj:=n19_;have Bq:=n20_;have Bk:=n21_;have Br:=n22_;have Bl:=n23_;have Bs:=n24_;have Bh:=n25_;have Bt:=n26_;have Bm:=n27_;have Bu:=n28_;have Bn:=n29_;have Bv:=n30_;have Bo:=n31_;have Bw:=n32_;clear n0_ n1_ n2_ n3_ n4_ n5_ n6_ n7_ n8_ n9_ n10_ n11_ n12_ n13_ n14_ n15_ n16_ n17_ n18_ n19_ n20_ n21_ n22_ n23_ n24_ n25_ n26_ n27_ n28_ n29_ n30_ n31_ n32_;clear hb hbox hg;refine hK.out _ _ ⟨blk_cell Ao.1 0,blk_cell Ao.1 1⟩ (fun hHeld=>?_)
    clear hK K;refine norm_ (a':=?_) ?_ ?_
    rotate_left
    ·show Act.put _ (some 23) _ = _
     simp only [Act.put,L_,M_,N_,i64_w,i32_w]
     rfl
    exact norm_ (by simp only [putAll,Act.put,L_,M_,N_]) (hCont (Cn,.slice Ec Az.length Ed,Ap) _ ⟨hHeld,(rl_ Bb),(rq_ (Kd.R_mono Ac.1 (fun _ hk=>⟨hk.2,⟨hk.1.1,⟨hk.1.2.1,⟨hk.1.2.2.1,⟨hk.1.2.2.2.1,⟨hk.1.2.2.2.2.1,hk.1.2.2.2.2.2⟩⟩⟩⟩⟩⟩))),(rq_ (Kd.R_mono Ad.1 (fun _ hk=>⟨hk.2,⟨hk.1.1,⟨hk.1.2.1,⟨hk.1.2.2.1,⟨hk.1.2.2.2.1,⟨hk.1.2.2.2.2.1,hk.1.2.2.2.2.2⟩⟩⟩⟩⟩⟩))),(rq_ (Kd.R_mono Ae.1 (fun _ hk=>⟨hk.2,⟨hk.1.1,⟨hk.1.2.1,⟨hk.1.2.2.1,⟨hk.1.2.2.2.1,⟨hk.1.2.2.2.2.1,hk.1.2.2.2.2.2⟩⟩⟩⟩⟩⟩))),(rq_ (Kd.R_mono Ab.1 (fun _ hk=>⟨hk.2,⟨hk.1.1,⟨hk.1.2.1,⟨hk.1.2.2.1,⟨hk.1.2.2.2.1,⟨hk.1.2.2.2.2.1,hk.1.2.2.2.2.2⟩⟩⟩⟩⟩⟩))),(rq_ (Kd.R_mono Af.1 (fun _ hk=>⟨hk.2,⟨hk.1.1,⟨hk.1.2.1,⟨hk.1.2.2.1,⟨hk.1.2.2.2.1,⟨hk.1.2.2.2.2.1,hk.1.2.2.2.2.2⟩⟩⟩⟩⟩⟩))),(rq_ (Kd.R_mono Ag.1 (fun _ hk=>⟨hk.2,⟨hk.1.1,⟨hk.1.2.1,⟨hk.1.2.2.1,⟨hk.1.2.2.2.1,⟨hk.1.2.2.2.2.1,hk.1.2.2.2.2.2⟩⟩⟩⟩⟩⟩))),(rq_ (Kd.R_mono Ah.1 (fun _ hk=>⟨hk.2,⟨hk.1.1,⟨hk.1.2.1,⟨hk.1.2.2.1,⟨hk.1.2.2.2.1,⟨hk.1.2.2.2.2.1,hk.1.2.2.2.2.2⟩⟩⟩⟩⟩⟩))),(bl_ At),(bl_ Au),(bl_ Av),(bl_ Ao),(bl_ Aw),(bl_ Ax),(bl_ Ay),(bl_ A8),Co.1,Cp.1,Bj.1,Bq.1,Bk.1,Br.1,Bl.1,Bs.1,Bh.1,Bt.1,Bm.1,Bu.1,Bn.1,Bv.1,Bo.1,Bw.1,bb_⟩)
   ·skip
    refine box_step ?hg (N:=23) ?hd (cs:=#[.int .i64 0,.slice none 0 0]) (t:=26) ?hr ?_;(case hd=>rfl);(case hg=>rfl);(case hr=>go_simp;try rfl)
    intro Ap hg Fs hbox hb
    have n0_:=rb_ Ac hb;have n1_:=rb_ Ad hb;have n2_:=rb_ Ae hb;have n3_:=rb_ Ab hb;have n4_:=rb_ Af hb;have n5_:=rb_ Ag hb;have n6_:=rb_ Ah hb;have n7_:=rb_ Bf hb;have n8_:=bz At hb;have n9_:=bz Au hb;have n10_:=bz Av hb;have n11_:=bz Ao hb;have n12_:=bz Aw hb;have n13_:=bz Ax hb;have n14_:=bz Ay hb;have n15_:=A_ (below_step bb_ hb);have n16_:=A_ (hbox);have n17_:=A_ (gw_ (w:=w) hg bb_);have n18_:=A_ (gw_ (w:=w) hg bb_);have n19_:=A_ (nl_ hg At);have n20_:=A_ (ng_ hg At);have n21_:=A_ (nl_ hg Au);have n22_:=A_ (ng_ hg Au);have n23_:=A_ (nl_ hg Av);have n24_:=A_ (ng_ hg Av);have n25_:=A_ (nl_ hg Ao);have n26_:=A_ (ng_ hg Ao);have n27_:=A_ (nl_ hg Aw);have n28_:=A_ (ng_ hg Aw);have n29_:=A_ (nl_ hg Ax);have n30_:=A_ (ng_ hg Ax);have n31_:=A_ (nl_ hg Ay);have n32_:=A_ (ng_ hg Ay);clear Ac;clear Ad;clear Ae;clear Ab;clear Af;clear Ag;clear Ah;clear Bf;clear At;clear Au;clear Av;clear Ao;clear Aw;clear Ax;clear Ay;clear HB;have Ac:=n0_;have Ad:=n1_;have Ae:=n2_;have Ab:=n3_;have Af:=n4_;have Ag:=n5_;have Ah:=n6_;have Bf:=n7_;have At:=n8_;have Au:=n9_;have Av:=n10_;have Ao:=n11_;have Aw:=n12_;have Ax:=n13_;have Ay:=n14_;have HB:=n15_;have A8:=n16_;have Co:=n17_;have Cp:=n18_;have Bj:=n19_;have Bq:=n20_;have Bk:=n21_;have Br:=n22_;have Bl:=n23_;have Bs:=n24_;have Bh:=n25_;have Bt:=n26_;have Bm:=n27_;have Bu:=n28_;have Bn:=n29_;have Bv:=n30_;have Bo:=n31_;have Bw:=n32_;clear n0_ n1_ n2_ n3_ n4_ n5_ n6_ n7_ n8_ n9_ n10_ n11_ n12_ n13_ n14_ n15_ n16_ n17_ n18_ n19_ n20_ n21_ n22_ n23_ n24_ n25_ n26_ n27_ n28_ n29_ n30_ n31_ n32_;clear hb hbox hg;refine hK.out _ _ ⟨blk_cell Ao.1 0,blk_cell Ao.1 1⟩ (fun hHeld=>?_)
    clear hK K;refine norm_ (a':=?_) ?_ ?_
    rotate_left
    ·show Act.put _ (some 23) _ = _
     simp only [Act.put,L_,M_,N_,i64_w,i32_w]
     rfl
    refine one_ (i:=5) (N:=some 167) #[T,T,T,T,T,T,F,T,F] rfl rfl (one_of HT_.1 (by kernel_rfl)) (by decide) (fun K hK=>?_)
    refine Kd.R_append_rows_step (Kd.int .i64) (w0:=w) w.heap.size (by rfl) (.tmp 164) (.tmp 166) 24 3 (.int .i64 0) 8 rfl Tryd.underlying24 info3 rfl (by decide) (by omega) Cn Dt Aa _ _ _ (fun k_=>some k_ ≠ (Ai : Value).ownBlock ∧ some k_ ≠ (Aj : Value).ownBlock ∧ some k_ ≠ (Ak : Value).ownBlock ∧ some k_ ≠ (.slice (some As) Aa.length Ar : Value).ownBlock ∧ some k_ ≠ (Al : Value).ownBlock ∧ some k_ ≠ (Am : Value).ownBlock ∧ some k_ ≠ (An : Value).ownBlock) (fun _=>False) rfl rfl ?aO ?aR (fun _ _ h=>h) (fun _ h=>h.elim) ?aF ?aB ?aS ?aL ?_
    (case aR=>exact cl_ (Kd.R_reads' Ab.1).2.2)
    (case aB=>exact bb_)
    (case aF=>exact (fun k_ hk=>⟨Kd.fresh' (Kd.R_lt (rl_ Ac)) k_ hk,Kd.fresh' (Kd.R_lt (rl_ Ad)) k_ hk,Kd.fresh' (Kd.R_lt (rl_ Ae)) k_ hk,Kd.fresh' (Kd.R_lt (rl_ Ab)) k_ hk,Kd.fresh' (Kd.R_lt (rl_ Af)) k_ hk,Kd.fresh' (Kd.R_lt (rl_ Ag)) k_ hk,Kd.fresh' (Kd.R_lt (rl_ Ah)) k_ hk⟩))
    (case aO=>exact (rq_ (Kd.R_mono Bf.1 (fun _ hk=>⟨hk.1.1.1.1.1.1.2,⟨hk.1.1.1.1.1.2,⟨hk.1.1.1.1.2,⟨hk.1.1.1.2,⟨hk.1.1.2,⟨hk.1.2,hk.2⟩⟩⟩⟩⟩⟩))))
    (case aS=>exact (below_size bb_))
    (case aL=>have:=Cu.1;omega)
    intro Cg Ft ho hb hg hat
    rw [← Cw.1] at ho;have n0_:=A_ (Kd.R_after (ok:=(fun k_=>some k_ ≠ (Aj : Value).ownBlock ∧ some k_ ≠ (Ak : Value).ownBlock ∧ some k_ ≠ (.slice (some As) Aa.length Ar : Value).ownBlock ∧ some k_ ≠ (Al : Value).ownBlock ∧ some k_ ≠ (Am : Value).ownBlock ∧ some k_ ≠ (An : Value).ownBlock)) (rl_ Ac) hg hat);have n1_:=A_ (Kd.R_after (ok:=(fun k_=>some k_ ≠ (Ai : Value).ownBlock ∧ some k_ ≠ (Ak : Value).ownBlock ∧ some k_ ≠ (.slice (some As) Aa.length Ar : Value).ownBlock ∧ some k_ ≠ (Al : Value).ownBlock ∧ some k_ ≠ (Am : Value).ownBlock ∧ some k_ ≠ (An : Value).ownBlock)) (rl_ Ad) hg hat);have n2_:=A_ (Kd.R_after (ok:=(fun k_=>some k_ ≠ (Ai : Value).ownBlock ∧ some k_ ≠ (Aj : Value).ownBlock ∧ some k_ ≠ (.slice (some As) Aa.length Ar : Value).ownBlock ∧ some k_ ≠ (Al : Value).ownBlock ∧ some k_ ≠ (Am : Value).ownBlock ∧ some k_ ≠ (An : Value).ownBlock)) (rl_ Ae) hg hat);have n3_:=A_ (Kd.R_after (ok:=(fun k_=>some k_ ≠ (Ai : Value).ownBlock ∧ some k_ ≠ (Aj : Value).ownBlock ∧ some k_ ≠ (Ak : Value).ownBlock ∧ some k_ ≠ (Al : Value).ownBlock ∧ some k_ ≠ (Am : Value).ownBlock ∧ some k_ ≠ (An : Value).ownBlock)) (rl_ Ab) hg hat);have n4_:=A_ (Kd.R_after (ok:=(fun k_=>some k_ ≠ (Ai : Value).ownBlock ∧ some k_ ≠ (Aj : Value).ownBlock ∧ some k_ ≠ (Ak : Value).ownBlock ∧ some k_ ≠ (.slice (some As) Aa.length Ar : Value).ownBlock ∧ some k_ ≠ (Am : Value).ownBlock ∧ some k_ ≠ (An : Value).ownBlock)) (rl_ Af) hg hat);have n5_:=A_ (Kd.R_after (ok:=(fun k_=>some k_ ≠ (Ai : Value).ownBlock ∧ some k_ ≠ (Aj : Value).ownBlock ∧ some k_ ≠ (Ak : Value).ownBlock ∧ some k_ ≠ (.slice (some As) Aa.length Ar : Value).ownBlock ∧ some k_ ≠ (Al : Value).ownBlock ∧ some k_ ≠ (An : Value).ownBlock)) (rl_ Ag) hg hat);have n6_:=A_ (Kd.R_after (ok:=(fun k_=>some k_ ≠ (Ai : Value).ownBlock ∧ some k_ ≠ (Aj : Value).ownBlock ∧ some k_ ≠ (Ak : Value).ownBlock ∧ some k_ ≠ (.slice (some As) Aa.length Ar : Value).ownBlock ∧ some k_ ≠ (Al : Value).ownBlock ∧ some k_ ≠ (Am : Value).ownBlock)) (rl_ Ah) hg hat);have n7_:=A_ (blk_grown (g:=Bz) (o:=.cells #[.int .i64 Ch,Ai] 26 (0,0)) (bl_ At) hg (Kd.R_ne Bf.1 At.1 (by decide)));have n8_:=A_ (blk_grown (g:=B0) (o:=.cells #[.int .i64 Ci,Aj] 26 (0,0)) (bl_ Au) hg (Kd.R_ne Bf.1 Au.1 (by decide)));have n9_:=A_ (blk_grown (g:=B2) (o:=.cells #[.int .i64 Cj,Ak] 26 (0,0)) (bl_ Av) hg (Kd.R_ne Bf.1 Av.1 (by decide)));have n10_:=A_ (blk_grown (g:=Bp) (o:=.cells #[.int .i64 Bd,.slice (some As) Aa.length Ar] 26 (0,0)) (bl_ Ao) hg (Kd.R_ne Bf.1 Ao.1 (by decide)));have n11_:=A_ (blk_grown (g:=B4) (o:=.cells #[.int .i64 Ck,Al] 26 (0,0)) (bl_ Aw) hg (Kd.R_ne Bf.1 Aw.1 (by decide)));have n12_:=A_ (blk_grown (g:=B5) (o:=.cells #[.int .i64 Cl,Am] 26 (0,0)) (bl_ Ax) hg (Kd.R_ne Bf.1 Ax.1 (by decide)));have n13_:=A_ (blk_grown (g:=B6) (o:=.cells #[.int .i64 Cm,An] 26 (0,0)) (bl_ Ay) hg (Kd.R_ne Bf.1 Ay.1 (by decide)));have n14_:=A_ (blk_grown (g:=Ap) (o:=.cells #[.int .i64 0,.slice none 0 0] 26 (0,0)) (bl_ A8) hg (Kd.R_ne Bf.1 A8.1 (by decide)));have n15_:=A_ (hb);have n16_:=A_ (ho);clear Ac;clear Ad;clear Ae;clear Ab;clear Af;clear Ag;clear Ah;clear At;clear Au;clear Av;clear Ao;clear Aw;clear Ax;clear Ay;clear A8;clear HB;clear Bf;have Ac:=n0_;have Ad:=n1_;have Ae:=n2_;have Ab:=n3_;have Af:=n4_;have Ag:=n5_;have Ah:=n6_;have At:=n7_;have Au:=n8_;have Av:=n9_;have Ao:=n10_;have Aw:=n11_;have Ax:=n12_;have Ay:=n13_;have A8:=n14_;have HB:=n15_;have Bb:=n16_;clear n0_ n1_ n2_ n3_ n4_ n5_ n6_ n7_ n8_ n9_ n10_ n11_ n12_ n13_ n14_ n15_ n16_;clear ho hb hg hat;obtain ⟨Cx,Cy,Cq⟩:=Kd.R_slice Bb.1;(first|subst Cq|(injection Cq with f1_ f2_ f3_;have f4_:=f1_.symm;have f5_:=f3_.symm;clear f1_ f2_ f3_;subst f4_;subst f5_))
    refine hK.out _ _ ⟨blk_cell Ao.1 0,blk_cell Ao.1 1⟩ (fun hHeld=>?_)
    clear hK K;refine norm_ (a':=?_) ?_ ?_
    rotate_left
    ·show Act.put _ (some 167) _ = _
     simp only [Act.put,L_,M_,N_,i64_w,i32_w]
     rfl
    refine pu_ (i:=6) (N:=168) #[T,T,T,T,T,T,T,T,F] HT_.1 rfl rfl (fun _ _ _ h=>h) rfl (h:=?_)
    exact norm_ (by simp only [putAll,Act.put,L_,M_,N_]) (hCont (Cn,.slice Cx Az.length Cy,Ap) _ ⟨hHeld,(rl_ Bb),(rq_ (Kd.R_mono Ac.1 (fun _ hk=>⟨hk.2,⟨hk.1.1,⟨hk.1.2.1,⟨hk.1.2.2.1,⟨hk.1.2.2.2.1,⟨hk.1.2.2.2.2.1,hk.1.2.2.2.2.2⟩⟩⟩⟩⟩⟩))),(rq_ (Kd.R_mono Ad.1 (fun _ hk=>⟨hk.2,⟨hk.1.1,⟨hk.1.2.1,⟨hk.1.2.2.1,⟨hk.1.2.2.2.1,⟨hk.1.2.2.2.2.1,hk.1.2.2.2.2.2⟩⟩⟩⟩⟩⟩))),(rq_ (Kd.R_mono Ae.1 (fun _ hk=>⟨hk.2,⟨hk.1.1,⟨hk.1.2.1,⟨hk.1.2.2.1,⟨hk.1.2.2.2.1,⟨hk.1.2.2.2.2.1,hk.1.2.2.2.2.2⟩⟩⟩⟩⟩⟩))),(rq_ (Kd.R_mono Ab.1 (fun _ hk=>⟨hk.2,⟨hk.1.1,⟨hk.1.2.1,⟨hk.1.2.2.1,⟨hk.1.2.2.2.1,⟨hk.1.2.2.2.2.1,hk.1.2.2.2.2.2⟩⟩⟩⟩⟩⟩))),(rq_ (Kd.R_mono Af.1 (fun _ hk=>⟨hk.2,⟨hk.1.1,⟨hk.1.2.1,⟨hk.1.2.2.1,⟨hk.1.2.2.2.1,⟨hk.1.2.2.2.2.1,hk.1.2.2.2.2.2⟩⟩⟩⟩⟩⟩))),(rq_ (Kd.R_mono Ag.1 (fun _ hk=>⟨hk.2,⟨hk.1.1,⟨hk.1.2.1,⟨hk.1.2.2.1,⟨hk.1.2.2.2.1,⟨hk.1.2.2.2.2.1,hk.1.2.2.2.2.2⟩⟩⟩⟩⟩⟩))),(rq_ (Kd.R_mono Ah.1 (fun _ hk=>⟨hk.2,⟨hk.1.1,⟨hk.1.2.1,⟨hk.1.2.2.1,⟨hk.1.2.2.2.1,⟨hk.1.2.2.2.2.1,hk.1.2.2.2.2.2⟩⟩⟩⟩⟩⟩))),(bl_ At),(bl_ Au),(bl_ Av),(bl_ Ao),(bl_ Aw),(bl_ Ax),(bl_ Ay),(bl_ A8),Co.1,Cp.1,Bj.1,Bq.1,Bk.1,Br.1,Bl.1,Bs.1,Bh.1,Bt.1,Bm.1,Bu.1,Bn.1,Bv.1,Bo.1,Bw.1,bb_⟩)
  ·skip
   refine box_step ?hg (N:=23) ?hd (cs:=#[.int .i64 0,.slice none 0 0]) (t:=26) ?hr ?_;(case hd=>rfl);(case hg=>rfl);(case hr=>go_simp;try rfl)
   intro Ap hg Fr hbox hb
   have n0_:=rb_ Ac hb;have n1_:=rb_ Ad hb;have n2_:=rb_ Ae hb;have n3_:=rb_ Ab hb;have n4_:=rb_ Af hb;have n5_:=rb_ Ag hb;have n6_:=rb_ Ah hb;have n7_:=bz At hb;have n8_:=bz Au hb;have n9_:=bz Av hb;have n10_:=bz Ao hb;have n11_:=bz Aw hb;have n12_:=bz Ax hb;have n13_:=bz Ay hb;have n14_:=A_ (below_step bb_ hb);have n15_:=A_ (hbox);have n16_:=A_ (gw_ (w:=w) hg bb_);have n17_:=A_ (gw_ (w:=w) hg bb_);have n18_:=A_ (nl_ hg At);have n19_:=A_ (ng_ hg At);have n20_:=A_ (nl_ hg Au);have n21_:=A_ (ng_ hg Au);have n22_:=A_ (nl_ hg Av);have n23_:=A_ (ng_ hg Av);have n24_:=A_ (nl_ hg Ao);have n25_:=A_ (ng_ hg Ao);have n26_:=A_ (nl_ hg Aw);have n27_:=A_ (ng_ hg Aw);have n28_:=A_ (nl_ hg Ax);have n29_:=A_ (ng_ hg Ax);have n30_:=A_ (nl_ hg Ay);have n31_:=A_ (ng_ hg Ay);clear Ac;clear Ad;clear Ae;clear Ab;clear Af;clear Ag;clear Ah;clear At;clear Au;clear Av;clear Ao;clear Aw;clear Ax;clear Ay;clear HB;have Ac:=n0_;have Ad:=n1_;have Ae:=n2_;have Ab:=n3_;have Af:=n4_;have Ag:=n5_;have Ah:=n6_;have At:=n7_;have Au:=n8_;have Av:=n9_;have Ao:=n10_;have Aw:=n11_;have Ax:=n12_;have Ay:=n13_;have HB:=n14_;have A8:=n15_;have Co:=n16_;have Cp:=n17_;have Bj:=n18_;have Bq:=n19_;have Bk:=n20_;have Br:=n21_;have Bl:=n22_;have Bs:=n23_;have Bh:=n24_;have Bt:=n25_;have Bm:=n26_;have Bu:=n27_;have Bn:=n28_;have Bv:=n29_;have Bo:=n30_;have Bw:=n31_;clear n0_ n1_ n2_ n3_ n4_ n5_ n6_ n7_ n8_ n9_ n10_ n11_ n12_ n13_ n14_ n15_ n16_ n17_ n18_ n19_ n20_ n21_ n22_ n23_ n24_ n25_ n26_ n27_ n28_ n29_ n30_ n31_;clear hb hbox hg;refine hK.out _ _ ⟨blk_cell Ao.1 0,blk_cell Ao.1 1⟩ (fun hHeld=>?_)
   clear hK K;refine norm_ (a':=?_) ?_ ?_
   rotate_left
   ·show Act.put _ (some 23) _ = _
    simp only [Act.put,L_,M_,N_,i64_w,i32_w]
    rfl
   refine one_ (i:=2) (N:=some 164) #[T,T,T,T,T,F,F,T,F] rfl rfl (one_of HT_.1 (by kernel_rfl)) (by decide) (fun K hK=>?_)
   refine Kd.R_lit_step (Kd.int .i64) _ 3 ?hg (N:=164) ?hd (xs:=([] : List Int)) (inner:=[]) (ok:=fun _=>True) (okp:=fun _=>True) ?hr ?hp (fun _ hk=>hk) trivial (Below.refl _ _) (Nat.le_refl _) (by simp) ?_;(case hd=>rfl);(case hg=>rfl);(case hr=>go_simp;try rfl);(case hp=>exact (Reps.none _ _))
   intro Cn Md B8 hb hg_ hnew_
   clear hg_ hnew_;(first|rw [← Cs.1] at B8|(simp only [Int.reduceToNat] at B8;rw [← Cs.1] at B8))
   have n0_:=A_ (Kd.R_elder' (rl_ Ac) (Kd.R_base B8) hb);have n1_:=A_ (Kd.R_elder' (rl_ Ad) (Kd.R_base B8) hb);have n2_:=A_ (Kd.R_elder' (rl_ Ae) (Kd.R_base B8) hb);have n3_:=A_ (Kd.R_elder' (rl_ Ab) (Kd.R_base B8) hb);have n4_:=A_ (Kd.R_elder' (rl_ Af) (Kd.R_base B8) hb);have n5_:=A_ (Kd.R_elder' (rl_ Ag) (Kd.R_base B8) hb);have n6_:=A_ (Kd.R_elder' (rl_ Ah) (Kd.R_base B8) hb);have n7_:=A_ (Kd.R_lower (Kd.R_new' (Kd.R_new' (Kd.R_new' (Kd.R_new' (Kd.R_new' (Kd.R_new' (Kd.R_new' B8 (Kd.R_lt (rl_ Ac))) (Kd.R_lt (rl_ Ad))) (Kd.R_lt (rl_ Ae))) (Kd.R_lt (rl_ Ab))) (Kd.R_lt (rl_ Af))) (Kd.R_lt (rl_ Ag))) (Kd.R_lt (rl_ Ah))) (below_size bb_));have n8_:=bz At hb;have n9_:=bz Au hb;have n10_:=bz Av hb;have n11_:=bz Ao hb;have n12_:=bz Aw hb;have n13_:=bz Ax hb;have n14_:=bz Ay hb;have n15_:=bz A8 hb;have n16_:=A_ (below_step bb_ hb);clear Ac;clear Ad;clear Ae;clear Ab;clear Af;clear Ag;clear Ah;clear At;clear Au;clear Av;clear Ao;clear Aw;clear Ax;clear Ay;clear A8;clear HB;have Ac:=n0_;have Ad:=n1_;have Ae:=n2_;have Ab:=n3_;have Af:=n4_;have Ag:=n5_;have Ah:=n6_;have Bf:=n7_;have At:=n8_;have Au:=n9_;have Av:=n10_;have Ao:=n11_;have Aw:=n12_;have Ax:=n13_;have Ay:=n14_;have A8:=n15_;have HB:=n16_;clear n0_ n1_ n2_ n3_ n4_ n5_ n6_ n7_ n8_ n9_ n10_ n11_ n12_ n13_ n14_ n15_ n16_;clear hb B8;refine hK.out _ _ ⟨blk_cell Ao.1 0,blk_cell Ao.1 1⟩ (fun hHeld=>?_)
   clear hK K;refine norm_ (a':=?_) ?_ ?_
   rotate_left
   ·show Act.put _ (some 164) _ = _
    simp only [Act.put,L_,M_,N_,i64_w,i32_w]
    rfl
   refine one_ (i:=5) (N:=some 167) #[T,T,T,T,T,T,F,T,F] rfl rfl (one_of HT_.1 (by kernel_rfl)) (by decide) (fun K hK=>?_)
   refine Kd.R_append_rows_step (Kd.int .i64) (w0:=w) w.heap.size (by rfl) (.tmp 164) (.tmp 166) 24 3 (.int .i64 0) 8 rfl Tryd.underlying24 info3 rfl (by decide) (by omega) Cn Dt Aa _ _ _ (fun k_=>some k_ ≠ (Ai : Value).ownBlock ∧ some k_ ≠ (Aj : Value).ownBlock ∧ some k_ ≠ (Ak : Value).ownBlock ∧ some k_ ≠ (.slice (some As) Aa.length Ar : Value).ownBlock ∧ some k_ ≠ (Al : Value).ownBlock ∧ some k_ ≠ (Am : Value).ownBlock ∧ some k_ ≠ (An : Value).ownBlock) (fun _=>False) rfl rfl ?aO ?aR (fun _ _ h=>h) (fun _ h=>h.elim) ?aF ?aB ?aS ?aL ?_
   (case aR=>exact cl_ (Kd.R_reads' Ab.1).2.2)
   (case aB=>exact bb_)
   (case aF=>exact (fun k_ hk=>⟨Kd.fresh' (Kd.R_lt (rl_ Ac)) k_ hk,Kd.fresh' (Kd.R_lt (rl_ Ad)) k_ hk,Kd.fresh' (Kd.R_lt (rl_ Ae)) k_ hk,Kd.fresh' (Kd.R_lt (rl_ Ab)) k_ hk,Kd.fresh' (Kd.R_lt (rl_ Af)) k_ hk,Kd.fresh' (Kd.R_lt (rl_ Ag)) k_ hk,Kd.fresh' (Kd.R_lt (rl_ Ah)) k_ hk⟩))
   (case aO=>exact (rq_ (Kd.R_mono Bf.1 (fun _ hk=>⟨hk.1.1.1.1.1.1.2,⟨hk.1.1.1.1.1.2,⟨hk.1.1.1.1.2,⟨hk.1.1.1.2,⟨hk.1.1.2,⟨hk.1.2,hk.2⟩⟩⟩⟩⟩⟩))))
   (case aS=>exact (below_size bb_))
   (case aL=>have:=Cu.1;omega)
   intro Cg Ft ho hb hg hat
   rw [← Cw.1] at ho;have n0_:=A_ (Kd.R_after (ok:=(fun k_=>some k_ ≠ (Aj : Value).ownBlock ∧ some k_ ≠ (Ak : Value).ownBlock ∧ some k_ ≠ (.slice (some As) Aa.length Ar : Value).ownBlock ∧ some k_ ≠ (Al : Value).ownBlock ∧ some k_ ≠ (Am : Value).ownBlock ∧ some k_ ≠ (An : Value).ownBlock)) (rl_ Ac) hg hat);have n1_:=A_ (Kd.R_after (ok:=(fun k_=>some k_ ≠ (Ai : Value).ownBlock ∧ some k_ ≠ (Ak : Value).ownBlock ∧ some k_ ≠ (.slice (some As) Aa.length Ar : Value).ownBlock ∧ some k_ ≠ (Al : Value).ownBlock ∧ some k_ ≠ (Am : Value).ownBlock ∧ some k_ ≠ (An : Value).ownBlock)) (rl_ Ad) hg hat);have n2_:=A_ (Kd.R_after (ok:=(fun k_=>some k_ ≠ (Ai : Value).ownBlock ∧ some k_ ≠ (Aj : Value).ownBlock ∧ some k_ ≠ (.slice (some As) Aa.length Ar : Value).ownBlock ∧ some k_ ≠ (Al : Value).ownBlock ∧ some k_ ≠ (Am : Value).ownBlock ∧ some k_ ≠ (An : Value).ownBlock)) (rl_ Ae) hg hat);have n3_:=A_ (Kd.R_after (ok:=(fun k_=>some k_ ≠ (Ai : Value).ownBlock ∧ some k_ ≠ (Aj : Value).ownBlock ∧ some k_ ≠ (Ak : Value).ownBlock ∧ some k_ ≠ (Al : Value).ownBlock ∧ some k_ ≠ (Am : Value).ownBlock ∧ some k_ ≠ (An : Value).ownBlock)) (rl_ Ab) hg hat);have n4_:=A_ (Kd.R_after (ok:=(fun k_=>some k_ ≠ (Ai : Value).ownBlock ∧ some k_ ≠ (Aj : Value).ownBlock ∧ some k_ ≠ (Ak : Value).ownBlock ∧ some k_ ≠ (.slice (some As) Aa.length Ar : Value).ownBlock ∧ some k_ ≠ (Am : Value).ownBlock ∧ some k_ ≠ (An : Value).ownBlock)) (rl_ Af) hg hat);have n5_:=A_ (Kd.R_after (ok:=(fun k_=>some k_ ≠ (Ai : Value).ownBlock ∧ some k_ ≠ (Aj : Value).ownBlock ∧ some k_ ≠ (Ak : Value).ownBlock ∧ some k_ ≠ (.slice (some As) Aa.length Ar : Value).ownBlock ∧ some k_ ≠ (Al : Value).ownBlock ∧ some k_ ≠ (An : Value).ownBlock)) (rl_ Ag) hg hat);have n6_:=A_ (Kd.R_after (ok:=(fun k_=>some k_ ≠ (Ai : Value).ownBlock ∧ some k_ ≠ (Aj : Value).ownBlock ∧ some k_ ≠ (Ak : Value).ownBlock ∧ some k_ ≠ (.slice (some As) Aa.length Ar : Value).ownBlock ∧ some k_ ≠ (Al : Value).ownBlock ∧ some k_ ≠ (Am : Value).ownBlock)) (rl_ Ah) hg hat);have n7_:=A_ (blk_grown (g:=Bz) (o:=.cells #[.int .i64 Ch,Ai] 26 (0,0)) (bl_ At) hg (Kd.R_ne Bf.1 At.1 (by decide)));have n8_:=A_ (blk_grown (g:=B0) (o:=.cells #[.int .i64 Ci,Aj] 26 (0,0)) (bl_ Au) hg (Kd.R_ne Bf.1 Au.1 (by decide)));have n9_:=A_ (blk_grown (g:=B2) (o:=.cells #[.int .i64 Cj,Ak] 26 (0,0)) (bl_ Av) hg (Kd.R_ne Bf.1 Av.1 (by decide)));have n10_:=A_ (blk_grown (g:=Bp) (o:=.cells #[.int .i64 Bd,.slice (some As) Aa.length Ar] 26 (0,0)) (bl_ Ao) hg (Kd.R_ne Bf.1 Ao.1 (by decide)));have n11_:=A_ (blk_grown (g:=B4) (o:=.cells #[.int .i64 Ck,Al] 26 (0,0)) (bl_ Aw) hg (Kd.R_ne Bf.1 Aw.1 (by decide)));have n12_:=A_ (blk_grown (g:=B5) (o:=.cells #[.int .i64 Cl,Am] 26 (0,0)) (bl_ Ax) hg (Kd.R_ne Bf.1 Ax.1 (by decide)));have n13_:=A_ (blk_grown (g:=B6) (o:=.cells #[.int .i64 Cm,An] 26 (0,0)) (bl_ Ay) hg (Kd.R_ne Bf.1 Ay.1 (by decide)));have n14_:=A_ (blk_grown (g:=Ap) (o:=.cells #[.int .i64 0,.slice none 0 0] 26 (0,0)) (bl_ A8) hg (Kd.R_ne Bf.1 A8.1 (by decide)));have n15_:=A_ (hb);have n16_:=A_ (ho);clear Ac;clear Ad;clear Ae;clear Ab;clear Af;clear Ag;clear Ah;clear At;clear Au;clear Av;clear Ao;clear Aw;clear Ax;clear Ay;clear A8;clear HB;clear Bf;have Ac:=n0_;have Ad:=n1_;have Ae:=n2_;have Ab:=n3_;have Af:=n4_;have Ag:=n5_;have Ah:=n6_;have At:=n7_;have Au:=n8_;have Av:=n9_;have Ao:=n10_;have Aw:=n11_;have Ax:=n12_;have Ay:=n13_;have A8:=n14_;have HB:=n15_;have Bb:=n16_;clear n0_ n1_ n2_ n3_ n4_ n5_ n6_ n7_ n8_ n9_ n10_ n11_ n12_ n13_ n14_ n15_ n16_;clear ho hb hg hat;obtain ⟨Cx,Cy,Cq⟩:=Kd.R_slice Bb.1;(first|subst Cq|(injection Cq with f1_ f2_ f3_;have f4_:=f1_.symm;have f5_:=f3_.symm;clear f1_ f2_ f3_;subst f4_;subst f5_))
   refine hK.out _ _ ⟨blk_cell Ao.1 0,blk_cell Ao.1 1⟩ (fun hHeld=>?_)
   clear hK K;refine norm_ (a':=?_) ?_ ?_
   rotate_left
   ·show Act.put _ (some 167) _ = _
    simp only [Act.put,L_,M_,N_,i64_w,i32_w]
    rfl
   refine pu_ (i:=6) (N:=168) #[T,T,T,T,T,T,T,T,F] HT_.1 rfl rfl (fun _ _ _ h=>h) rfl (h:=?_)
   exact norm_ (by simp only [putAll,Act.put,L_,M_,N_]) (hCont (Cn,.slice Cx Az.length Cy,Ap) _ ⟨hHeld,(rl_ Bb),(rq_ (Kd.R_mono Ac.1 (fun _ hk=>⟨hk.2,⟨hk.1.1,⟨hk.1.2.1,⟨hk.1.2.2.1,⟨hk.1.2.2.2.1,⟨hk.1.2.2.2.2.1,hk.1.2.2.2.2.2⟩⟩⟩⟩⟩⟩))),(rq_ (Kd.R_mono Ad.1 (fun _ hk=>⟨hk.2,⟨hk.1.1,⟨hk.1.2.1,⟨hk.1.2.2.1,⟨hk.1.2.2.2.1,⟨hk.1.2.2.2.2.1,hk.1.2.2.2.2.2⟩⟩⟩⟩⟩⟩))),(rq_ (Kd.R_mono Ae.1 (fun _ hk=>⟨hk.2,⟨hk.1.1,⟨hk.1.2.1,⟨hk.1.2.2.1,⟨hk.1.2.2.2.1,⟨hk.1.2.2.2.2.1,hk.1.2.2.2.2.2⟩⟩⟩⟩⟩⟩))),(rq_ (Kd.R_mono Ab.1 (fun _ hk=>⟨hk.2,⟨hk.1.1,⟨hk.1.2.1,⟨hk.1.2.2.1,⟨hk.1.2.2.2.1,⟨hk.1.2.2.2.2.1,hk.1.2.2.2.2.2⟩⟩⟩⟩⟩⟩))),(rq_ (Kd.R_mono Af.1 (fun _ hk=>⟨hk.2,⟨hk.1.1,⟨hk.1.2.1,⟨hk.1.2.2.1,⟨hk.1.2.2.2.1,⟨hk.1.2.2.2.2.1,hk.1.2.2.2.2.2⟩⟩⟩⟩⟩⟩))),(rq_ (Kd.R_mono Ag.1 (fun _ hk=>⟨hk.2,⟨hk.1.1,⟨hk.1.2.1,⟨hk.1.2.2.1,⟨hk.1.2.2.2.1,⟨hk.1.2.2.2.2.1,hk.1.2.2.2.2.2⟩⟩⟩⟩⟩⟩))),(rq_ (Kd.R_mono Ah.1 (fun _ hk=>⟨hk.2,⟨hk.1.1,⟨hk.1.2.1,⟨hk.1.2.2.1,⟨hk.1.2.2.2.1,⟨hk.1.2.2.2.2.1,hk.1.2.2.2.2.2⟩⟩⟩⟩⟩⟩))),(bl_ At),(bl_ Au),(bl_ Av),(bl_ Ao),(bl_ Aw),(bl_ Ax),(bl_ Ay),(bl_ A8),Co.1,Cp.1,Bj.1,Bq.1,Bk.1,Br.1,Bl.1,Bs.1,Bh.1,Bt.1,Bm.1,Bu.1,Bn.1,Bv.1,Bo.1,Bw.1,bb_⟩)
 rintro ⟨Cn,Cg,Ap⟩ Bg ⟨hS_,h0_,h1_,h2_,h3_,h4_,h5_,h6_,h7_,h8_,h9_,h10_,h11_,h12_,h13_,h14_,h15_,h16_,h17_,h18_,h19_,h20_,h21_,h22_,h23_,h24_,h25_,h26_,h27_,h28_,h29_,h30_,h31_,h32_⟩
 have n0_ : Aside0 (Kd.R (Kd.int .i64) 3 Bg w.heap.size (fun k_=>some k_ ≠ (Ai : Value).ownBlock ∧ some k_ ≠ (Aj : Value).ownBlock ∧ some k_ ≠ (Ak : Value).ownBlock ∧ some k_ ≠ (.slice (some As) Aa.length Ar : Value).ownBlock ∧ some k_ ≠ (Al : Value).ownBlock ∧ some k_ ≠ (Am : Value).ownBlock ∧ some k_ ≠ (An : Value).ownBlock) Cg Az):=⟨h0_⟩;have n1_ : Aside0 (Kd.R (Kd.int .i64) 3 Bg w.heap.size (fun k_=>some k_ ≠ (Cg : Value).ownBlock ∧ some k_ ≠ (Aj : Value).ownBlock ∧ some k_ ≠ (Ak : Value).ownBlock ∧ some k_ ≠ (.slice (some As) Aa.length Ar : Value).ownBlock ∧ some k_ ≠ (Al : Value).ownBlock ∧ some k_ ≠ (Am : Value).ownBlock ∧ some k_ ≠ (An : Value).ownBlock) Ai Ca):=⟨h1_⟩;have n2_ : Aside0 (Kd.R (Kd.int .i64) 3 Bg w.heap.size (fun k_=>some k_ ≠ (Cg : Value).ownBlock ∧ some k_ ≠ (Ai : Value).ownBlock ∧ some k_ ≠ (Ak : Value).ownBlock ∧ some k_ ≠ (.slice (some As) Aa.length Ar : Value).ownBlock ∧ some k_ ≠ (Al : Value).ownBlock ∧ some k_ ≠ (Am : Value).ownBlock ∧ some k_ ≠ (An : Value).ownBlock) Aj Cb):=⟨h2_⟩;have n3_ : Aside0 (Kd.R (Kd.int .i64) 3 Bg w.heap.size (fun k_=>some k_ ≠ (Cg : Value).ownBlock ∧ some k_ ≠ (Ai : Value).ownBlock ∧ some k_ ≠ (Aj : Value).ownBlock ∧ some k_ ≠ (.slice (some As) Aa.length Ar : Value).ownBlock ∧ some k_ ≠ (Al : Value).ownBlock ∧ some k_ ≠ (Am : Value).ownBlock ∧ some k_ ≠ (An : Value).ownBlock) Ak Cc):=⟨h3_⟩;have n4_ : Aside0 (Kd.R (Kd.int .i64) 3 Bg w.heap.size (fun k_=>some k_ ≠ (Cg : Value).ownBlock ∧ some k_ ≠ (Ai : Value).ownBlock ∧ some k_ ≠ (Aj : Value).ownBlock ∧ some k_ ≠ (Ak : Value).ownBlock ∧ some k_ ≠ (Al : Value).ownBlock ∧ some k_ ≠ (Am : Value).ownBlock ∧ some k_ ≠ (An : Value).ownBlock) (.slice (some As) Aa.length Ar) Aa):=⟨h4_⟩;have n5_ : Aside0 (Kd.R (Kd.int .i64) 3 Bg w.heap.size (fun k_=>some k_ ≠ (Cg : Value).ownBlock ∧ some k_ ≠ (Ai : Value).ownBlock ∧ some k_ ≠ (Aj : Value).ownBlock ∧ some k_ ≠ (Ak : Value).ownBlock ∧ some k_ ≠ (.slice (some As) Aa.length Ar : Value).ownBlock ∧ some k_ ≠ (Am : Value).ownBlock ∧ some k_ ≠ (An : Value).ownBlock) Al Cd):=⟨h5_⟩;have n6_ : Aside0 (Kd.R (Kd.int .i64) 3 Bg w.heap.size (fun k_=>some k_ ≠ (Cg : Value).ownBlock ∧ some k_ ≠ (Ai : Value).ownBlock ∧ some k_ ≠ (Aj : Value).ownBlock ∧ some k_ ≠ (Ak : Value).ownBlock ∧ some k_ ≠ (.slice (some As) Aa.length Ar : Value).ownBlock ∧ some k_ ≠ (Al : Value).ownBlock ∧ some k_ ≠ (An : Value).ownBlock) Am Ce):=⟨h6_⟩;have n7_ : Aside0 (Kd.R (Kd.int .i64) 3 Bg w.heap.size (fun k_=>some k_ ≠ (Cg : Value).ownBlock ∧ some k_ ≠ (Ai : Value).ownBlock ∧ some k_ ≠ (Aj : Value).ownBlock ∧ some k_ ≠ (Ak : Value).ownBlock ∧ some k_ ≠ (.slice (some As) Aa.length Ar : Value).ownBlock ∧ some k_ ≠ (Al : Value).ownBlock ∧ some k_ ≠ (Am : Value).ownBlock) An Cf):=⟨h7_⟩;have n8_ : Aside0 (Bg.heap[Bz]? = some (.cells #[.int .i64 Ch,Ai] 26 (0,0))):=⟨h8_⟩;have n9_ : Aside0 (Bg.heap[B0]? = some (.cells #[.int .i64 Ci,Aj] 26 (0,0))):=⟨h9_⟩;have n10_ : Aside0 (Bg.heap[B2]? = some (.cells #[.int .i64 Cj,Ak] 26 (0,0))):=⟨h10_⟩;have n11_ : Aside0 (Bg.heap[Bp]? = some (.cells #[.int .i64 Bd,.slice (some As) Aa.length Ar] 26 (0,0))):=⟨h11_⟩;have n12_ : Aside0 (Bg.heap[B4]? = some (.cells #[.int .i64 Ck,Al] 26 (0,0))):=⟨h12_⟩;have n13_ : Aside0 (Bg.heap[B5]? = some (.cells #[.int .i64 Cl,Am] 26 (0,0))):=⟨h13_⟩;have n14_ : Aside0 (Bg.heap[B6]? = some (.cells #[.int .i64 Cm,An] 26 (0,0))):=⟨h14_⟩;have n15_ : Aside0 (Bg.heap[Ap]? = some (.cells #[.int .i64 0,.slice none 0 0] 26 (0,0))):=⟨h15_⟩;have n16_ : Aside0 (w.heap.size ≤ Ap):=⟨h16_⟩;have n17_ : Aside0 (w.heap.size ≤ Ap):=⟨h17_⟩;have n18_ : Aside0 (Bz ≠ Ap):=⟨h18_⟩;have n19_ : Aside0 (Ap ≠ Bz):=⟨h19_⟩;have n20_ : Aside0 (B0 ≠ Ap):=⟨h20_⟩;have n21_ : Aside0 (Ap ≠ B0):=⟨h21_⟩;have n22_ : Aside0 (B2 ≠ Ap):=⟨h22_⟩;have n23_ : Aside0 (Ap ≠ B2):=⟨h23_⟩;have n24_ : Aside0 (Bp ≠ Ap):=⟨h24_⟩;have n25_ : Aside0 (Ap ≠ Bp):=⟨h25_⟩;have n26_ : Aside0 (B4 ≠ Ap):=⟨h26_⟩;have n27_ : Aside0 (Ap ≠ B4):=⟨h27_⟩;have n28_ : Aside0 (B5 ≠ Ap):=⟨h28_⟩;have n29_ : Aside0 (Ap ≠ B5):=⟨h29_⟩;have n30_ : Aside0 (B6 ≠ Ap):=⟨h30_⟩;have n31_ : Aside0 (Ap ≠ B6):=⟨h31_⟩;have n32_ : Aside0 (Below w.heap.size w Bg):=⟨h32_⟩;clear Ac;clear Ad;clear Ae;clear Ab;clear Af;clear Ag;clear Ah;clear At;clear Au;clear Av;clear Ao;clear Aw;clear Ax;clear Ay;clear HB;clear h0_ h1_ h2_ h3_ h4_ h5_ h6_ h7_ h8_ h9_ h10_ h11_ h12_ h13_ h14_ h15_ h16_ h17_ h18_ h19_ h20_ h21_ h22_ h23_ h24_ h25_ h26_ h27_ h28_ h29_ h30_ h31_ h32_;have Bb:=n0_;have Ac:=n1_;have Ad:=n2_;have Ae:=n3_;have Ab:=n4_;have Af:=n5_;have Ag:=n6_;have Ah:=n7_;have At:=n8_;have Au:=n9_;have Av:=n10_;have Ao:=n11_;have Aw:=n12_;have Ax:=n13_;have Ay:=n14_;have A8:=n15_;have Co:=n16_;have Cp:=n17_;have Bj:=n18_;have Bq:=n19_;have Bk:=n20_;have Br:=n21_;have Bl:=n22_;have Bs:=n23_;have Bh:=n24_;have Bt:=n25_;have Bm:=n26_;have Bu:=n27_;have Bn:=n28_;have Bv:=n29_;have Bo:=n30_;have Bw:=n31_;have HB:=n32_;clear n0_ n1_ n2_ n3_ n4_ n5_ n6_ n7_ n8_ n9_ n10_ n11_ n12_ n13_ n14_ n15_ n16_ n17_ n18_ n19_ n20_ n21_ n22_ n23_ n24_ n25_ n26_ n27_ n28_ n29_ n30_ n31_ n32_;have hHeld : Bg.cell? ⟨Bp,0,none⟩ = some (.int .i64 Bd) ∧ Bg.cell? ⟨Bp,1,none⟩ = some (.slice (some As) Aa.length Ar):=hS_;obtain ⟨Be,Ba,D2⟩:=Kd.R_slice Bb.1;(first|subst D2|(injection D2 with f1_ f2_ f3_;have f4_:=f1_.symm;have f5_:=f3_.symm;clear f1_ f2_ f3_;subst f4_;subst f5_))
 refine norm_ (a':=?_) ?_ ?_
 rotate_left;·simp only [putAll,Act.put,L_,M_,N_];rfl
 refine one_ (i:=8) (N:=none) #[T,T,T,T,T,T,T,T,T] rfl rfl (one_of HT_.1 (by kernel_rfl)) (by decide) (fun K hK=>?_)
 have Z : Bg.cell? ⟨Ap,0,none⟩ = some (.int .i64 0):=blk_cell A8.1 0;have Z:=blk_frozen A8.1 0;have Z:=Bj.1;have Z:=Bk.1;have Z:=Bl.1;have Z:=Bh.1;have Z:=Bm.1;have Z:=Bn.1;have Z:=Bo.1;have Z:=Bq.1;have Z:=Br.1;have Z:=Bs.1;have Z:=Bt.1;have Z:=Bu.1;have Z:=Bv.1;have Z:=Bw.1;have Z : Bg.cell? ⟨Ap,1,none⟩ = some (.slice none 0 0):=blk_cell A8.1 1;have Z:=blk_frozen A8.1 1;have Z:=Bj.1;have Z:=Bk.1;have Z:=Bl.1;have Z:=Bh.1;have Z:=Bm.1;have Z:=Bn.1;have Z:=Bo.1;have Z:=Bq.1;have Z:=Br.1;have Z:=Bs.1;have Z:=Bt.1;have Z:=Bu.1;have Z:=Bv.1;have Z:=Bw.1;refine skip_ (w1:=?_) (by rfl) rfl ?_ ?_
 rotate_left
 ·go_simp
  rfl
 refine hK.out _ _ ⟨((cell_far (p:=⟨Ap,_,none⟩) Bh.1 _).trans (((cell_far (p:=⟨Ap,_,none⟩) Bh.1 _).trans (hHeld.1)))),((cell_far (p:=⟨Ap,_,none⟩) Bh.1 _).trans (((cell_far (p:=⟨Ap,_,none⟩) Bh.1 _).trans (hHeld.2))))⟩ (fun hHeld=>?_)
 clear hK K;refine done_ (done_of HT_.1 (by kernel_rfl)) ?_
 try go_wp2
 have n0_ : Aside0 (Kd.R (Kd.int .i64) 3 ((Bg.setCell ⟨Ap,0,none⟩ (.int .i64 Bd)).setCell ⟨Ap,1,none⟩ (.slice Be Az.length Ba)) w.heap.size (fun k_=>some k_ ≠ (Aj : Value).ownBlock ∧ some k_ ≠ (Ak : Value).ownBlock ∧ some k_ ≠ (.slice (some As) Aa.length Ar : Value).ownBlock ∧ some k_ ≠ (Al : Value).ownBlock ∧ some k_ ≠ (Am : Value).ownBlock ∧ some k_ ≠ (An : Value).ownBlock ∧ some k_ ≠ (.slice Be Az.length Ba : Value).ownBlock) Ai Ca):=⟨rq_ (Kd.R_mono (Kd.R_far (p:=⟨Ap,1,none⟩) (Kd.R_far (p:=⟨Ap,0,none⟩) (Kd.R_types Ac.1 A8.1 (by decide)) (fun _ hk=>hk.2) (.int .i64 Bd)) (fun _ hk=>hk.2) (.slice Be Az.length Ba)) (fun _ hk=>⟨hk.1.2.1,⟨hk.1.2.2.1,⟨hk.1.2.2.2.1,⟨hk.1.2.2.2.2.1,⟨hk.1.2.2.2.2.2.1,⟨hk.1.2.2.2.2.2.2,hk.1.1⟩⟩⟩⟩⟩⟩))⟩;have n1_ : Aside0 (Kd.R (Kd.int .i64) 3 ((Bg.setCell ⟨Ap,0,none⟩ (.int .i64 Bd)).setCell ⟨Ap,1,none⟩ (.slice Be Az.length Ba)) w.heap.size (fun k_=>some k_ ≠ (Ai : Value).ownBlock ∧ some k_ ≠ (Ak : Value).ownBlock ∧ some k_ ≠ (.slice (some As) Aa.length Ar : Value).ownBlock ∧ some k_ ≠ (Al : Value).ownBlock ∧ some k_ ≠ (Am : Value).ownBlock ∧ some k_ ≠ (An : Value).ownBlock ∧ some k_ ≠ (.slice Be Az.length Ba : Value).ownBlock) Aj Cb):=⟨rq_ (Kd.R_mono (Kd.R_far (p:=⟨Ap,1,none⟩) (Kd.R_far (p:=⟨Ap,0,none⟩) (Kd.R_types Ad.1 A8.1 (by decide)) (fun _ hk=>hk.2) (.int .i64 Bd)) (fun _ hk=>hk.2) (.slice Be Az.length Ba)) (fun _ hk=>⟨hk.1.2.1,⟨hk.1.2.2.1,⟨hk.1.2.2.2.1,⟨hk.1.2.2.2.2.1,⟨hk.1.2.2.2.2.2.1,⟨hk.1.2.2.2.2.2.2,hk.1.1⟩⟩⟩⟩⟩⟩))⟩;have n2_ : Aside0 (Kd.R (Kd.int .i64) 3 ((Bg.setCell ⟨Ap,0,none⟩ (.int .i64 Bd)).setCell ⟨Ap,1,none⟩ (.slice Be Az.length Ba)) w.heap.size (fun k_=>some k_ ≠ (Ai : Value).ownBlock ∧ some k_ ≠ (Aj : Value).ownBlock ∧ some k_ ≠ (.slice (some As) Aa.length Ar : Value).ownBlock ∧ some k_ ≠ (Al : Value).ownBlock ∧ some k_ ≠ (Am : Value).ownBlock ∧ some k_ ≠ (An : Value).ownBlock ∧ some k_ ≠ (.slice Be Az.length Ba : Value).ownBlock) Ak Cc):=⟨rq_ (Kd.R_mono (Kd.R_far (p:=⟨Ap,1,none⟩) (Kd.R_far (p:=⟨Ap,0,none⟩) (Kd.R_types Ae.1 A8.1 (by decide)) (fun _ hk=>hk.2) (.int .i64 Bd)) (fun _ hk=>hk.2) (.slice Be Az.length Ba)) (fun _ hk=>⟨hk.1.2.1,⟨hk.1.2.2.1,⟨hk.1.2.2.2.1,⟨hk.1.2.2.2.2.1,⟨hk.1.2.2.2.2.2.1,⟨hk.1.2.2.2.2.2.2,hk.1.1⟩⟩⟩⟩⟩⟩))⟩;have n3_ : Aside0 (Kd.R (Kd.int .i64) 3 ((Bg.setCell ⟨Ap,0,none⟩ (.int .i64 Bd)).setCell ⟨Ap,1,none⟩ (.slice Be Az.length Ba)) w.heap.size (fun k_=>some k_ ≠ (Ai : Value).ownBlock ∧ some k_ ≠ (Aj : Value).ownBlock ∧ some k_ ≠ (Ak : Value).ownBlock ∧ some k_ ≠ (Al : Value).ownBlock ∧ some k_ ≠ (Am : Value).ownBlock ∧ some k_ ≠ (An : Value).ownBlock ∧ some k_ ≠ (.slice Be Az.length Ba : Value).ownBlock) (.slice (some As) Aa.length Ar) Aa):=⟨rq_ (Kd.R_mono (Kd.R_far (p:=⟨Ap,1,none⟩) (Kd.R_far (p:=⟨Ap,0,none⟩) (Kd.R_types Ab.1 A8.1 (by decide)) (fun _ hk=>hk.2) (.int .i64 Bd)) (fun _ hk=>hk.2) (.slice Be Az.length Ba)) (fun _ hk=>⟨hk.1.2.1,⟨hk.1.2.2.1,⟨hk.1.2.2.2.1,⟨hk.1.2.2.2.2.1,⟨hk.1.2.2.2.2.2.1,⟨hk.1.2.2.2.2.2.2,hk.1.1⟩⟩⟩⟩⟩⟩))⟩;have n4_ : Aside0 (Kd.R (Kd.int .i64) 3 ((Bg.setCell ⟨Ap,0,none⟩ (.int .i64 Bd)).setCell ⟨Ap,1,none⟩ (.slice Be Az.length Ba)) w.heap.size (fun k_=>some k_ ≠ (Ai : Value).ownBlock ∧ some k_ ≠ (Aj : Value).ownBlock ∧ some k_ ≠ (Ak : Value).ownBlock ∧ some k_ ≠ (.slice (some As) Aa.length Ar : Value).ownBlock ∧ some k_ ≠ (Am : Value).ownBlock ∧ some k_ ≠ (An : Value).ownBlock ∧ some k_ ≠ (.slice Be Az.length Ba : Value).ownBlock) Al Cd):=⟨rq_ (Kd.R_mono (Kd.R_far (p:=⟨Ap,1,none⟩) (Kd.R_far (p:=⟨Ap,0,none⟩) (Kd.R_types Af.1 A8.1 (by decide)) (fun _ hk=>hk.2) (.int .i64 Bd)) (fun _ hk=>hk.2) (.slice Be Az.length Ba)) (fun _ hk=>⟨hk.1.2.1,⟨hk.1.2.2.1,⟨hk.1.2.2.2.1,⟨hk.1.2.2.2.2.1,⟨hk.1.2.2.2.2.2.1,⟨hk.1.2.2.2.2.2.2,hk.1.1⟩⟩⟩⟩⟩⟩))⟩;have n5_ : Aside0 (Kd.R (Kd.int .i64) 3 ((Bg.setCell ⟨Ap,0,none⟩ (.int .i64 Bd)).setCell ⟨Ap,1,none⟩ (.slice Be Az.length Ba)) w.heap.size (fun k_=>some k_ ≠ (Ai : Value).ownBlock ∧ some k_ ≠ (Aj : Value).ownBlock ∧ some k_ ≠ (Ak : Value).ownBlock ∧ some k_ ≠ (.slice (some As) Aa.length Ar : Value).ownBlock ∧ some k_ ≠ (Al : Value).ownBlock ∧ some k_ ≠ (An : Value).ownBlock ∧ some k_ ≠ (.slice Be Az.length Ba : Value).ownBlock) Am Ce):=⟨rq_ (Kd.R_mono (Kd.R_far (p:=⟨Ap,1,none⟩) (Kd.R_far (p:=⟨Ap,0,none⟩) (Kd.R_types Ag.1 A8.1 (by decide)) (fun _ hk=>hk.2) (.int .i64 Bd)) (fun _ hk=>hk.2) (.slice Be Az.length Ba)) (fun _ hk=>⟨hk.1.2.1,⟨hk.1.2.2.1,⟨hk.1.2.2.2.1,⟨hk.1.2.2.2.2.1,⟨hk.1.2.2.2.2.2.1,⟨hk.1.2.2.2.2.2.2,hk.1.1⟩⟩⟩⟩⟩⟩))⟩;have n6_ : Aside0 (Kd.R (Kd.int .i64) 3 ((Bg.setCell ⟨Ap,0,none⟩ (.int .i64 Bd)).setCell ⟨Ap,1,none⟩ (.slice Be Az.length Ba)) w.heap.size (fun k_=>some k_ ≠ (Ai : Value).ownBlock ∧ some k_ ≠ (Aj : Value).ownBlock ∧ some k_ ≠ (Ak : Value).ownBlock ∧ some k_ ≠ (.slice (some As) Aa.length Ar : Value).ownBlock ∧ some k_ ≠ (Al : Value).ownBlock ∧ some k_ ≠ (Am : Value).ownBlock ∧ some k_ ≠ (.slice Be Az.length Ba : Value).ownBlock) An Cf):=⟨rq_ (Kd.R_mono (Kd.R_far (p:=⟨Ap,1,none⟩) (Kd.R_far (p:=⟨Ap,0,none⟩) (Kd.R_types Ah.1 A8.1 (by decide)) (fun _ hk=>hk.2) (.int .i64 Bd)) (fun _ hk=>hk.2) (.slice Be Az.length Ba)) (fun _ hk=>⟨hk.1.2.1,⟨hk.1.2.2.1,⟨hk.1.2.2.2.1,⟨hk.1.2.2.2.2.1,⟨hk.1.2.2.2.2.2.1,⟨hk.1.2.2.2.2.2.2,hk.1.1⟩⟩⟩⟩⟩⟩))⟩;have n7_ : Aside0 (Kd.R (Kd.int .i64) 3 ((Bg.setCell ⟨Ap,0,none⟩ (.int .i64 Bd)).setCell ⟨Ap,1,none⟩ (.slice Be Az.length Ba)) w.heap.size (fun k_=>some k_ ≠ (Ai : Value).ownBlock ∧ some k_ ≠ (Aj : Value).ownBlock ∧ some k_ ≠ (Ak : Value).ownBlock ∧ some k_ ≠ (.slice (some As) Aa.length Ar : Value).ownBlock ∧ some k_ ≠ (Al : Value).ownBlock ∧ some k_ ≠ (Am : Value).ownBlock ∧ some k_ ≠ (An : Value).ownBlock) (.slice Be Az.length Ba) Az):=⟨rq_ (Kd.R_mono (Kd.R_far (p:=⟨Ap,1,none⟩) (Kd.R_far (p:=⟨Ap,0,none⟩) (Kd.R_types Bb.1 A8.1 (by decide)) (fun _ hk=>hk.2) (.int .i64 Bd)) (fun _ hk=>hk.2) (.slice Be Az.length Ba)) (fun _ hk=>⟨hk.1.1,⟨hk.1.2.1,⟨hk.1.2.2.1,⟨hk.1.2.2.2.1,⟨hk.1.2.2.2.2.1,⟨hk.1.2.2.2.2.2.1,hk.1.2.2.2.2.2.2⟩⟩⟩⟩⟩⟩))⟩;have n8_ : Aside0 (((Bg.setCell ⟨Ap,0,none⟩ (.int .i64 Bd)).setCell ⟨Ap,1,none⟩ (.slice Be Az.length Ba)).heap[Bz]? = some (.cells #[.int .i64 Ch,Ai] 26 (0,0))):=⟨by (with_reducible repeat (first|refine blk_drewN ?_ _|refine blk_drew ?_|refine blk_alloc ?_ _));refine blk_far ?_ Bj.1 _;(with_reducible repeat (first|refine blk_drewN ?_ _|refine blk_drew ?_|refine blk_alloc ?_ _));refine blk_far ?_ Bj.1 _;(with_reducible repeat (first|refine blk_drewN ?_ _|refine blk_drew ?_|refine blk_alloc ?_ _));exact At.1⟩;have n9_ : Aside0 (((Bg.setCell ⟨Ap,0,none⟩ (.int .i64 Bd)).setCell ⟨Ap,1,none⟩ (.slice Be Az.length Ba)).heap[B0]? = some (.cells #[.int .i64 Ci,Aj] 26 (0,0))):=⟨by (with_reducible repeat (first|refine blk_drewN ?_ _|refine blk_drew ?_|refine blk_alloc ?_ _));refine blk_far ?_ Bk.1 _;(with_reducible repeat (first|refine blk_drewN ?_ _|refine blk_drew ?_|refine blk_alloc ?_ _));refine blk_far ?_ Bk.1 _;(with_reducible repeat (first|refine blk_drewN ?_ _|refine blk_drew ?_|refine blk_alloc ?_ _));exact Au.1⟩;have n10_ : Aside0 (((Bg.setCell ⟨Ap,0,none⟩ (.int .i64 Bd)).setCell ⟨Ap,1,none⟩ (.slice Be Az.length Ba)).heap[B2]? = some (.cells #[.int .i64 Cj,Ak] 26 (0,0))):=⟨by (with_reducible repeat (first|refine blk_drewN ?_ _|refine blk_drew ?_|refine blk_alloc ?_ _));refine blk_far ?_ Bl.1 _;(with_reducible repeat (first|refine blk_drewN ?_ _|refine blk_drew ?_|refine blk_alloc ?_ _));refine blk_far ?_ Bl.1 _;(with_reducible repeat (first|refine blk_drewN ?_ _|refine blk_drew ?_|refine blk_alloc ?_ _));exact Av.1⟩;have n11_ : Aside0 (((Bg.setCell ⟨Ap,0,none⟩ (.int .i64 Bd)).setCell ⟨Ap,1,none⟩ (.slice Be Az.length Ba)).heap[Bp]? = some (.cells #[.int .i64 Bd,.slice (some As) Aa.length Ar] 26 (0,0))):=⟨by (with_reducible repeat (first|refine blk_drewN ?_ _|refine blk_drew ?_|refine blk_alloc ?_ _));refine blk_far ?_ Bh.1 _;(with_reducible repeat (first|refine blk_drewN ?_ _|refine blk_drew ?_|refine blk_alloc ?_ _));refine blk_far ?_ Bh.1 _;(with_reducible repeat (first|refine blk_drewN ?_ _|refine blk_drew ?_|refine blk_alloc ?_ _));exact Ao.1⟩;have n12_ : Aside0 (((Bg.setCell ⟨Ap,0,none⟩ (.int .i64 Bd)).setCell ⟨Ap,1,none⟩ (.slice Be Az.length Ba)).heap[B4]? = some (.cells #[.int .i64 Ck,Al] 26 (0,0))):=⟨by (with_reducible repeat (first|refine blk_drewN ?_ _|refine blk_drew ?_|refine blk_alloc ?_ _));refine blk_far ?_ Bm.1 _;(with_reducible repeat (first|refine blk_drewN ?_ _|refine blk_drew ?_|refine blk_alloc ?_ _));refine blk_far ?_ Bm.1 _;(with_reducible repeat (first|refine blk_drewN ?_ _|refine blk_drew ?_|refine blk_alloc ?_ _));exact Aw.1⟩;have n13_ : Aside0 (((Bg.setCell ⟨Ap,0,none⟩ (.int .i64 Bd)).setCell ⟨Ap,1,none⟩ (.slice Be Az.length Ba)).heap[B5]? = some (.cells #[.int .i64 Cl,Am] 26 (0,0))):=⟨by (with_reducible repeat (first|refine blk_drewN ?_ _|refine blk_drew ?_|refine blk_alloc ?_ _));refine blk_far ?_ Bn.1 _;(with_reducible repeat (first|refine blk_drewN ?_ _|refine blk_drew ?_|refine blk_alloc ?_ _));refine blk_far ?_ Bn.1 _;(with_reducible repeat (first|refine blk_drewN ?_ _|refine blk_drew ?_|refine blk_alloc ?_ _));exact Ax.1⟩;have n14_ : Aside0 (((Bg.setCell ⟨Ap,0,none⟩ (.int .i64 Bd)).setCell ⟨Ap,1,none⟩ (.slice Be Az.length Ba)).heap[B6]? = some (.cells #[.int .i64 Cm,An] 26 (0,0))):=⟨by (with_reducible repeat (first|refine blk_drewN ?_ _|refine blk_drew ?_|refine blk_alloc ?_ _));refine blk_far ?_ Bo.1 _;(with_reducible repeat (first|refine blk_drewN ?_ _|refine blk_drew ?_|refine blk_alloc ?_ _));refine blk_far ?_ Bo.1 _;(with_reducible repeat (first|refine blk_drewN ?_ _|refine blk_drew ?_|refine blk_alloc ?_ _));exact Ay.1⟩;have n15_ : Aside0 (((Bg.setCell ⟨Ap,0,none⟩ (.int .i64 Bd)).setCell ⟨Ap,1,none⟩ (.slice Be Az.length Ba)).heap[Ap]? = some (.cells #[.int .i64 Bd,.slice Be Az.length Ba] 26 (0,0))):=⟨by (with_reducible repeat (first|refine blk_drewN ?_ _|refine blk_drew ?_|refine blk_alloc ?_ _));refine blk_put (cs:=#[.int .i64 Bd,.slice none 0 0]) ?_ 1 _ rfl;(with_reducible repeat (first|refine blk_drewN ?_ _|refine blk_drew ?_|refine blk_alloc ?_ _));refine blk_put (cs:=#[.int .i64 0,.slice none 0 0]) ?_ 0 _ rfl;(with_reducible repeat (first|refine blk_drewN ?_ _|refine blk_drew ?_|refine blk_alloc ?_ _));exact A8.1⟩;have n16_ : Aside0 (Below w.heap.size w ((Bg.setCell ⟨Ap,0,none⟩ (.int .i64 Bd)).setCell ⟨Ap,1,none⟩ (.slice Be Az.length Ba))):=⟨bb_⟩;(try clear Ac);(try clear Ad);(try clear Ae);(try clear Ab);(try clear Af);(try clear Ag);(try clear Ah);(try clear Bb);(try clear At);(try clear Au);(try clear Av);(try clear Ao);(try clear Aw);(try clear Ax);(try clear Ay);(try clear A8);(try clear HB);generalize ((Bg.setCell ⟨Ap,0,none⟩ (.int .i64 Bd)).setCell ⟨Ap,1,none⟩ (.slice Be Az.length Ba)) = Fu at n0_ n1_ n2_ n3_ n4_ n5_ n6_ n7_ n8_ n9_ n10_ n11_ n12_ n13_ n14_ n15_ n16_ ⊢
 have Ac:=n0_;have Ad:=n1_;have Ae:=n2_;have Ab:=n3_;have Af:=n4_;have Ag:=n5_;have Ah:=n6_;have Bb:=n7_;have At:=n8_;have Au:=n9_;have Av:=n10_;have Ao:=n11_;have Aw:=n12_;have Ax:=n13_;have Ay:=n14_;have A8:=n15_;have HB:=n16_;clear n0_ n1_ n2_ n3_ n4_ n5_ n6_ n7_ n8_ n9_ n10_ n11_ n12_ n13_ n14_ n15_ n16_;have n0_:=A_ (Kd.R_drew Ac.1);have n1_:=A_ (Kd.R_drew Ad.1);have n2_:=A_ (Kd.R_drew Ae.1);have n3_:=A_ (Kd.R_drew Ab.1);have n4_:=A_ (Kd.R_drew Af.1);have n5_:=A_ (Kd.R_drew Ag.1);have n6_:=A_ (Kd.R_drew Ah.1);have n7_:=A_ (Kd.R_drew Bb.1);have n8_:=A_ (blk_drew At.1);have n9_:=A_ (blk_drew Au.1);have n10_:=A_ (blk_drew Av.1);have n11_:=A_ (blk_drew Ao.1);have n12_:=A_ (blk_drew Aw.1);have n13_:=A_ (blk_drew Ax.1);have n14_:=A_ (blk_drew Ay.1);have n15_:=A_ (blk_drew A8.1);have n16_:=A_ (below_drew1 HB.1);clear Ac;clear Ad;clear Ae;clear Ab;clear Af;clear Ag;clear Ah;clear Bb;clear At;clear Au;clear Av;clear Ao;clear Aw;clear Ax;clear Ay;clear A8;clear HB;have Ac:=n0_;have Ad:=n1_;have Ae:=n2_;have Ab:=n3_;have Af:=n4_;have Ag:=n5_;have Ah:=n6_;have Bb:=n7_;have At:=n8_;have Au:=n9_;have Av:=n10_;have Ao:=n11_;have Aw:=n12_;have Ax:=n13_;have Ay:=n14_;have A8:=n15_;have HB:=n16_;clear n0_ n1_ n2_ n3_ n4_ n5_ n6_ n7_ n8_ n9_ n10_ n11_ n12_ n13_ n14_ n15_ n16_;have Dx : 0 ≤ (Aq : Int):=of_decide_eq_true (by first|(with_reducible assumption)|assumption);have Dy : Aq < (Az.length : Int):=of_decide_eq_true (by first|(with_reducible assumption)|assumption);obtain ⟨I0,Fv,Cr⟩:=Kd.at_int (Kd.R_reads' Bb.1).2.2 Aq Dx Dy;cases Fv
 replace Dx:=eq_true Dx;replace Dy:=eq_true Dy;have Dz : 0 ≤ (Aq : Int):=of_decide_eq_true (by first|(with_reducible assumption)|assumption);have D0 : (Aq : Int) < ((Az.length : Int) : Int):=of_decide_eq_true (by first|(with_reducible assumption)|assumption);obtain ⟨Bc,I1,D3,D4,Ee,I2,D5⟩:=Kd.R_form Bb.1 (by omega);(first|cases D3|(injection D3 with ea_ en_ ec_;(first|subst ea_|(injection ea_ with ea_;subst ea_));subst ec_;clear en_))
 have Ef:=A_ D4;have Eg:=A_ D5;clear D4 Ee D5;(first|simp only [add_plain] at Cr|skip)
 obtain ⟨D7,D8⟩:=Kd.R_celln 0 Bb.1 (Aq : Int) Dz D0;replace Dz:=eq_true Dz;replace D0:=eq_true D0;have Cz:=Kd.R_putn Bb.1 (Aq : Int) (wrap64 ((rd Az Aq) - (Bi)));rw [← Ea.1] at Cz;have D6:=A_ Cz;clear Cz;refine start_ (n:=10) (S:=fun w'=>w'.cell? ⟨Ap,0,none⟩ = some (.int .i64 Bd) ∧ w'.cell? ⟨Ap,1,none⟩ = some (.slice (some ⟨Bc,0,none⟩) Az.length Ba) ∧ w'.cell? ⟨Bc,(Aq).toNat,none⟩ = some (.int .i64 (rd Az Aq))) (ds:=[9]) #[F,F,F,F,F,F,F,F,F,F] (by kernel_rfl) rfl rfl ⟨blk_cell A8.1 0,blk_cell A8.1 1,Cr⟩ (fun hHeld=>?_);refine with_tabW Aab.tab40 Aab.bits40 (fun HT_ HW_=>?_)
 generalize Fu.drew = Bx at Ac Ad Ae Ab Af Ag Ah Bb At Au Av Ao Aw Ax Ay A8 HB Eg D6 D8 D7 Cr hHeld ⊢
 refine pu_ (i:=0) (N:=169) #[T,F,F,F,F,F,F,F,F,F] HT_.1 rfl rfl (fun _ _ _ h=>h) rfl (h:=?_)
 refine pu_ (i:=2) (N:=171) #[T,F,T,F,F,F,F,F,F,F] HT_.1 rfl rfl (fun _ _ _ h=>h) rfl (h:=?_)
 refine pu_ (i:=5) (N:=174) #[T,F,T,F,F,T,F,F,F,F] HT_.1 rfl rfl (fun _ _ _ h=>h) rfl (h:=?_)
 refine pu_ (i:=6) (N:=175) #[T,F,T,F,F,T,T,F,F,F] HT_.1 rfl rfl (fun _ _ _ h=>h) rfl (h:=?_)
 refine take_ (i:=1) (N:=some 170) (v:=?_) (a':=?_) #[T,T,T,F,F,T,T,F,F,F] rfl rfl (take_ofW HT_.1 HW_.1 (by kernel_rfl)) (fun _ _ _ h=>h) (Or.inl ⟨by rfl,?_⟩) hHeld ?_ ?_
 rotate_left
 ·rintro w' ⟨s0,s1,s2⟩
  go_simp
  with_reducible rfl
 rotate_left;·simp only [Act.put,L_,M_,N_,i64_w,i32_w];rfl
 refine pu_ (i:=3) (N:=172) #[T,T,T,T,F,T,T,F,F,F] HT_.1 rfl rfl (fun _ _ _ h=>h) rfl (h:=?_)
 refine take_ (i:=4) (N:=some 173) (v:=?_) (a':=?_) #[T,T,T,T,T,T,T,F,F,F] rfl rfl (take_ofW HT_.1 HW_.1 (by kernel_rfl)) (fun _ _ _ h=>h) (Or.inl ⟨by rfl,?_⟩) hHeld ?_ ?_
 rotate_left
 ·rintro w' ⟨s0,s1,s2⟩
  go_simp
  with_reducible rfl
 rotate_left;·simp only [Act.put,L_,M_,N_,i64_w,i32_w];rfl
 refine pu_ (i:=7) (N:=176) #[T,T,T,T,T,T,T,T,F,F] HT_.1 rfl rfl (fun _ _ _ h=>h) rfl (h:=?_)
 refine pu_ (i:=8) (N:=177) #[T,T,T,T,T,T,T,T,T,F] HT_.1 rfl rfl (fun _ _ _ h=>h) rfl (h:=?_)
 refine last_ (i:=9) (N:=none) #[T,T,T,T,T,T,T,T,T,T] rfl rfl (one_of HT_.1 (by kernel_rfl)) (by decide) (fun K hK=>?_)
 refine skip_ (w1:=?_) (by rfl) rfl ?_ ?_
 rotate_left
 ·go_simp
  rfl
 refine hK.out _ _ ?_
 clear hK K;refine done_ (done_of HT_.1 (by kernel_rfl)) ?_
 have n0_ : Aside0 (Kd.R (Kd.int .i64) 3 (Bx.setCell ⟨Bc,(Aq : Int).toNat,none⟩ (.int .i64 (wrap64 ((rd Az Aq) - (Bi))))) w.heap.size (fun k_=>some k_ ≠ (Aj : Value).ownBlock ∧ some k_ ≠ (Ak : Value).ownBlock ∧ some k_ ≠ (.slice (some As) Aa.length Ar : Value).ownBlock ∧ some k_ ≠ (Al : Value).ownBlock ∧ some k_ ≠ (Am : Value).ownBlock ∧ some k_ ≠ (An : Value).ownBlock ∧ some k_ ≠ (.slice (some ⟨Bc,0,none⟩) Az.length Ba : Value).ownBlock) Ai Ca):=⟨rq_ (Kd.R_mono (Kd.R_far (p:=⟨Bc,(Aq : Int).toNat,none⟩) (Kd.R_mono Ac.1 (fun k_ hk=>(⟨hk,fun e_=>hk.2.2.2.2.2.2 (by rw [e_];rfl)⟩ : _ ∧ k_ ≠ Bc))) (fun _ hk=>hk.2) (.int .i64 (wrap64 ((rd Az Aq) - (Bi))))) (fun _ hk=>⟨hk.1.1,⟨hk.1.2.1,⟨hk.1.2.2.1,⟨hk.1.2.2.2.1,⟨hk.1.2.2.2.2.1,⟨hk.1.2.2.2.2.2.1,hk.1.2.2.2.2.2.2⟩⟩⟩⟩⟩⟩))⟩;have n1_ : Aside0 (Kd.R (Kd.int .i64) 3 (Bx.setCell ⟨Bc,(Aq : Int).toNat,none⟩ (.int .i64 (wrap64 ((rd Az Aq) - (Bi))))) w.heap.size (fun k_=>some k_ ≠ (Ai : Value).ownBlock ∧ some k_ ≠ (Ak : Value).ownBlock ∧ some k_ ≠ (.slice (some As) Aa.length Ar : Value).ownBlock ∧ some k_ ≠ (Al : Value).ownBlock ∧ some k_ ≠ (Am : Value).ownBlock ∧ some k_ ≠ (An : Value).ownBlock ∧ some k_ ≠ (.slice (some ⟨Bc,0,none⟩) Az.length Ba : Value).ownBlock) Aj Cb):=⟨rq_ (Kd.R_mono (Kd.R_far (p:=⟨Bc,(Aq : Int).toNat,none⟩) (Kd.R_mono Ad.1 (fun k_ hk=>(⟨hk,fun e_=>hk.2.2.2.2.2.2 (by rw [e_];rfl)⟩ : _ ∧ k_ ≠ Bc))) (fun _ hk=>hk.2) (.int .i64 (wrap64 ((rd Az Aq) - (Bi))))) (fun _ hk=>⟨hk.1.1,⟨hk.1.2.1,⟨hk.1.2.2.1,⟨hk.1.2.2.2.1,⟨hk.1.2.2.2.2.1,⟨hk.1.2.2.2.2.2.1,hk.1.2.2.2.2.2.2⟩⟩⟩⟩⟩⟩))⟩;have n2_ : Aside0 (Kd.R (Kd.int .i64) 3 (Bx.setCell ⟨Bc,(Aq : Int).toNat,none⟩ (.int .i64 (wrap64 ((rd Az Aq) - (Bi))))) w.heap.size (fun k_=>some k_ ≠ (Ai : Value).ownBlock ∧ some k_ ≠ (Aj : Value).ownBlock ∧ some k_ ≠ (.slice (some As) Aa.length Ar : Value).ownBlock ∧ some k_ ≠ (Al : Value).ownBlock ∧ some k_ ≠ (Am : Value).ownBlock ∧ some k_ ≠ (An : Value).ownBlock ∧ some k_ ≠ (.slice (some ⟨Bc,0,none⟩) Az.length Ba : Value).ownBlock) Ak Cc):=⟨rq_ (Kd.R_mono (Kd.R_far (p:=⟨Bc,(Aq : Int).toNat,none⟩) (Kd.R_mono Ae.1 (fun k_ hk=>(⟨hk,fun e_=>hk.2.2.2.2.2.2 (by rw [e_];rfl)⟩ : _ ∧ k_ ≠ Bc))) (fun _ hk=>hk.2) (.int .i64 (wrap64 ((rd Az Aq) - (Bi))))) (fun _ hk=>⟨hk.1.1,⟨hk.1.2.1,⟨hk.1.2.2.1,⟨hk.1.2.2.2.1,⟨hk.1.2.2.2.2.1,⟨hk.1.2.2.2.2.2.1,hk.1.2.2.2.2.2.2⟩⟩⟩⟩⟩⟩))⟩;have n3_ : Aside0 (Kd.R (Kd.int .i64) 3 (Bx.setCell ⟨Bc,(Aq : Int).toNat,none⟩ (.int .i64 (wrap64 ((rd Az Aq) - (Bi))))) w.heap.size (fun k_=>some k_ ≠ (Ai : Value).ownBlock ∧ some k_ ≠ (Aj : Value).ownBlock ∧ some k_ ≠ (Ak : Value).ownBlock ∧ some k_ ≠ (Al : Value).ownBlock ∧ some k_ ≠ (Am : Value).ownBlock ∧ some k_ ≠ (An : Value).ownBlock ∧ some k_ ≠ (.slice (some ⟨Bc,0,none⟩) Az.length Ba : Value).ownBlock) (.slice (some As) Aa.length Ar) Aa):=⟨rq_ (Kd.R_mono (Kd.R_far (p:=⟨Bc,(Aq : Int).toNat,none⟩) (Kd.R_mono Ab.1 (fun k_ hk=>(⟨hk,fun e_=>hk.2.2.2.2.2.2 (by rw [e_];rfl)⟩ : _ ∧ k_ ≠ Bc))) (fun _ hk=>hk.2) (.int .i64 (wrap64 ((rd Az Aq) - (Bi))))) (fun _ hk=>⟨hk.1.1,⟨hk.1.2.1,⟨hk.1.2.2.1,⟨hk.1.2.2.2.1,⟨hk.1.2.2.2.2.1,⟨hk.1.2.2.2.2.2.1,hk.1.2.2.2.2.2.2⟩⟩⟩⟩⟩⟩))⟩;have n4_ : Aside0 (Kd.R (Kd.int .i64) 3 (Bx.setCell ⟨Bc,(Aq : Int).toNat,none⟩ (.int .i64 (wrap64 ((rd Az Aq) - (Bi))))) w.heap.size (fun k_=>some k_ ≠ (Ai : Value).ownBlock ∧ some k_ ≠ (Aj : Value).ownBlock ∧ some k_ ≠ (Ak : Value).ownBlock ∧ some k_ ≠ (.slice (some As) Aa.length Ar : Value).ownBlock ∧ some k_ ≠ (Am : Value).ownBlock ∧ some k_ ≠ (An : Value).ownBlock ∧ some k_ ≠ (.slice (some ⟨Bc,0,none⟩) Az.length Ba : Value).ownBlock) Al Cd):=⟨rq_ (Kd.R_mono (Kd.R_far (p:=⟨Bc,(Aq : Int).toNat,none⟩) (Kd.R_mono Af.1 (fun k_ hk=>(⟨hk,fun e_=>hk.2.2.2.2.2.2 (by rw [e_];rfl)⟩ : _ ∧ k_ ≠ Bc))) (fun _ hk=>hk.2) (.int .i64 (wrap64 ((rd Az Aq) - (Bi))))) (fun _ hk=>⟨hk.1.1,⟨hk.1.2.1,⟨hk.1.2.2.1,⟨hk.1.2.2.2.1,⟨hk.1.2.2.2.2.1,⟨hk.1.2.2.2.2.2.1,hk.1.2.2.2.2.2.2⟩⟩⟩⟩⟩⟩))⟩;have n5_ : Aside0 (Kd.R (Kd.int .i64) 3 (Bx.setCell ⟨Bc,(Aq : Int).toNat,none⟩ (.int .i64 (wrap64 ((rd Az Aq) - (Bi))))) w.heap.size (fun k_=>some k_ ≠ (Ai : Value).ownBlock ∧ some k_ ≠ (Aj : Value).ownBlock ∧ some k_ ≠ (Ak : Value).ownBlock ∧ some k_ ≠ (.slice (some As) Aa.length Ar : Value).ownBlock ∧ some k_ ≠ (Al : Value).ownBlock ∧ some k_ ≠ (An : Value).ownBlock ∧ some k_ ≠ (.slice (some ⟨Bc,0,none⟩) Az.length Ba : Value).ownBlock) Am Ce):=⟨rq_ (Kd.R_mono (Kd.R_far (p:=⟨Bc,(Aq : Int).toNat,none⟩) (Kd.R_mono Ag.1 (fun k_ hk=>(⟨hk,fun e_=>hk.2.2.2.2.2.2 (by rw [e_];rfl)⟩ : _ ∧ k_ ≠ Bc))) (fun _ hk=>hk.2) (.int .i64 (wrap64 ((rd Az Aq) - (Bi))))) (fun _ hk=>⟨hk.1.1,⟨hk.1.2.1,⟨hk.1.2.2.1,⟨hk.1.2.2.2.1,⟨hk.1.2.2.2.2.1,⟨hk.1.2.2.2.2.2.1,hk.1.2.2.2.2.2.2⟩⟩⟩⟩⟩⟩))⟩;have n6_ : Aside0 (Kd.R (Kd.int .i64) 3 (Bx.setCell ⟨Bc,(Aq : Int).toNat,none⟩ (.int .i64 (wrap64 ((rd Az Aq) - (Bi))))) w.heap.size (fun k_=>some k_ ≠ (Ai : Value).ownBlock ∧ some k_ ≠ (Aj : Value).ownBlock ∧ some k_ ≠ (Ak : Value).ownBlock ∧ some k_ ≠ (.slice (some As) Aa.length Ar : Value).ownBlock ∧ some k_ ≠ (Al : Value).ownBlock ∧ some k_ ≠ (Am : Value).ownBlock ∧ some k_ ≠ (.slice (some ⟨Bc,0,none⟩) Az.length Ba : Value).ownBlock) An Cf):=⟨rq_ (Kd.R_mono (Kd.R_far (p:=⟨Bc,(Aq : Int).toNat,none⟩) (Kd.R_mono Ah.1 (fun k_ hk=>(⟨hk,fun e_=>hk.2.2.2.2.2.2 (by rw [e_];rfl)⟩ : _ ∧ k_ ≠ Bc))) (fun _ hk=>hk.2) (.int .i64 (wrap64 ((rd Az Aq) - (Bi))))) (fun _ hk=>⟨hk.1.1,⟨hk.1.2.1,⟨hk.1.2.2.1,⟨hk.1.2.2.2.1,⟨hk.1.2.2.2.2.1,⟨hk.1.2.2.2.2.2.1,hk.1.2.2.2.2.2.2⟩⟩⟩⟩⟩⟩))⟩;have n7_ : Aside0 (Kd.R (Kd.int .i64) 3 (Bx.setCell ⟨Bc,(Aq : Int).toNat,none⟩ (.int .i64 (wrap64 ((rd Az Aq) - (Bi))))) w.heap.size (fun k_=>some k_ ≠ (Ai : Value).ownBlock ∧ some k_ ≠ (Aj : Value).ownBlock ∧ some k_ ≠ (Ak : Value).ownBlock ∧ some k_ ≠ (.slice (some As) Aa.length Ar : Value).ownBlock ∧ some k_ ≠ (Al : Value).ownBlock ∧ some k_ ≠ (Am : Value).ownBlock ∧ some k_ ≠ (An : Value).ownBlock) (.slice (some ⟨Bc,0,none⟩) Az.length Ba) Cv):=⟨rl_ D6⟩;have n8_ : Aside0 ((Bx.setCell ⟨Bc,(Aq : Int).toNat,none⟩ (.int .i64 (wrap64 ((rd Az Aq) - (Bi))))).heap[Bz]? = some (.cells #[.int .i64 Ch,Ai] 26 (0,0))):=⟨by (with_reducible repeat (first|refine blk_drewN ?_ _|refine blk_drew ?_|refine blk_alloc ?_ _));refine blk_far ?_ (by have h_:=Kd.R_ne Bb.1 At.1 (by decide);intro e_;exact h_ (by rw [e_];rfl)) _;(with_reducible repeat (first|refine blk_drewN ?_ _|refine blk_drew ?_|refine blk_alloc ?_ _));exact At.1⟩;have n9_ : Aside0 ((Bx.setCell ⟨Bc,(Aq : Int).toNat,none⟩ (.int .i64 (wrap64 ((rd Az Aq) - (Bi))))).heap[B0]? = some (.cells #[.int .i64 Ci,Aj] 26 (0,0))):=⟨by (with_reducible repeat (first|refine blk_drewN ?_ _|refine blk_drew ?_|refine blk_alloc ?_ _));refine blk_far ?_ (by have h_:=Kd.R_ne Bb.1 Au.1 (by decide);intro e_;exact h_ (by rw [e_];rfl)) _;(with_reducible repeat (first|refine blk_drewN ?_ _|refine blk_drew ?_|refine blk_alloc ?_ _));exact Au.1⟩;have n10_ : Aside0 ((Bx.setCell ⟨Bc,(Aq : Int).toNat,none⟩ (.int .i64 (wrap64 ((rd Az Aq) - (Bi))))).heap[B2]? = some (.cells #[.int .i64 Cj,Ak] 26 (0,0))):=⟨by (with_reducible repeat (first|refine blk_drewN ?_ _|refine blk_drew ?_|refine blk_alloc ?_ _));refine blk_far ?_ (by have h_:=Kd.R_ne Bb.1 Av.1 (by decide);intro e_;exact h_ (by rw [e_];rfl)) _;(with_reducible repeat (first|refine blk_drewN ?_ _|refine blk_drew ?_|refine blk_alloc ?_ _));exact Av.1⟩;have n11_ : Aside0 ((Bx.setCell ⟨Bc,(Aq : Int).toNat,none⟩ (.int .i64 (wrap64 ((rd Az Aq) - (Bi))))).heap[Bp]? = some (.cells #[.int .i64 Bd,.slice (some As) Aa.length Ar] 26 (0,0))):=⟨by (with_reducible repeat (first|refine blk_drewN ?_ _|refine blk_drew ?_|refine blk_alloc ?_ _));refine blk_far ?_ (by have h_:=Kd.R_ne Bb.1 Ao.1 (by decide);intro e_;exact h_ (by rw [e_];rfl)) _;(with_reducible repeat (first|refine blk_drewN ?_ _|refine blk_drew ?_|refine blk_alloc ?_ _));exact Ao.1⟩;have n12_ : Aside0 ((Bx.setCell ⟨Bc,(Aq : Int).toNat,none⟩ (.int .i64 (wrap64 ((rd Az Aq) - (Bi))))).heap[B4]? = some (.cells #[.int .i64 Ck,Al] 26 (0,0))):=⟨by (with_reducible repeat (first|refine blk_drewN ?_ _|refine blk_drew ?_|refine blk_alloc ?_ _));refine blk_far ?_ (by have h_:=Kd.R_ne Bb.1 Aw.1 (by decide);intro e_;exact h_ (by rw [e_];rfl)) _;(with_reducible repeat (first|refine blk_drewN ?_ _|refine blk_drew ?_|refine blk_alloc ?_ _));exact Aw.1⟩;have n13_ : Aside0 ((Bx.setCell ⟨Bc,(Aq : Int).toNat,none⟩ (.int .i64 (wrap64 ((rd Az Aq) - (Bi))))).heap[B5]? = some (.cells #[.int .i64 Cl,Am] 26 (0,0))):=⟨by (with_reducible repeat (first|refine blk_drewN ?_ _|refine blk_drew ?_|refine blk_alloc ?_ _));refine blk_far ?_ (by have h_:=Kd.R_ne Bb.1 Ax.1 (by decide);intro e_;exact h_ (by rw [e_];rfl)) _;(with_reducible repeat (first|refine blk_drewN ?_ _|refine blk_drew ?_|refine blk_alloc ?_ _));exact Ax.1⟩;have n14_ : Aside0 ((Bx.setCell ⟨Bc,(Aq : Int).toNat,none⟩ (.int .i64 (wrap64 ((rd Az Aq) - (Bi))))).heap[B6]? = some (.cells #[.int .i64 Cm,An] 26 (0,0))):=⟨by (with_reducible repeat (first|refine blk_drewN ?_ _|refine blk_drew ?_|refine blk_alloc ?_ _));refine blk_far ?_ (by have h_:=Kd.R_ne Bb.1 Ay.1 (by decide);intro e_;exact h_ (by rw [e_];rfl)) _;(with_reducible repeat (first|refine blk_drewN ?_ _|refine blk_drew ?_|refine blk_alloc ?_ _));exact Ay.1⟩;have n15_ : Aside0 ((Bx.setCell ⟨Bc,(Aq : Int).toNat,none⟩ (.int .i64 (wrap64 ((rd Az Aq) - (Bi))))).heap[Ap]? = some (.cells #[.int .i64 Bd,.slice (some ⟨Bc,0,none⟩) Az.length Ba] 26 (0,0))):=⟨by (with_reducible repeat (first|refine blk_drewN ?_ _|refine blk_drew ?_|refine blk_alloc ?_ _));refine blk_far ?_ (by have h_:=Kd.R_ne Bb.1 A8.1 (by decide);intro e_;exact h_ (by rw [e_];rfl)) _;(with_reducible repeat (first|refine blk_drewN ?_ _|refine blk_drew ?_|refine blk_alloc ?_ _));exact A8.1⟩;have n16_ : Aside0 (Below w.heap.size w (Bx.setCell ⟨Bc,(Aq : Int).toNat,none⟩ (.int .i64 (wrap64 ((rd Az Aq) - (Bi)))))):=⟨by repeat (first|(with_reducible first|exact HB.1|apply below_alloc|apply pw_below_drewN|apply below_drew1|refine below_set ?_ Ef.1|refine below_set ?_ (Aside0.out (by assumption)))|exact HB.1)⟩;(try clear Ac);(try clear Ad);(try clear Ae);(try clear Ab);(try clear Af);(try clear Ag);(try clear Ah);(try clear Bb);(try clear At);(try clear Au);(try clear Av);(try clear Ao);(try clear Aw);(try clear Ax);(try clear Ay);(try clear A8);(try clear HB);generalize (Bx.setCell ⟨Bc,(Aq : Int).toNat,none⟩ (.int .i64 (wrap64 ((rd Az Aq) - (Bi))))) = Me at n0_ n1_ n2_ n3_ n4_ n5_ n6_ n7_ n8_ n9_ n10_ n11_ n12_ n13_ n14_ n15_ n16_ ⊢
 have Ac:=n0_;have Ad:=n1_;have Ae:=n2_;have Ab:=n3_;have Af:=n4_;have Ag:=n5_;have Ah:=n6_;have Bb:=n7_;have At:=n8_;have Au:=n9_;have Av:=n10_;have Ao:=n11_;have Aw:=n12_;have Ax:=n13_;have Ay:=n14_;have A8:=n15_;have HB:=n16_;clear n0_ n1_ n2_ n3_ n4_ n5_ n6_ n7_ n8_ n9_ n10_ n11_ n12_ n13_ n14_ n15_ n16_;have Z:=Bq.1;have Z:=Bj.1;have Z:=Br.1;have Z:=Bk.1;have Z:=Bs.1;have Z:=Bl.1;have Z:=Bt.1;have Z:=Bh.1;have Z:=Bu.1;have Z:=Bm.1;have Z:=Bv.1;have Z:=Bn.1;have Z:=Bw.1;have Z:=Bo.1;obtain ⟨Z,Z,Z,Z⟩:=o2_ A8.1;try go_wp2_with (first|((with_reducible refine gate_callee (f:=11) rfl ?_);refine goesL_ (some 180) rfl rfl Tryd.func11 (by kernel_rfl) rfl #[.agg #[.int .i64 Bd,.slice (some ⟨Bc,0,none⟩) Cv.length Ba]] rfl (by (try simp only [P_,Q_,R_]);first|done|(rw [show Cv.length = Az.length from (Kd.R_reads' Bb.1).1.symm] <;> rfl)|rfl|(simp only [S_,U_];rfl)) ?_;(with_reducible refine (Aal.calls k7 Bd _ _ Cv Fn Fo false _ ?side1 ?side2 Fp.1).mono ?_);(case side1=>exact cl_ (Kd.R_reads' Bb.1).2.2);(case side2=>rw [show Cv.length = Az.length from (Kd.R_reads' Bb.1).1.symm];exact (Kd.R_reads' Bb.1).2.1);rintro e Mf ⟨Mg,rfl,ho0,hb⟩;refine ⟨_,rfl,?_⟩;have n0_:=A_ (Kd.R_elder' (rl_ Ac) (Kd.R_base ho0) hb);have n1_:=A_ (Kd.R_elder' (rl_ Ad) (Kd.R_base ho0) hb);have n2_:=A_ (Kd.R_elder' (rl_ Ae) (Kd.R_base ho0) hb);have n3_:=A_ (Kd.R_elder' (rl_ Ab) (Kd.R_base ho0) hb);have n4_:=A_ (Kd.R_elder' (rl_ Af) (Kd.R_base ho0) hb);have n5_:=A_ (Kd.R_elder' (rl_ Ag) (Kd.R_base ho0) hb);have n6_:=A_ (Kd.R_elder' (rl_ Ah) (Kd.R_base ho0) hb);have n7_:=A_ (Kd.R_elder' (rl_ Bb) (Kd.R_base ho0) hb);have n8_:=A_ (Kd.R_lower (Kd.R_new' (Kd.R_new' (Kd.R_new' (Kd.R_new' (Kd.R_new' (Kd.R_new' (Kd.R_new' (Kd.R_new' ho0 (Kd.R_lt (rl_ Ac))) (Kd.R_lt (rl_ Ad))) (Kd.R_lt (rl_ Ae))) (Kd.R_lt (rl_ Ab))) (Kd.R_lt (rl_ Af))) (Kd.R_lt (rl_ Ag))) (Kd.R_lt (rl_ Ah))) (Kd.R_lt (rl_ Bb))) (below_size bb_));have n9_:=bz At hb;have n10_:=bz Au hb;have n11_:=bz Av hb;have n12_:=bz Ao hb;have n13_:=bz Aw hb;have n14_:=bz Ax hb;have n15_:=bz Ay hb;have n16_:=bz A8 hb;have n17_:=A_ (below_step bb_ hb);clear Ac;clear Ad;clear Ae;clear Ab;clear Af;clear Ag;clear Ah;clear Bb;clear At;clear Au;clear Av;clear Ao;clear Aw;clear Ax;clear Ay;clear A8;clear HB;have Ac:=n0_;have Ad:=n1_;have Ae:=n2_;have Ab:=n3_;have Af:=n4_;have Ag:=n5_;have Ah:=n6_;have Bb:=n7_;have Ct:=n8_;have At:=n9_;have Au:=n10_;have Av:=n11_;have Ao:=n12_;have Aw:=n13_;have Ax:=n14_;have Ay:=n15_;have A8:=n16_;have HB:=n17_;clear n0_ n1_ n2_ n3_ n4_ n5_ n6_ n7_ n8_ n9_ n10_ n11_ n12_ n13_ n14_ n15_ n16_ n17_;(try clear hb);(try clear hb2);(try clear hk);(try clear hi);(try clear ho0))|((with_reducible refine gate_dst (N:=24) rfl ?_);refine box_event ?hg (N:=24) ?hd (cs:=#[.int .i64 0,.slice none 0 0]) (t:=26) ?hr ?_;(case hd=>rfl);(case hg=>rfl);(case hr=>go_simp;try rfl);intro I3 hg Mh hbox hb;have n0_:=rb_ Ac hb;have n1_:=rb_ Ad hb;have n2_:=rb_ Ae hb;have n3_:=rb_ Ab hb;have n4_:=rb_ Af hb;have n5_:=rb_ Ag hb;have n6_:=rb_ Ah hb;have n7_:=rb_ Bb hb;have n8_:=rb_ Ct hb;have n9_:=bz At hb;have n10_:=bz Au hb;have n11_:=bz Av hb;have n12_:=bz Ao hb;have n13_:=bz Aw hb;have n14_:=bz Ax hb;have n15_:=bz Ay hb;have n16_:=bz A8 hb;have n17_:=A_ (below_step bb_ hb);have n18_:=A_ (hbox);have n19_:=A_ (gw_ (w:=w) hg bb_);have n20_:=A_ (gw_ (w:=w) hg bb_);have n21_:=A_ (nl_ hg At);have n22_:=A_ (ng_ hg At);have n23_:=A_ (nl_ hg Au);have n24_:=A_ (ng_ hg Au);have n25_:=A_ (nl_ hg Av);have n26_:=A_ (ng_ hg Av);have n27_:=A_ (nl_ hg Ao);have n28_:=A_ (ng_ hg Ao);have n29_:=A_ (nl_ hg Aw);have n30_:=A_ (ng_ hg Aw);have n31_:=A_ (nl_ hg Ax);have n32_:=A_ (ng_ hg Ax);have n33_:=A_ (nl_ hg Ay);have n34_:=A_ (ng_ hg Ay);have n35_:=A_ (nl_ hg A8);have n36_:=A_ (ng_ hg A8);clear Ac;clear Ad;clear Ae;clear Ab;clear Af;clear Ag;clear Ah;clear Bb;clear Ct;clear At;clear Au;clear Av;clear Ao;clear Aw;clear Ax;clear Ay;clear A8;clear HB;have Ac:=n0_;have Ad:=n1_;have Ae:=n2_;have Ab:=n3_;have Af:=n4_;have Ag:=n5_;have Ah:=n6_;have Bb:=n7_;have Ct:=n8_;have At:=n9_;have Au:=n10_;have Av:=n11_;have Ao:=n12_;have Aw:=n13_;have Ax:=n14_;have Ay:=n15_;have A8:=n16_;have HB:=n17_;have Eh:=n18_;have I4:=n19_;have I5:=n20_;have Dd:=n21_;have De:=n22_;have Df:=n23_;have Dg:=n24_;have Dh:=n25_;have Di:=n26_;have Dj:=n27_;have Dk:=n28_;have Dl:=n29_;have Dm:=n30_;have Dn:=n31_;have Do:=n32_;have Dp:=n33_;have Dq:=n34_;have Dr:=n35_;have Ds:=n36_;clear n0_ n1_ n2_ n3_ n4_ n5_ n6_ n7_ n8_ n9_ n10_ n11_ n12_ n13_ n14_ n15_ n16_ n17_ n18_ n19_ n20_ n21_ n22_ n23_ n24_ n25_ n26_ n27_ n28_ n29_ n30_ n31_ n32_ n33_ n34_ n35_ n36_;clear hb hbox hg;have Z:=De.1;have Z:=Dd.1;have Z:=Dg.1;have Z:=Df.1;have Z:=Di.1;have Z:=Dh.1;have Z:=Dk.1;have Z:=Dj.1;have Z:=Dm.1;have Z:=Dl.1;have Z:=Do.1;have Z:=Dn.1;have Z:=Dq.1;have Z:=Dp.1;have Z:=Ds.1;have Z:=Dr.1;obtain ⟨Z,Z,Z,Z⟩:=o2_ Eh.1;obtain ⟨I6,I7,Ei⟩:=Kd.R_slice Ct.1;subst Ei))
 go_ret
 exact ⟨by first|rfl|(simp [errW_none,errW_some] <;> rfl)|(simp only [← D9];first|rfl|(simp [errW_none,errW_some] <;> rfl))|(simp [*,errW_none,errW_some] <;> rfl),bb_⟩
theorem Aab.calls.rest1.rest1 :
 Aab.calls.rest1.part.1 :=
 Aab.calls.rest1.rest1.part.2.2.2 (fun _=>Aab.calls.rest1.rest1.rest1) (fun _=>Aab.calls.rest1.rest1.rest2) (fun _=>Aab.calls.rest1.rest1.rest3)
theorem Aab.calls.rest1 :
 Aab.calls.part.1 :=
 Aab.calls.rest1.part.2 (fun _=>Aab.calls.rest1.rest1)
end Go.Proofs.YtfjpilcmjabikaaDoor.P
namespace Go.Proofs.YtfjpilcmjabikaaDoor.P
open Go.RowKit Go.Proofs.YtfjpilcmjabikaaDoorW.PrintWords Go.Proofs.YtfjpilcmjabikaaDoorW.PrintLast Go.Proofs.YtfjpilcmjabikaaDoorW.PrintMore
open Bool renaming true → T, false → F
open List renaming setIfInBounds_toArray → L_, set_cons_zero → M_, set_cons_succ → N_, map_toArray → P_, map_cons → Q_, map_nil → R_, length_drop → S_, length_take → U_
open Aside0 renaming mk → A_
attribute [local go_sem] max2_int min2_int max_two min_two max_three min_three max_four min_four
set_option linter.unusedVariables false
set_option linter.unusedSimpArgs false
attribute [local go_sem] fldOrder_0 fldOrder_1
theorem Aab.calls (k : Nat) (A0 : Option Addr) (c0 : Nat) (l0 : List Int) (A1 : Option Addr) (c1 : Nat) (l1 : List Int) (r : Bool) (w : World) (hr0 : Kd.C (Kd.int .u8) w A0 l0.length l0) (hc0 : l0.length ≤ c0) (hr1 : Kd.C (Kd.int .u8) w A1 l1.length l1) (hc1 : l1.length ≤ c1) (hT : TabOK w) (h : Aab.f k l0 l1 = some r) :
 Calls Tryd.prog 3 #[.slice A0 l0.length c0,.slice A1 l1.length c1] w fun e w'=>e = .returned (.bool r) ∧ Below w.heap.size w w' :=
 Aab.calls.part.2 (fun _=>Aab.calls.rest1) k A0 c0 l0 A1 c1 l1 r w hr0 hc0 hr1 hc1 hT h
def Aab.Pure : Prop := ∀ (l0 : List Int) (l1 : List Int), l0.length ≤ maxLen → l0.length * 1 ≤ 140737488351232 → (∀ x ∈ l0, (Lit.int .u8 x).wf = true) → l1.length ≤ maxLen → l1.length * 1 ≤ 140737488351232 → (∀ x ∈ l1, (Lit.int .u8 x).wf = true) → ∃ k, Aab.f k l0 l1 = some true
theorem Aab.walk (P : Aab.Pure) (a0 : Option Addr) (len0 cap0 : Nat) (z0 : List Int) (a1 : Option Addr) (len1 cap1 : Nat) (z1 : List Int) (w : World) (w0 : (a0 = none ∧ len0 = 0 ∧ cap0 = 0 ∧ z0 = []) ∨ ∃ x,a0 = some x ∧ len0 ≤ cap0 ∧ cap0 ≤ maxLen ∧ z0.length = cap0 ∧ (∀ i,i < z0.length → w.cell? (x.add i) = some (.int .u8 (z0.getD i 0))) ∧ ∀ n ∈ z0,(Lit.int .u8 n).wf = true) (y0 : len0 * 1 ≤ 140737488351232) (w1 : (a1 = none ∧ len1 = 0 ∧ cap1 = 0 ∧ z1 = []) ∨ ∃ x,a1 = some x ∧ len1 ≤ cap1 ∧ cap1 ≤ maxLen ∧ z1.length = cap1 ∧ (∀ i,i < z1.length → w.cell? (x.add i) = some (.int .u8 (z1.getD i 0))) ∧ ∀ n ∈ z1,(Lit.int .u8 n).wf = true) (y1 : len1 * 1 ≤ 140737488351232) (hT : TabOK w) :
 Calls Tryd.prog 3 #[.slice a0 len0 cap0,.slice a1 len1 cap1] w fun e w'=>e = .returned (.bool true) ∧ Below w.heap.size w w':=by
 obtain ⟨l0,rfl,hr0,hm0,hw0,hc0⟩:=ReadsInt.ofRowC w0;obtain ⟨l1,rfl,hr1,hm1,hw1,hc1⟩:=ReadsInt.ofRowC w1;obtain ⟨k,h⟩:=P l0 l1 hm0 y0 hw0 hm1 y1 hw1;refine (Aab.calls k _ _ l0 _ _ l1 true w (Kd.C_of_reads (d:=(0 : Int)) (h1:=fun _=>rfl) hr0) hc0 (Kd.C_of_reads (d:=(0 : Int)) (h1:=fun _=>rfl) hr1) hc1 hT h).mono ?_
 rintro e w' ⟨rfl,hd⟩
 exact ⟨rfl,hd⟩
end Go.Proofs.YtfjpilcmjabikaaDoor.P
namespace Go.Proofs.YtfjpilcmjabikaaDoor.M
open Go.RowKit Go.Proofs.YtfjpilcmjabikaaDoorW.PrintMore Go.Proofs.YtfjpilcmjabikaaDoorW.PrintLast Go.Proofs.YtfjpilcmjabikaaDoorW.PrintWords
theorem i64_small (n : Nat) (h : n < 9223372036854775808) : IntKind.i64.wrap (n : Int) = (n : Int) := by
  simp [IntKind.wrap, IntKind.signed, IntKind.bits]
  omega
theorem wrap64_id (x : Int) (h0 : -9223372036854775808 ≤ x) (h1 : x ≤ 9223372036854775807) : wrap64 x = x := by
  unfold wrap64
  omega
theorem ofInt64 (a : Nat) (ha : a < 18446744073709551616) : (BitVec.ofInt 64 (a : Int)).toNat = a := by
  rw [BitVec.ofInt_natCast, BitVec.toNat_ofNat]; exact Nat.mod_eq_of_lt (by omega)
theorem and_i64 (a b : Nat) (ha : a < 9223372036854775808) (hb : b < 9223372036854775808) : Go.bits .and .i64 (a : Int) (b : Int) = ((a &&& b : Nat) : Int) := by
  have hx : a &&& b < 2 ^ 63 := Nat.and_lt_two_pow _ (by omega)
  show IntKind.i64.wrap ((BitVec.ofInt 64 (a : Int) &&& BitVec.ofInt 64 (b : Int)).toNat : Int) = _
  rw [BitVec.toNat_and, ofInt64 a (by omega), ofInt64 b (by omega), i64_small _ (by omega)]
theorem or_i64 (a b : Nat) (ha : a < 9223372036854775808) (hb : b < 9223372036854775808) : Go.bits .or .i64 (a : Int) (b : Int) = ((a ||| b : Nat) : Int) := by
  have hx : a ||| b < 2 ^ 63 := Nat.or_lt_two_pow (by omega) (by omega)
  show IntKind.i64.wrap ((BitVec.ofInt 64 (a : Int) ||| BitVec.ofInt 64 (b : Int)).toNat : Int) = _
  rw [BitVec.toNat_or, ofInt64 a (by omega), ofInt64 b (by omega), i64_small _ (by omega)]
def diff (a b : Nat) : Nat := a &&& (a ^^^ b)
theorem testBit_diff (a b i : Nat) : (diff a b).testBit i = (a.testBit i && !b.testBit i) := by
  unfold diff
  rw [Nat.testBit_and, Nat.testBit_xor]
  cases a.testBit i <;> cases b.testBit i <;> rfl
theorem andNot_i64 (a b : Nat) (ha : a < 9223372036854775808) (hb : b < 9223372036854775808) : Go.bits .andNot .i64 (a : Int) (b : Int) = ((diff a b : Nat) : Int) := by
  have hx : diff a b < 2 ^ 63 := Nat.lt_of_le_of_lt Nat.and_le_left (by omega)
  show IntKind.i64.wrap ((BitVec.ofInt 64 (a : Int) &&& ~~~ BitVec.ofInt 64 (b : Int)).toNat : Int) = _
  have e : (BitVec.ofInt 64 (a : Int) &&& ~~~ BitVec.ofInt 64 (b : Int)).toNat = diff a b := by
    apply Nat.eq_of_testBit_eq
    intro i
    rw [BitVec.toNat_and, Nat.testBit_and, testBit_diff, ofInt64 a (by omega)]
    by_cases hi : i < 64
    · rw [show (~~~ BitVec.ofInt 64 (b : Int)).toNat.testBit i = !(BitVec.ofInt 64 (b : Int)).toNat.testBit i from by
        rw [BitVec.testBit_toNat, BitVec.testBit_toNat, BitVec.getLsbD_not]; simp [hi], ofInt64 b (by omega)]
    · rw [Nat.testBit_lt_two_pow (x := a) (i := i) (Nat.lt_of_lt_of_le (by omega : a < 2 ^ 64) (Nat.pow_le_pow_right (by decide) (by omega)))]
      rfl
  rw [e, i64_small _ (by omega)]
theorem shl1 (j : Nat) (h : j ≤ 62) : shl .i64 1 (j : Int) = ((2 ^ j : Nat) : Int) := by
  unfold shl
  have h2 : (2 : Nat) ^ j < 9223372036854775808 := Nat.lt_of_le_of_lt (Nat.pow_le_pow_right (by decide) h) (by decide)
  rw [Int.toNat_natCast, Nat.min_eq_left (by show j ≤ 64; omega), Int.one_mul]
  have := i64_small (2 ^ j) h2
  rwa [Int.natCast_pow] at this ⊢
theorem shr_nat (a j : Nat) (h : j ≤ 64) : shr .i64 (a : Int) (j : Int) = ((a / 2 ^ j : Nat) : Int) := by
  unfold shr
  rw [Int.toNat_natCast, Nat.min_eq_left (by exact h)]
  simp
def bit (s : Int) (j : Nat) : Bool := s.toNat.testBit j
theorem bit_cast (a j : Nat) : bit (a : Int) j = a.testBit j := by simp [bit]
theorem and_one (a : Nat) (j : Nat) : ((a / 2 ^ j) &&& 1 : Nat) = if a.testBit j then 1 else 0 := by
  rw [Nat.and_one_is_mod, Nat.testBit_eq_decide_div_mod_eq]
  rcases Nat.mod_two_eq_zero_or_one (a / 2 ^ j) with h | h <;> simp [h]
theorem has_and (s : Int) (j : Nat) (h0 : 0 ≤ s) (h1 : s < 9223372036854775808) (hj : j ≤ 64) : (Go.bits .and .i64 (shr .i64 s (j : Int)) 1 == 1) = bit s j := by
  obtain ⟨a, rfl⟩ := Int.eq_ofNat_of_zero_le h0
  have hl : a / 2 ^ j < 9223372036854775808 := Nat.lt_of_le_of_lt (Nat.div_le_self _ _) (by omega)
  rw [shr_nat a j hj, show (1 : Int) = ((1 : Nat) : Int) from rfl, and_i64 _ 1 hl (by decide), and_one, bit_cast]
  cases a.testBit j <;> rfl
theorem has_mod (s : Int) (j : Nat) (h0 : 0 ≤ s) (hj : j ≤ 64) : (Int.tmod (shr .i64 s (j : Int)) 2 == 1) = bit s j := by
  obtain ⟨a, rfl⟩ := Int.eq_ofNat_of_zero_le h0
  rw [shr_nat a j hj, bit_cast, Nat.testBit_eq_decide_div_mod_eq, Int.tmod_eq_emod_of_nonneg (Int.natCast_nonneg _)]
  rcases Nat.mod_two_eq_zero_or_one (a / 2 ^ j) with h | h
  · rw [show ((a / 2 ^ j : Nat) : Int) % 2 = 0 from by omega]; simp [h]
  · rw [show ((a / 2 ^ j : Nat) : Int) % 2 = 1 from by omega]; simp [h]
def setOf : Nat → (Nat → Bool) → Nat
  | 0, _ => 0
  | n + 1, q => setOf n q ||| (if q n then 2 ^ n else 0)
theorem testBit_setOf (n : Nat) (q : Nat → Bool) (j : Nat) : (setOf n q).testBit j = (decide (j < n) && q j) := by
  induction n with
  | zero => simp [setOf]
  | succ n ih =>
    unfold setOf
    rw [Nat.testBit_or, ih]
    by_cases hq : q n
    · rw [if_pos hq, Nat.testBit_two_pow]
      by_cases h : n = j
      · subst h; simp [hq]
      · have : (j < n + 1) ↔ j < n := by omega
        simp [h, this]
    · rw [if_neg hq]
      by_cases h : n = j
      · subst h; simp [hq]
      · have : (j < n + 1) ↔ j < n := by omega
        simp [this]
theorem setOf_lt (n : Nat) (q : Nat → Bool) : setOf n q < 2 ^ n := by
  induction n with
  | zero => simp [setOf]
  | succ n ih =>
    unfold setOf
    have h1 : setOf n q < 2 ^ (n + 1) := Nat.lt_of_lt_of_le ih (Nat.pow_le_pow_right (by decide) (by omega))
    refine Nat.or_lt_two_pow h1 ?_
    split
    · exact Nat.pow_lt_pow_right (by decide) (by omega)
    · exact Nat.two_pow_pos _
theorem setOf_congr {n : Nat} {q q' : Nat → Bool} (h : ∀ j, j < n → q j = q' j) : setOf n q = setOf n q' := by
  apply Nat.eq_of_testBit_eq
  intro j
  rw [testBit_setOf, testBit_setOf]
  by_cases hj : j < n
  · rw [h j hj]
  · simp [hj]
theorem lt62 {n s : Nat} (h : s < 2 ^ n) (hn : n ≤ 62) : s < 9223372036854775808 := Nat.lt_of_lt_of_le h (Nat.le_trans (Nat.pow_le_pow_right (by decide) hn) (by decide))
theorem setOf_62 (n : Nat) (q : Nat → Bool) (hn : n ≤ 62) : setOf n q < 9223372036854775808 := lt62 (setOf_lt n q) hn
end Go.Proofs.YtfjpilcmjabikaaDoor.M
namespace Go.Proofs.YtfjpilcmjabikaaDoor.M
open Go.RowKit Go.Proofs.YtfjpilcmjabikaaDoorW.PrintMore Go.Proofs.YtfjpilcmjabikaaDoorW.PrintLast Go.Proofs.YtfjpilcmjabikaaDoorW.PrintWords
theorem Ev.up {α : Type} {r : α} (G : Nat → Nat → Option α) (n : Nat) (step : ∀ i, i < n → Ev (G (i + 1)) r → Ev (G i) r) (stop : Ev (G n) r) : Ev (G 0) r := by
  have key : ∀ m, m ≤ n → Ev (G (n - m)) r := by
    intro m
    induction m with
    | zero => intro _; exact stop
    | succ m ih =>
      intro hm
      have h := step (n - (m + 1)) (by omega)
      rw [show n - (m + 1) + 1 = n - m from by omega] at h
      exact h (ih (by omega))
  have := key n (Nat.le_refl _)
  rwa [Nat.sub_self] at this
theorem Ev.from {α : Type} {r : α} (G : Nat → Nat → Option α) (n i : Nat) (hi : i ≤ n) (step : ∀ i, i < n → Ev (G (i + 1)) r → Ev (G i) r) (stop : Ev (G n) r) : Ev (G i) r := by
  have h := Ev.up (fun j => G (i + j)) (n - i) (fun j hj h => step (i + j) (by omega) h) (by rw [show i + (n - i) = n from by omega]; exact stop)
  exact h
def allB (n : Nat) (p : Nat → Bool) : Bool := (List.range n).all p
theorem allB_iff {n : Nat} {p : Nat → Bool} : allB n p = true ↔ ∀ j, j < n → p j = true := by simp [allB]
theorem allB_false {n : Nat} {p : Nat → Bool} : allB n p = false ↔ ∃ j, j < n ∧ p j = false := by simp [allB]
theorem least_false {n : Nat} {p : Nat → Bool} (h : ∃ j, j < n ∧ p j = false) : ∃ j, j < n ∧ p j = false ∧ ∀ i, i < j → p i = true := by
  obtain ⟨j, hj, hp⟩ := h
  induction j using Nat.strongRecOn with
  | _ j ih =>
    by_cases hl : ∃ i, i < j ∧ p i = false
    · obtain ⟨i, hi, hpi⟩ := hl
      exact ih i hi (by omega) hpi
    · refine ⟨j, hj, hp, fun i hi => ?_⟩
      cases hc : p i with
      | true => rfl
      | false => exact absurd ⟨i, hi, hc⟩ hl
theorem Ev.all (G : Nat → Nat → Option Bool) (n : Nat) (p : Nat → Bool) (yes : ∀ i r, i < n → p i = true → Ev (G (i + 1)) r → Ev (G i) r) (no : ∀ i, i < n → p i = false → Ev (G i) false) (stop : Ev (G n) true) :
    Ev (G 0) (allB n p) := by
  cases h : allB n p with
  | true =>
    have h := allB_iff.1 h
    exact Ev.up G n (fun i hi => yes i true hi (h i hi)) stop
  | false =>
    obtain ⟨j, hj, hp, hl⟩ := least_false (allB_false.1 h)
    exact Ev.up G j (fun i hi => yes i false (by omega) (hl i hi)) (no j hj hp)
theorem Ev.const {α : Type} {x : Option α} {r : α} (h : x = some r) : Ev (fun _ => x) r := ⟨0, fun _ _ => h⟩
theorem Ev.to {α : Type} {g : Nat → Option α} {r r' : α} (h : Ev g r) (e : r = r') : Ev g r' := e ▸ h
theorem rd_nat (l : List Int) (i : Nat) : rd l (i : Int) = l.getD i 0 := by simp [rd]
theorem rd_get (l : List Int) (i : Nat) (h : i < l.length) : rd l (i : Int) = l[i] := by simp [rd, h]
theorem next64 (i n : Nat) (h : i < n) (hn : n ≤ 140737488355328) : wrap64 ((i : Int) + 1) = ((i + 1 : Nat) : Int) := by unfold wrap64; omega
theorem list_ext_getD {l l' : List Int} (hl : l.length = l'.length) (h : ∀ i, i < l.length → l.getD i 0 = l'.getD i 0) : l = l' := by
  apply List.ext_getElem hl
  intro i h1 h2
  have := h i h1
  simpa [h1, h2] using this
end Go.Proofs.YtfjpilcmjabikaaDoor.M
namespace Go.Proofs.YtfjpilcmjabikaaDoor.M
open Go.RowKit Go.Proofs.YtfjpilcmjabikaaDoorW.PrintMore Go.Proofs.YtfjpilcmjabikaaDoorW.PrintLast Go.Proofs.YtfjpilcmjabikaaDoorW.PrintWords Go.Proofs.YtfjpilcmjabikaaDoor.P
def elems (n s : Nat) : List Nat := (List.range n).filter fun j => s.testBit j
theorem mem_elems {n s j : Nat} : j ∈ elems n s ↔ j < n ∧ s.testBit j = true := by simp [elems]
theorem elems_zero (n : Nat) : elems n 0 = [] := by simp [elems]
def ints (l : List Nat) : List Int := l.map fun (j : Nat) => (j : Int)
theorem ints_length (l : List Nat) : (ints l).length = l.length := by simp [ints]
theorem elems_length_le (n s : Nat) : (elems n s).length ≤ n := by
  unfold elems
  exact Nat.le_trans (List.length_filter_le _ _) (by simp)
theorem filter_range_split (n c : Nat) (h : c < n) (p : Nat → Bool) : (List.range n).filter p = (List.range c).filter p ++ ((if p c then [c] else []) ++ (List.range' (c + 1) (n - (c + 1))).filter p) := by
  have e : List.range n = List.range c ++ ([c] ++ List.range' (c + 1) (n - (c + 1))) := by
    rw [List.range_eq_range', List.range_eq_range']
    have h1 : n = c + (1 + (n - (c + 1))) := by omega
    have e1 : List.range' 0 n = List.range' 0 c ++ List.range' c (1 + (n - (c + 1))) := by
      have := List.range'_append_1 (s := 0) (m := c) (n := 1 + (n - (c + 1)))
      rw [Nat.zero_add] at this
      rw [this, ← h1]
    rw [e1, Nat.add_comm 1, List.range'_succ]
    rfl
  rw [e, List.filter_append, List.filter_append]
  congr 1
  cases hp : p c <;> simp [hp]
theorem elems_least (n s c m : Nat) (hs : s = 2 ^ c * (2 * m + 1)) (hn : s < 2 ^ n) : elems n s = c :: elems n (s &&& (s - 1)) := by
  have hp : 0 < 2 ^ c := Nat.two_pow_pos c
  have e1 : s - 1 = 2 ^ (c + 1) * m + (2 ^ c - 1) := by
    have a1 : 2 ^ c * (2 * m + 1) = 2 ^ (c + 1) * m + 2 ^ c := by rw [Nat.pow_succ, Nat.mul_add, Nat.mul_assoc]; simp
    omega
  have hb : ∀ j, s.testBit j = if j < c then false else if j = c then true else m.testBit (j - (c + 1)) := by
    intro j
    rw [hs, Nat.mul_comm, Nat.testBit_mul_two_pow]
    by_cases h1 : j < c
    · rw [if_pos h1]; simp; omega
    · rw [if_neg h1]
      by_cases h2 : j = c
      · subst h2; simp
      · rw [if_neg h2]
        obtain ⟨d, rfl⟩ : ∃ d, j = c + (d + 1) := ⟨j - c - 1, by omega⟩
        rw [show c + (d + 1) - c = d + 1 from by omega, show c + (d + 1) - (c + 1) = d from by omega, Nat.testBit_succ, show (2 * m + 1) / 2 = m from by omega]
        simp
  have hb1 : ∀ j, (s - 1).testBit j = if j < c then true else if j = c then false else m.testBit (j - (c + 1)) := by
    intro j
    rw [e1, Nat.testBit_two_pow_mul_add m (by have : 2 ^ c < 2 ^ (c + 1) := Nat.pow_lt_pow_right (by decide) (by omega); omega)]
    by_cases h1 : j < c
    · rw [if_pos (by omega), if_pos h1, Nat.testBit_two_pow_sub_one]; simp [h1]
    · rw [if_neg h1]
      by_cases h2 : j = c
      · subst h2; rw [if_pos (by omega), if_pos rfl, Nat.testBit_two_pow_sub_one]; simp
      · rw [if_neg (by omega), if_neg h2]
  have hb2 : ∀ j, (s &&& (s - 1)).testBit j = if j ≤ c then false else s.testBit j := by
    intro j
    rw [Nat.testBit_and, hb, hb1]
    by_cases h1 : j < c
    · simp [h1, Nat.le_of_lt h1]
    · by_cases h2 : j = c
      · simp [h2]
      · rw [if_neg h1, if_neg h1, if_neg h2, if_neg h2, if_neg (by omega)]; simp
  have hc : c < n := by
    apply Nat.lt_of_not_le
    intro hle
    have h1 : 2 ^ n ≤ 2 ^ c := Nat.pow_le_pow_right (by decide) hle
    have h2 : 2 ^ c ≤ s := by rw [hs]; exact Nat.le_mul_of_pos_right _ (by omega)
    omega
  unfold elems
  rw [filter_range_split n c hc, filter_range_split n c hc (fun j => (s &&& (s - 1)).testBit j)]
  have z1 : (List.range c).filter (fun j => s.testBit j) = [] := by
    rw [List.filter_eq_nil_iff]; intro j hj; simp at hj; rw [hb, if_pos hj]; simp
  have z2 : (List.range c).filter (fun j => (s &&& (s - 1)).testBit j) = [] := by
    rw [List.filter_eq_nil_iff]; intro j hj; simp at hj; rw [hb2, if_pos (by omega)]; simp
  have z3 : (List.range' (c + 1) (n - (c + 1))).filter (fun j => s.testBit j) = (List.range' (c + 1) (n - (c + 1))).filter (fun j => (s &&& (s - 1)).testBit j) := by
    apply List.filter_congr
    intro j hj
    rw [List.mem_range'] at hj
    obtain ⟨i, hi, rfl⟩ := hj
    rw [hb2, if_neg (by omega)]
  have y1 : s.testBit c = true := by rw [hb, if_neg (by omega), if_pos rfl]
  have y2 : (s &&& (s - 1)).testBit c = false := by rw [hb2, if_pos (Nat.le_refl _)]
  rw [z1, z2, z3, if_pos y1, y2]
  rfl
theorem and_pred_lt (s : Nat) (h : s ≠ 0) : s &&& (s - 1) < s := Nat.lt_of_le_of_lt Nat.and_le_right (by omega)
theorem u64_small (n : Nat) (h : n < 18446744073709551616) : IntKind.u64.wrap (n : Int) = (n : Int) := by
  simp [IntKind.wrap, IntKind.signed, IntKind.bits]
  omega
theorem members_ev (n : Nat) (hn : n ≤ 62) (s : Nat) (hs : s < 2 ^ n) : Ev (fun k => Aax.f k (s : Int)) (ints (elems n s)) := by
  have key : ∀ d s, s ≤ d → s < 2 ^ n → ∀ acc : List Int, acc.length + (elems n s).length ≤ 64 → Ev (fun k => Aax.l0 k (s : Int) acc) (acc ++ ints (elems n s)) := by
    intro d
    induction d with
    | zero =>
      intro s h0 _ acc _
      obtain rfl : s = 0 := by omega
      refine Ev.step (fun _ => rfl) ?_
      simp only [Aax.l0, Int.natCast_zero, if_true]
      rw [elems_zero]
      simpa [ints] using Ev.now acc
    | succ d ih =>
      intro s h0 hs acc ha
      by_cases hz : s = 0
      · exact ih s (by omega) hs acc ha
      · have hs2 := lt62 hs hn
        obtain ⟨m, hm, hk⟩ := Lib.ctzFrom_spec 64 s (by omega) (by omega)
        have he := elems_least n s _ m hm hs
        have hl : (elems n s).length = (elems n (s &&& (s - 1))).length + 1 := by rw [he]; rfl
        refine Ev.step (fun _ => rfl) ?_
        have hc : Lib.ctz 64 s = Lib.ctzFrom 64 s := by unfold Lib.ctz; rw [if_neg hz]
        have e1 : Aa9.f (IntKind.u64.wrap (s : Int)) = some ((Lib.ctzFrom 64 s : Nat) : Int) := by
          rw [u64_small s (by omega)]
          unfold Aa9.f Aa7.f
          rw [if_pos ⟨by omega, by omega⟩, Int.toNat_natCast, hc]
          rfl
        have e2 : Go.bits .and .i64 (s : Int) (wrap64 ((s : Int) - 1)) = ((s &&& (s - 1) : Nat) : Int) := by
          rw [show wrap64 ((s : Int) - 1) = ((s - 1 : Nat) : Int) from by unfold wrap64; omega]
          exact and_i64 _ _ (by omega) (by omega)
        simp only [Aax.l0, if_neg (show ¬ (s : Int) = 0 by omega), e1, Option.bind_some, if_pos (show acc.length < 17592186044416 by omega), e2]
        have := ih (s &&& (s - 1)) (by have := and_pred_lt s hz; omega) (Nat.lt_of_le_of_lt Nat.and_le_left hs) (acc ++ [((Lib.ctzFrom 64 s : Nat) : Int)]) (by simp; omega)
        refine Ev.to this ?_
        rw [he]
        simp [ints]
  have h := key s s (Nat.le_refl _) hs [] (by have := elems_length_le n s; simp; omega)
  exact h
theorem orHas_eq (s : Nat) (j : Nat) (hj : j ≤ 64) : Aa2.f (s : Int) (j : Int) = some (s.testBit j) := by
  unfold Aa2.f
  rw [if_pos (by omega), has_mod _ _ (by omega) hj, bit_cast]
theorem orList_ev (n : Nat) (hn : n ≤ 62) (s : Nat) (hs : s < 2 ^ n) : Ev (fun k => Aat.f k (s : Int)) (ints (elems n s)) := by
  -- up to the place behind the last element
  obtain ⟨t, ht, hlt, hgt⟩ : ∃ t, t ≤ n ∧ s / 2 ^ t = 0 ∧ ∀ i, i < t → 0 < s / 2 ^ i := by
    refine ⟨(if s = 0 then 0 else Nat.log2 s + 1), ?_, ?_, ?_⟩
    · split
      · omega
      · rename_i h
        have := (Nat.log2_lt h (k := n)).2 hs
        omega
    · split
      · rename_i h; simp [h]
      · exact Nat.div_eq_of_lt (Nat.lt_log2_self)
    · intro i hi
      split at hi
      · omega
      · rename_i h
        apply Nat.div_pos _ (Nat.two_pow_pos _)
        exact Nat.le_trans (Nat.pow_le_pow_right (by decide) (by omega : i ≤ Nat.log2 s)) (Nat.log2_self_le h)
  have hs2 := lt62 hs hn
  have hsplit : elems n s = elems t s := by
    unfold elems
    have e : List.range n = List.range t ++ List.range' t (n - t) := by
      rw [List.range_eq_range', List.range_eq_range']
      have := List.range'_append_1 (s := 0) (m := t) (n := n - t)
      rw [Nat.zero_add] at this
      rw [this]
      congr 1
      omega
    rw [e, List.filter_append]
    have z : (List.range' t (n - t)).filter (fun j => s.testBit j) = [] := by
      rw [List.filter_eq_nil_iff]
      intro j hj
      rw [List.mem_range'] at hj
      obtain ⟨i, hi, rfl⟩ := hj
      have h1 : s < 2 ^ t := by
        rcases Nat.div_eq_zero_iff.1 hlt with h | h
        · exact absurd h (Nat.ne_of_gt (Nat.two_pow_pos _))
        · exact h
      rw [Nat.testBit_lt_two_pow (Nat.lt_of_lt_of_le h1 (Nat.pow_le_pow_right (by decide) (by omega)))]
      simp
    rw [z, List.append_nil]
  rw [hsplit]
  unfold Aat.f
  refine Ev.up (fun i k => Aat.l0 k (s : Int) (ints (elems i s)) (i : Int)) t ?_ ?_
  · intro i hi h
    refine Ev.step (fun _ => rfl) ?_
    have e1 : shr .i64 (s : Int) (i : Int) > 0 := by rw [shr_nat s i (by omega)]; have := hgt i hi; omega
    have hlen := elems_length_le i s
    have e2 : elems (i + 1) s = elems i s ++ (if s.testBit i then [i] else []) := by
      unfold elems
      rw [List.range_succ, List.filter_append]
      congr 1
      cases hb2 : s.testBit i <;> simp [hb2]
    simp only [Aat.l0, if_pos (show (0 : Int) ≤ (i : Int) by omega), if_pos e1, orHas_eq s i (by omega), Option.bind_some, next64 i t hi (by omega)]
    rw [e2] at h
    cases hb : s.testBit i with
    | true =>
      simp only [if_true, ints_length, if_pos (show (elems i s).length < 17592186044416 by omega)]
      rw [hb] at h
      simpa [ints] using h
    | false =>
      rw [hb] at h
      simpa [ints] using h
  · refine Ev.step (fun _ => rfl) ?_
    have e1 : ¬ shr .i64 (s : Int) (t : Int) > 0 := by rw [shr_nat s t (by omega)]; omega
    simp only [Aat.l0, if_pos (show (0 : Int) ≤ (t : Int) by omega), if_neg e1]
    exact Ev.now _
end Go.Proofs.YtfjpilcmjabikaaDoor.M
namespace Go.Proofs.YtfjpilcmjabikaaDoor.M
open Go.RowKit Go.Proofs.YtfjpilcmjabikaaDoorW.PrintMore Go.Proofs.YtfjpilcmjabikaaDoorW.PrintLast Go.Proofs.YtfjpilcmjabikaaDoorW.PrintWords Go.Proofs.YtfjpilcmjabikaaDoor.P
def isRel (n : Int) (l : List Int) : Bool := decide (0 ≤ n ∧ n ≤ 10 ∧ (l.length : Int) = n ∧ ∀ x ∈ l, 0 ≤ x ∧ x ≤ ((2 ^ n.toNat : Nat) : Int) - 1)
def row (l : List Int) (i : Nat) : Nat := (l.getD i 0).toNat
def B (l : List Int) (i j : Nat) : Bool := (row l i).testBit j
structure Rel (n : Nat) (l : List Int) : Prop where
  le : n ≤ 10
  len : l.length = n
  mem : ∀ x ∈ l, 0 ≤ x ∧ x ≤ ((2 ^ n : Nat) : Int) - 1
theorem isRel_iff {n : Int} {l : List Int} : isRel n l = true ↔ ∃ m : Nat, n = m ∧ Rel m l := by
  unfold isRel
  rw [decide_eq_true_iff]
  constructor
  · rintro ⟨h0, h1, h2, h3⟩
    obtain ⟨m, rfl⟩ := Int.eq_ofNat_of_zero_le h0
    exact ⟨m, rfl, by omega, by omega, by simpa using h3⟩
  · rintro ⟨m, rfl, h⟩
    refine ⟨by omega, by have := h.le; omega, by have := h.len; omega, by simpa using h.mem⟩
section
variable {n : Nat} {l : List Int}
theorem Rel.getD (h : Rel n l) (i : Nat) : l.getD i 0 = ((row l i : Nat) : Int) := by
  unfold row
  by_cases hi : i < l.length
  · have := (h.mem l[i] (List.getElem_mem hi)).1
    rw [show l.getD i 0 = l[i] by simp [hi]]
    omega
  · rw [show l.getD i 0 = 0 by simp [Nat.not_lt.1 hi]]
    rfl
theorem Rel.row_lt (h : Rel n l) (i : Nat) : row l i < 2 ^ n := by
  have hp : 0 < 2 ^ n := Nat.two_pow_pos n
  by_cases hi : i < l.length
  · have h1 := h.mem l[i] (List.getElem_mem hi)
    have h2 := h.getD i
    rw [show l.getD i 0 = l[i] by simp [hi]] at h2
    omega
  · unfold row
    rw [show l.getD i 0 = 0 by simp [Nat.not_lt.1 hi]]
    simpa using hp
theorem Rel.row_62 (h : Rel n l) (i : Nat) : row l i < 9223372036854775808 := lt62 (h.row_lt i) (by have := h.le; omega)
theorem Rel.B_lt (h : Rel n l) {i j : Nat} (hb : B l i j = true) : j < n := by
  apply Nat.lt_of_not_le
  intro hle
  unfold B at hb
  rw [Nat.testBit_lt_two_pow (Nat.lt_of_lt_of_le (h.row_lt i) (Nat.pow_le_pow_right (by decide) hle))] at hb
  cases hb
theorem Rel.B_lt' (h : Rel n l) {i j : Nat} (hb : B l i j = true) : i < n := by
  apply Nat.lt_of_not_le
  intro hle
  unfold B row at hb
  rw [show l.getD i 0 = 0 by simp [h.len, hle]] at hb
  simp at hb
theorem Rel.rd (h : Rel n l) (i : Nat) : rd l (i : Int) = ((row l i : Nat) : Int) := by rw [rd_nat, h.getD]
theorem Rel.bit (h : Rel n l) (i j : Nat) : M.bit (Go.Proofs.YtfjpilcmjabikaaDoorW.PrintWords.rd l (i : Int)) j = B l i j := by rw [h.rd, bit_cast]; rfl
theorem Rel.ext {l' : List Int} (h : Rel n l) (h' : Rel n l') (hb : ∀ i j, i < n → j < n → B l i j = B l' i j) : l = l' := by
  apply list_ext_getD (by rw [h.len, h'.len])
  intro i hi
  rw [h.getD, h'.getD]
  congr 1
  apply Nat.eq_of_testBit_eq
  intro j
  by_cases hj : j < n
  · exact hb i j (by rw [← h.len]; exact hi) hj
  · have e1 : B l i j = false := by
      cases hc : B l i j with
      | false => rfl
      | true => exact absurd (h.B_lt hc) hj
    have e2 : B l' i j = false := by
      cases hc : B l' i j with
      | false => rfl
      | true => exact absurd (h'.B_lt hc) hj
    exact e1.trans e2.symm
end
def relL (n : Nat) (p : Nat → Nat → Bool) : List Int := (List.range n).map fun i => ((setOf n (p i) : Nat) : Int)
theorem relL_length (n : Nat) (p : Nat → Nat → Bool) : (relL n p).length = n := by simp [relL]
theorem relL_row (n : Nat) (p : Nat → Nat → Bool) (i : Nat) (h : i < n) : row (relL n p) i = setOf n (p i) := by
  simp [row, relL, h]
theorem relL_B (n : Nat) (p : Nat → Nat → Bool) (i j : Nat) : B (relL n p) i j = (decide (i < n) && (decide (j < n) && p i j)) := by
  unfold B
  by_cases h : i < n
  · rw [relL_row n p i h, testBit_setOf]; simp [h]
  · have : row (relL n p) i = 0 := by simp [row, relL, h]
    rw [this]; simp [h]
theorem relL_rel (n : Nat) (hn : n ≤ 10) (p : Nat → Nat → Bool) : Rel n (relL n p) where
  le := hn
  len := relL_length n p
  mem := by
    intro x hx
    simp only [relL, List.mem_map, List.mem_range] at hx
    obtain ⟨i, _, rfl⟩ := hx
    have := setOf_lt n (p i)
    omega
theorem relL_congr {n : Nat} {p q : Nat → Nat → Bool} (h : ∀ i j, i < n → j < n → p i j = q i j) : relL n p = relL n q := by
  unfold relL
  apply List.map_congr_left
  intro i hi
  rw [List.mem_range] at hi
  rw [setOf_congr (fun j hj => h i j hi hj)]
theorem Rel.eq_relL {n : Nat} {l : List Int} (h : Rel n l) : l = relL n (B l) := by
  apply Rel.ext h (relL_rel n h.le _)
  intro i j hi hj
  rw [relL_B]; simp [hi, hj]
theorem within_eq (a b c : Int) : Aay.f a b c = some (decide (b ≤ a ∧ a ≤ c)) := by
  unfold Aay.f
  by_cases h : a ≥ b
  · rw [if_pos h]; simp [h]
  · rw [if_neg h]; simp; omega
theorem l1In_eq (a b c : Int) : Aa4.f a b c = some (decide (b ≤ a ∧ a ≤ c)) := by
  unfold Aa4.f
  by_cases h : a ≥ b
  · rw [if_pos h]; simp [h]
  · rw [if_neg h]; simp; omega
def allIn (l : List Int) (a b : Int) : Bool := decide (∀ x ∈ l, a ≤ x ∧ x ≤ b)
theorem allIn_eq (l : List Int) (a b : Int) : allIn l a b = allB l.length fun i => decide (a ≤ l.getD i 0 ∧ l.getD i 0 ≤ b) := by
  rw [Bool.eq_iff_iff, allB_iff]
  simp only [allIn, decide_eq_true_iff]
  constructor
  · intro h i hi
    have := h l[i] (List.getElem_mem hi)
    simpa [hi] using this
  · intro h x hx
    obtain ⟨i, hi, rfl⟩ := List.getElem_of_mem hx
    have := h i hi
    simpa [hi] using this
theorem allWithin_ev (l : List Int) (a b : Int) (hl : l.length ≤ 140737488355328) : Ev (fun k => Aap.f k l a b) (allIn l a b) := by
  rw [allIn_eq]
  unfold Aap.f
  refine Ev.all (fun i k => Aap.l0 k a b l (l.length : Int) (i : Int)) l.length _ ?_ ?_ ?_
  · intro i r hi hp h
    refine Ev.step (fun _ => rfl) ?_
    rw [decide_eq_true_iff] at hp
    simp only [Aap.l0, if_pos (show (i : Int) < (l.length : Int) by omega), if_pos (show (0 : Int) ≤ (i : Int) by omega), within_eq, rd_nat, Option.bind_some, decide_eq_true hp, if_true, next64 i l.length hi hl]
    exact h
  · intro i hi hp
    refine Ev.step (fun _ => rfl) ?_
    rw [decide_eq_false_iff_not] at hp
    simp only [Aap.l0, if_pos (show (i : Int) < (l.length : Int) by omega), if_pos (show (0 : Int) ≤ (i : Int) by omega), within_eq, rd_nat, Option.bind_some, decide_eq_false hp, Bool.false_eq_true, if_false]
    exact Ev.now _
  · refine Ev.step (fun _ => rfl) ?_
    simp only [Aap.l0, if_neg (show ¬ (l.length : Int) < (l.length : Int) by omega)]
    exact Ev.now _
theorem l1All_ev (l : List Int) (a b : Int) (hl : l.length ≤ 140737488355328) : Ev (fun k => Aaw.f k l a b) (allIn l a b) := by
  rw [allIn_eq]
  unfold Aaw.f
  refine Ev.all (fun i k => Aaw.l0 k a b l (l.length : Int) (i : Int)) l.length _ ?_ ?_ ?_
  · intro i r hi hp h
    refine Ev.step (fun _ => rfl) ?_
    rw [decide_eq_true_iff] at hp
    simp only [Aaw.l0, if_pos (show (i : Int) < (l.length : Int) by omega), if_pos (show (0 : Int) ≤ (i : Int) by omega), l1In_eq, rd_nat, Option.bind_some, decide_eq_true hp, if_true, next64 i l.length hi hl]
    exact h
  · intro i hi hp
    refine Ev.step (fun _ => rfl) ?_
    rw [decide_eq_false_iff_not] at hp
    simp only [Aaw.l0, if_pos (show (i : Int) < (l.length : Int) by omega), if_pos (show (0 : Int) ≤ (i : Int) by omega), l1In_eq, rd_nat, Option.bind_some, decide_eq_false hp, Bool.false_eq_true, if_false]
    exact Ev.now _
  · refine Ev.step (fun _ => rfl) ?_
    simp only [Aaw.l0, if_neg (show ¬ (l.length : Int) < (l.length : Int) by omega)]
    exact Ev.now _
theorem pow_of (n : Int) (h0 : 0 ≤ n) (h1 : n ≤ 10) : wrap64 (shl .i64 1 n - 1) = ((2 ^ n.toNat : Nat) : Int) - 1 := by
  obtain ⟨m, rfl⟩ := Int.eq_ofNat_of_zero_le h0
  rw [shl1 m (by omega), Int.toNat_natCast]
  have h2 : (2 : Nat) ^ m ≤ 2 ^ 10 := Nat.pow_le_pow_right (by decide) (by omega)
  have h3 : 0 < (2 : Nat) ^ m := Nat.two_pow_pos m
  exact wrap64_id _ (by omega) (by omega)
theorem isRel_parts (n : Int) (l : List Int) : isRel n l = (decide (0 ≤ n ∧ n ≤ 10) && (decide ((l.length : Int) = n) && allIn l 0 (((2 ^ n.toNat : Nat) : Int) - 1))) := by
  rw [Bool.eq_iff_iff]
  simp only [isRel, allIn, Bool.and_eq_true, decide_eq_true_iff]
  exact ⟨fun ⟨a, b, c, d⟩ => ⟨⟨a, b⟩, c, d⟩, fun ⟨⟨a, b⟩, c, d⟩ => ⟨a, b, c, d⟩⟩
theorem IsRelation_ev (n : Int) (l : List Int) (hl : l.length ≤ 140737488355328) : Ev (fun k => Aav.f k n l) (isRel n l) := by
  unfold Aav.f
  simp only [within_eq, Option.bind_some]
  rw [isRel_parts]
  by_cases h1 : 0 ≤ n ∧ n ≤ 10
  · by_cases h2 : (l.length : Int) = n
    · simp only [decide_eq_true h1, if_true, if_pos h2, if_pos h1.1, pow_of n h1.1 h1.2, decide_eq_true h2, Bool.true_and]
      exact Ev.bind (allWithin_ev l _ _ hl) (Ev.now _)
    · simp only [decide_eq_true h1, if_true, if_neg h2, decide_eq_false h2, Bool.false_and, Bool.and_false]
      exact Ev.now _
  · simp only [decide_eq_false h1, Bool.false_eq_true, if_false, Bool.false_and]
    exact Ev.now _
theorem orRelation_ev (n : Int) (l : List Int) (hl : l.length ≤ 140737488355328) : Ev (fun k => Aaz.f k n l) (isRel n l) := by
  unfold Aaz.f
  simp only [l1In_eq, Option.bind_some]
  rw [isRel_parts]
  by_cases h1 : 0 ≤ n ∧ n ≤ 10
  · by_cases h2 : (l.length : Int) = n
    · simp only [decide_eq_true h1, if_true, if_pos h2, if_pos h1.1, pow_of n h1.1 h1.2, decide_eq_true h2, Bool.true_and]
      exact Ev.bind (l1All_ev l _ _ hl) (Ev.now _)
    · simp only [decide_eq_true h1, if_true, if_neg h2, decide_eq_false h2, Bool.false_and, Bool.and_false]
      exact Ev.now _
  · simp only [decide_eq_false h1, Bool.false_eq_true, if_false, Bool.false_and]
    exact Ev.now _
def closedAt (n : Nat) (l : List Int) (i : Nat) : Bool := allB (elems n (row l i)).length fun q => diff (row l ((elems n (row l i)).getD q 0)) (row l i) == 0
def isOrd (n : Int) (l : List Int) : Bool := isRel n l && allB l.length fun i => !B l i i && closedAt l.length l i
theorem better_eq {n : Nat} {l : List Int} (h : Rel n l) (m : Int) (i j : Nat) (hi : i < n) (hj : j ≤ 62) : Aao.f m l (i : Int) (j : Int) = some (B l i j) := by
  unfold Aao.f
  rw [if_pos (by omega), if_pos (by rw [h.len]; omega), if_pos (by omega), has_and _ _ (by rw [h.rd]; omega) (by rw [h.rd]; have := h.row_62 i; omega) (by omega), h.bit]
theorem diff_zero (a b : Nat) : (diff a b = 0) ↔ ∀ j, a.testBit j = true → b.testBit j = true := by
  constructor
  · intro h j hj
    have := testBit_diff a b j
    rw [h, hj] at this
    simpa using this.symm
  · intro h
    apply Nat.eq_of_testBit_eq
    intro j
    rw [testBit_diff]
    cases hj : a.testBit j with
    | false => simp
    | true => simp [h j hj]
theorem ints_getD (l : List Nat) (q : Nat) (h : q < l.length) : (ints l).getD q 0 = ((l.getD q 0 : Nat) : Int) := by simp [ints, h]
theorem closed_iff {n : Nat} {l : List Int} (h : Rel n l) (i : Nat) : closedAt n l i = true ↔ ∀ j k, B l i j = true → B l j k = true → B l i k = true := by
  unfold closedAt
  rw [allB_iff]
  constructor
  · intro H j k hij hjk
    have hm : j ∈ elems n (row l i) := mem_elems.2 ⟨h.B_lt hij, hij⟩
    obtain ⟨q, hq, e⟩ := List.getElem_of_mem hm
    have := H q hq
    rw [show (elems n (row l i)).getD q 0 = j by simp [hq, e], beq_iff_eq, diff_zero] at this
    exact this k hjk
  · intro H q hq
    rw [beq_iff_eq, diff_zero]
    intro k hk
    have hm : (elems n (row l i)).getD q 0 ∈ elems n (row l i) := by simp [hq]
    exact H _ k (mem_elems.1 hm).2 hk
structure Ord (n : Nat) (l : List Int) : Prop extends Rel n l where
  irr : ∀ i, B l i i = false
  trans : ∀ i j k, B l i j = true → B l j k = true → B l i k = true
theorem isOrd_iff {n : Int} {l : List Int} : isOrd n l = true ↔ ∃ m : Nat, n = m ∧ Ord m l := by
  unfold isOrd
  rw [Bool.and_eq_true, isRel_iff, allB_iff]
  constructor
  · rintro ⟨⟨m, rfl, h⟩, H⟩
    rw [h.len] at H
    refine ⟨m, rfl, h, fun i => ?_, fun i j k hij hjk => ?_⟩
    · cases hc : B l i i with
      | false => rfl
      | true =>
        have := H i (h.B_lt hc)
        rw [hc] at this
        simp at this
    · have := H i (h.B_lt' hij)
      rw [Bool.and_eq_true] at this
      exact (closed_iff h i).1 this.2 j k hij hjk
  · rintro ⟨m, rfl, h⟩
    refine ⟨⟨m, rfl, h.toRel⟩, fun i _ => ?_⟩
    rw [h.irr i, h.len, (closed_iff h.toRel i).2 (h.trans i)]
    rfl
theorem isOrd_isRel {n : Int} {l : List Int} (h : isOrd n l = true) : isRel n l = true := by
  unfold isOrd at h
  rw [Bool.and_eq_true] at h
  exact h.1
theorem IsOrder_ev (n : Int) (l : List Int) (hl : l.length ≤ 140737488355328) : Ev (fun k => Aai.f k n l) (isOrd n l) := by
  unfold Aai.f isOrd
  refine Ev.bind (IsRelation_ev n l hl) ?_
  cases hr : isRel n l with
  | false => simp only [Bool.false_eq_true, if_false, Bool.false_and]; exact Ev.now _
  | true =>
    obtain ⟨m, rfl, h⟩ := isRel_iff.1 hr
    have hlen := h.len
    have h10 := h.le
    simp only [if_true, Bool.true_and]
    refine Ev.all (fun i k => Aai.l0 k l (l.length : Int) (i : Int) (m : Int) l) l.length _ ?_ ?_ ?_
    · intro i r hi hp hrest
      rw [Bool.and_eq_true] at hp
      have hB : B l i i = false := by simpa using hp.1
      refine Ev.step (fun _ => rfl) ?_
      simp only [Aai.l0, if_pos (show (i : Int) < (l.length : Int) by omega), if_pos (show (0 : Int) ≤ (i : Int) by omega), better_eq h _ i i (by omega) (by omega), Option.bind_some, hB, Bool.false_eq_true, if_false, h.rd]
      refine Ev.bind (members_ev m (by omega) (row l i) (h.row_lt i)) ?_
      have hE := elems_length_le m (row l i)
      rw [ints_length]
      refine Ev.up (fun q k => Aai.l1 k ((row l i : Nat) : Int) l (l.length : Int) (i : Int) (ints (elems m (row l i))) ((elems m (row l i)).length : Int) (q : Int) (m : Int) l) (elems m (row l i)).length ?_ ?_
      · intro q hq hn
        refine Ev.step (fun _ => rfl) ?_
        have hmem : (elems m (row l i)).getD q 0 ∈ elems m (row l i) := by simp [hq]
        have hlt := (mem_elems.1 hmem).1
        have e0 : rd (ints (elems m (row l i))) (q : Int) = (((elems m (row l i)).getD q 0 : Nat) : Int) := by rw [rd_nat, ints_getD _ _ hq]
        have hd : diff (row l ((elems m (row l i)).getD q 0)) (row l i) = 0 := by
          have hc := hp.2
          unfold closedAt at hc
          rw [allB_iff, hlen] at hc
          exact beq_iff_eq.1 (hc q hq)
        simp only [Aai.l1, if_pos (show (q : Int) < ((elems m (row l i)).length : Int) by omega), if_pos (show (0 : Int) ≤ (q : Int) by omega), ints_length, e0, if_pos (show (0 : Int) ≤ (((elems m (row l i)).getD q 0 : Nat) : Int) by omega), if_pos (show (((elems m (row l i)).getD q 0 : Nat) : Int) < (l.length : Int) by omega), h.rd, andNot_i64 _ _ (h.row_62 _) (h.row_62 _), hd, Int.natCast_zero, if_true, next64 q _ hq (by omega)]
        exact hn
      · refine Ev.step (fun _ => rfl) ?_
        simp only [Aai.l1, if_neg (show ¬ ((elems m (row l i)).length : Int) < ((elems m (row l i)).length : Int) by omega), next64 i l.length hi (by omega)]
        exact hrest
    · intro i hi hp
      refine Ev.step (fun _ => rfl) ?_
      simp only [Aai.l0, if_pos (show (i : Int) < (l.length : Int) by omega), if_pos (show (0 : Int) ≤ (i : Int) by omega), better_eq h _ i i (by omega) (by omega), Option.bind_some]
      cases hB : B l i i with
      | true => simp only [if_true]; exact Ev.now _
      | false =>
        rw [hB] at hp
        have hc : closedAt l.length l i = false := by simpa using hp
        unfold closedAt at hc
        rw [hlen] at hc
        obtain ⟨j, hj, hbad, hless⟩ := least_false (allB_false.1 hc)
        simp only [Bool.false_eq_true, if_false, h.rd]
        refine Ev.bind (members_ev m (by omega) (row l i) (h.row_lt i)) ?_
        have hE := elems_length_le m (row l i)
        rw [ints_length]
        refine Ev.up (fun q k => Aai.l1 k ((row l i : Nat) : Int) l (l.length : Int) (i : Int) (ints (elems m (row l i))) ((elems m (row l i)).length : Int) (q : Int) (m : Int) l) j ?_ ?_
        · intro q hq hn
          refine Ev.step (fun _ => rfl) ?_
          have hmem : (elems m (row l i)).getD q 0 ∈ elems m (row l i) := by simp [show q < (elems m (row l i)).length by omega]
          have hlt := (mem_elems.1 hmem).1
          have e0 : rd (ints (elems m (row l i))) (q : Int) = (((elems m (row l i)).getD q 0 : Nat) : Int) := by rw [rd_nat, ints_getD _ _ (by omega)]
          have hd : diff (row l ((elems m (row l i)).getD q 0)) (row l i) = 0 := beq_iff_eq.1 (hless q hq)
          simp only [Aai.l1, if_pos (show (q : Int) < ((elems m (row l i)).length : Int) by omega), if_pos (show (0 : Int) ≤ (q : Int) by omega), ints_length, e0, if_pos (show (0 : Int) ≤ (((elems m (row l i)).getD q 0 : Nat) : Int) by omega), if_pos (show (((elems m (row l i)).getD q 0 : Nat) : Int) < (l.length : Int) by omega), h.rd, andNot_i64 _ _ (h.row_62 _) (h.row_62 _), hd, Int.natCast_zero, if_true, next64 q _ (show q < (elems m (row l i)).length by omega) (by omega)]
          exact hn
        · refine Ev.step (fun _ => rfl) ?_
          have hmem : (elems m (row l i)).getD j 0 ∈ elems m (row l i) := by simp [hj]
          have hlt := (mem_elems.1 hmem).1
          have e0 : rd (ints (elems m (row l i))) (j : Int) = (((elems m (row l i)).getD j 0 : Nat) : Int) := by rw [rd_nat, ints_getD _ _ (by omega)]
          have hd : ¬ ((diff (row l ((elems m (row l i)).getD j 0)) (row l i) : Nat) : Int) = 0 := by
            have := beq_eq_false_iff_ne.1 hbad
            omega
          simp only [Aai.l1, if_pos (show (j : Int) < ((elems m (row l i)).length : Int) by omega), if_pos (show (0 : Int) ≤ (j : Int) by omega), ints_length, e0, if_pos (show (0 : Int) ≤ (((elems m (row l i)).getD j 0 : Nat) : Int) by omega), if_pos (show (((elems m (row l i)).getD j 0 : Nat) : Int) < (l.length : Int) by omega), h.rd, andNot_i64 _ _ (h.row_62 _) (h.row_62 _), if_neg hd]
          exact Ev.now _
    · refine Ev.step (fun _ => rfl) ?_
      simp only [Aai.l0, if_neg (show ¬ (l.length : Int) < (l.length : Int) by omega)]
      exact Ev.now _
end Go.Proofs.YtfjpilcmjabikaaDoor.M
