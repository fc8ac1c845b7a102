/- A part of the proof that the law FnClosures holds at every input. Written by wip/pack.py: the kit's printed words that are used, the functions' walks as wip/gen.py prints them, and hand proofs. -/
import Derived.Test.YtfjpilcmjabikaaDoorKFnClosures3
namespace Go.Proofs.YtfjpilcmjabikaaDoor.P
open Go.RowKit Go.Proofs.YtfjpilcmjabikaaDoorW.PrintWords Go.Proofs.YtfjpilcmjabikaaDoorW.PrintLast Go.Proofs.YtfjpilcmjabikaaDoorW.PrintMore
open Bool renaming true → T, false → F
open List renaming setIfInBounds_toArray → L_, set_cons_zero → M_, set_cons_succ → N_, map_toArray → P_, map_cons → Q_, map_nil → R_, length_drop → S_, length_take → U_
open Aside0 renaming mk → A_
attribute [local go_sem] max2_int min2_int max_two min_two max_three min_three max_four min_four
set_option linter.unusedVariables false
set_option linter.unusedSimpArgs false
attribute [local go_sem] fldOrder_0 fldOrder_1
set_option maxHeartbeats 8000000 in
set_option maxRecDepth 100000 in
def Aab.calls.rest1.part : PSigma fun R1_ : Prop => (Unit → R1_) → Aab.calls.part.1 :=
 ⟨_,fun hR1_=>by
 intro k A0 c0 l0 A1 c1 l1 r w hu26 HT HR0 HC0 HR1 HC1 A3 t347 t348 A5 t352 t353 t356 A6 t358 t359 i0_ nd w9 gb351 w10 GW351 GE351 Ao12 co12 w13 gb357 w14 GW357 GE357 NB351_357 NB357_351 hnb15 hnc15 Ao17 co17 w19 gb363 w20 GW363 GE363 NB351_363 NB363_351 NB357_363 NB363_357 hnb21 hnc21 hnb22 hnc22 Ao24 co24 HO350 HO355 HO361 kj7 HJ7 t365 t366 t369 A34 t371 t372 t375 A35 hnb37 hnc37 hnb38 hnc38 w40 gb370 w41 GW370 GE370 NB351_370 NB370_351 NB357_370 NB370_357 NB363_370 NB370_363 hnb42 hnc42 hnb43 hnc43 hnb44 hnc44 Ao46 co46 w48 gb376 w49 GW376 GE376 NB351_376 NB376_351 NB357_376 NB376_357 NB363_376 NB376_363 NB370_376 NB376_370 hnb50 hnc50 hnb51 hnc51 hnb52 hnc52 hnb53 hnc53 Ao55 co55 HO368 HO374 i178_ kj35 HJ35 A7 t379 t380 t383 A86 HC87 hnb88 hnc88 hnb89 hnc89 hnb90 hnc90 hnb91 hnc91 hcz92_0 hcz92_1 hfz92_0 hfz92_1 w93 gb384 w94 BK351 BK357 BK363 BK370 BK376 HB BK384 GW384 GE384 NB351_384 NB384_351 NB357_384 NB384_357 NB363_384 NB384_363 NB370_384 NB384_370 NB376_384 NB384_376 hnb95 hnc95 hnb96 hnc96 hnb97 hnc97 hnb98 hnc98 hnb99 hnc99 hcz100_0 hcz100_1 hfz100_0 hfz100_1 Ao101 co101 HO_352001 HO_358001 HO_364001 HO_371001 HO_377001 HO382 i341_ i342_ i343_ i344_ wc u26 u27 u28 u29 u30 u31 u32 u33 u34 u35 u36 u37 u38 u39 u40 u41 u42 u43 u44 u45 u46 u47 u48 u49 u50 u51 u52 u53 u54 u55 u56 u57 u58 u59 u60 u61 u62 u63 u64 u65 u66 u67 u68 u69 u70 u71 u72 u73 u74 u75 u76 u77 u78 u79 u80 u81 u82 u83 u84 u85 u86 u87 u88 u89 u90 u91 u92 u93 u94 u95 u96 u97 u98 u99 u100 u104 u105 u106 u107 u108 u109 u110 u111 u112 u113 u114 u115 u116 u117 u118 u119 u120 u121 u122 u123 u124 u125 u126 u127 u128 u129 u130 u131 u132 u133 u134 u135 u136 u137 u138 u139 u140 u141 u142 u143 u146 u147 u148 u149 u152 u153 u154 u155 u156 u157 u158 u159 u160 u161 u162 u163 u164 u165 u166 u167 u168 u169 u170 u171 u172 u173 u174 u175 u176 u177 u178 u179 u180 u181 u182 u183 u184 u185 u186 u187 u188 u189 u190 u191 u192 u193 u194 u195 hcut
 clear HC87;try clear c1
 try clear c2
 try clear p2
 try clear c3
 try clear c4
 try clear c5
 try clear c6
 try clear c7
 try clear c8
 try clear c9
 try clear c10
 try clear c11
 try clear c12
 try clear c13
 try clear c14
 try clear c15
 try clear c21
 try clear c22
 try clear c25
 try clear c25b0
 try clear c25b1
 try clear c25b2
 try clear c27
 try clear c28
 try clear c30
 try clear c33
 try clear c37
 try clear c38
 try clear c42
 try clear c43
 try clear c44
 try clear c50
 try clear c51
 try clear c52
 try clear c53
 try clear c56
 try clear c56b0
 try clear c56b1
 try clear c56b2
 try clear c58
 try clear c60
 try clear c61
 try clear c62
 try clear c63
 try clear c65
 try clear c66
 try clear c67
 try clear c70
 try clear c71
 try clear c74
 try clear c75
 try clear c76
 try clear c77
 try clear c79
 try clear c80
 try clear c81
 try clear c84
 try clear c85
 try clear c88
 try clear c89
 try clear c90
 try clear c91
 try clear c95
 try clear c96
 try clear c97
 try clear c98
 try clear c99
 try clear c102
 try clear c104
 try clear c106
 try clear c108
 try clear c109
 try clear c110
 try clear c111
 try clear c112
 try clear c114
 try clear c115
 try clear c116
 try clear c117
 try clear c120
 try clear c121
 try clear c122
 try clear c128
 try clear c129
 try clear c130
 try clear c131
 try clear c132
 try clear c134
 try clear c135
 try clear c136
 try clear c137
 try clear c140
 try clear c141
 try clear c142
 try clear c145
 try clear c146
 try clear c147
 try clear c148
 try clear c149
 try clear c151
 try clear c152
 try clear c153
 try clear c154
 try clear hcz100_0
 try clear hcz100_1
 try clear hcz113_0
 try clear hcz113_1
 try clear hcz118_0
 try clear hcz118_1
 try clear hcz11_0
 try clear hcz11_1
 try clear hcz123_0
 try clear hcz123_1
 try clear hcz125_0
 try clear hcz125_1
 try clear hcz126_0
 try clear hcz126_1
 try clear hcz133_0
 try clear hcz133_1
 try clear hcz138_0
 try clear hcz138_1
 try clear hcz143_0
 try clear hcz143_1
 try clear hcz150_0
 try clear hcz150_1
 try clear hcz155_0
 try clear hcz155_1
 try clear hcz16_0
 try clear hcz16_1
 try clear hcz18_0
 try clear hcz18_1
 try clear hcz23_0
 try clear hcz23_1
 try clear hcz29_0
 try clear hcz29_1
 try clear hcz31_0
 try clear hcz31_1
 try clear hcz39_0
 try clear hcz39_1
 try clear hcz45_0
 try clear hcz45_1
 try clear hcz47_0
 try clear hcz47_1
 try clear hcz54_0
 try clear hcz54_1
 try clear hcz64_0
 try clear hcz64_1
 try clear hcz68_0
 try clear hcz68_1
 try clear hcz72_0
 try clear hcz72_1
 try clear hcz78_0
 try clear hcz78_1
 try clear hcz82_0
 try clear hcz82_1
 try clear hcz92_0
 try clear hcz92_1
 try clear hfz100_0
 try clear hfz100_1
 try clear hfz113_0
 try clear hfz113_1
 try clear hfz118_0
 try clear hfz118_1
 try clear hfz11_0
 try clear hfz11_1
 try clear hfz123_0
 try clear hfz123_1
 try clear hfz125_0
 try clear hfz125_1
 try clear hfz126_0
 try clear hfz126_1
 try clear hfz133_0
 try clear hfz133_1
 try clear hfz138_0
 try clear hfz138_1
 try clear hfz143_0
 try clear hfz143_1
 try clear hfz150_0
 try clear hfz150_1
 try clear hfz155_0
 try clear hfz155_1
 try clear hfz16_0
 try clear hfz16_1
 try clear hfz18_0
 try clear hfz18_1
 try clear hfz23_0
 try clear hfz23_1
 try clear hfz29_0
 try clear hfz29_1
 try clear hfz31_0
 try clear hfz31_1
 try clear hfz39_0
 try clear hfz39_1
 try clear hfz45_0
 try clear hfz45_1
 try clear hfz47_0
 try clear hfz47_1
 try clear hfz54_0
 try clear hfz54_1
 try clear hfz64_0
 try clear hfz64_1
 try clear hfz68_0
 try clear hfz68_1
 try clear hfz72_0
 try clear hfz72_1
 try clear hfz78_0
 try clear hfz78_1
 try clear hfz82_0
 try clear hfz82_1
 try clear hfz92_0
 try clear hfz92_1
 try clear p2
 obtain ⟨kq,x99_86,rfl,HA,HJ86,HO_352001,HO_358001,HO_364001,HO_371001,HO_377001,HO_385001,BK351,BK357,BK363,BK370,BK376,BK384,HB⟩:=hcut;cases kq with
 | zero=>exact absurd HA.1 (by simp [Aab.j2])
 | succ kj86 =>
  have H:=HA.1;clear HA;simp only [Aab.j2] at H
  by_cases c157 : x99_86 = true
  ·subst c157;rw [if_pos rfl] at H;obtain rfl:=Option.some.inj H;go_wp2
   go_ret
   exact ⟨by first|rfl|(simp [errW_none,errW_some] <;> rfl)|(simp [*,errW_none,errW_some] <;> rfl),bb_⟩
  ·replace c157:=Bool.eq_false_iff.mpr c157;subst c157;rw [if_neg nf_] at H;have H':=A_ H;clear H;have hnb158:=NB357_351.1;have hnc158:=NB351_357.1;have hnb159:=NB357_363.1;have hnc159:=NB363_357.1;have hnb160:=NB357_370.1;have hnc160:=NB370_357.1;have hnb161:=NB357_376.1;have hnc161:=NB376_357.1;have hnb162:=NB357_384.1;have hnc162:=NB384_357.1;obtain ⟨Z,Z,Z,Z⟩:=o2_ BK357.1;go_wp2
   go_loopg [16,103] kj86 (fun kq v16 v103 w'=>∃ (x16_4 : Bool) (x103_4 : Int),v16 = .bool x16_4 ∧ v103 = .int .i64 x103_4 ∧ Aside0 (Aab.l0 kq t369 x16_4 t353 (t353.length : Int) x103_4 t347 t348 t352 t353 t365 t366 = some r) ∧ Aside0 (kq ≤ kj86) ∧ Aside0 (Kd.R (Kd.int .i64) 3 w' w.heap.size (fun k_=>some k_ ≠ ((.slice Ao12 t348.length co12) : Value).ownBlock ∧ some k_ ≠ ((.slice Ao24 t359.length co24) : Value).ownBlock ∧ some k_ ≠ ((.slice Ao46 t366.length co46) : Value).ownBlock ∧ some k_ ≠ ((.slice Ao55 t372.length co55) : Value).ownBlock ∧ some k_ ≠ ((.slice Ao101 t380.length co101) : Value).ownBlock) (.slice Ao17 t353.length co17) t353) ∧ Aside0 (Kd.R (Kd.int .i64) 3 w' w.heap.size (fun k_=>some k_ ≠ ((.slice Ao17 t353.length co17) : Value).ownBlock ∧ some k_ ≠ ((.slice Ao17 t353.length co17) : Value).ownBlock ∧ some k_ ≠ ((.slice Ao24 t359.length co24) : Value).ownBlock ∧ some k_ ≠ ((.slice Ao46 t366.length co46) : Value).ownBlock ∧ some k_ ≠ ((.slice Ao55 t372.length co55) : Value).ownBlock ∧ some k_ ≠ ((.slice Ao101 t380.length co101) : Value).ownBlock) (.slice Ao12 t348.length co12) t348) ∧ Aside0 (Kd.R (Kd.int .i64) 3 w' w.heap.size (fun k_=>some k_ ≠ ((.slice Ao12 t348.length co12) : Value).ownBlock ∧ some k_ ≠ ((.slice Ao24 t359.length co24) : Value).ownBlock ∧ some k_ ≠ ((.slice Ao46 t366.length co46) : Value).ownBlock ∧ some k_ ≠ ((.slice Ao55 t372.length co55) : Value).ownBlock ∧ some k_ ≠ ((.slice Ao101 t380.length co101) : Value).ownBlock) (.slice Ao17 t353.length co17) t353) ∧ Aside0 (Kd.R (Kd.int .i64) 3 w' w.heap.size (fun k_=>some k_ ≠ ((.slice Ao17 t353.length co17) : Value).ownBlock ∧ some k_ ≠ ((.slice Ao12 t348.length co12) : Value).ownBlock ∧ some k_ ≠ ((.slice Ao17 t353.length co17) : Value).ownBlock ∧ some k_ ≠ ((.slice Ao46 t366.length co46) : Value).ownBlock ∧ some k_ ≠ ((.slice Ao55 t372.length co55) : Value).ownBlock ∧ some k_ ≠ ((.slice Ao101 t380.length co101) : Value).ownBlock) (.slice Ao24 t359.length co24) t359) ∧ Aside0 (Kd.R (Kd.int .i64) 3 w' w.heap.size (fun k_=>some k_ ≠ ((.slice Ao17 t353.length co17) : Value).ownBlock ∧ some k_ ≠ ((.slice Ao12 t348.length co12) : Value).ownBlock ∧ some k_ ≠ ((.slice Ao17 t353.length co17) : Value).ownBlock ∧ some k_ ≠ ((.slice Ao24 t359.length co24) : Value).ownBlock ∧ some k_ ≠ ((.slice Ao55 t372.length co55) : Value).ownBlock ∧ some k_ ≠ ((.slice Ao101 t380.length co101) : Value).ownBlock) (.slice Ao46 t366.length co46) t366) ∧ Aside0 (Kd.R (Kd.int .i64) 3 w' w.heap.size (fun k_=>some k_ ≠ ((.slice Ao17 t353.length co17) : Value).ownBlock ∧ some k_ ≠ ((.slice Ao12 t348.length co12) : Value).ownBlock ∧ some k_ ≠ ((.slice Ao17 t353.length co17) : Value).ownBlock ∧ some k_ ≠ ((.slice Ao24 t359.length co24) : Value).ownBlock ∧ some k_ ≠ ((.slice Ao46 t366.length co46) : Value).ownBlock ∧ some k_ ≠ ((.slice Ao101 t380.length co101) : Value).ownBlock) (.slice Ao55 t372.length co55) t372) ∧ Aside0 (Kd.R (Kd.int .i64) 3 w' w.heap.size (fun k_=>some k_ ≠ ((.slice Ao17 t353.length co17) : Value).ownBlock ∧ some k_ ≠ ((.slice Ao12 t348.length co12) : Value).ownBlock ∧ some k_ ≠ ((.slice Ao17 t353.length co17) : Value).ownBlock ∧ some k_ ≠ ((.slice Ao24 t359.length co24) : Value).ownBlock ∧ some k_ ≠ ((.slice Ao46 t366.length co46) : Value).ownBlock ∧ some k_ ≠ ((.slice Ao55 t372.length co55) : Value).ownBlock) (.slice Ao101 t380.length co101) t380) ∧ Aside0 (w'.heap[gb351]? = some (.cells #[.int .i64 t347,(.slice Ao12 t348.length co12)] 26 (0,0))) ∧ Aside0 (w'.heap[gb357]? = some (.cells #[.int .i64 t352,(.slice Ao17 t353.length co17)] 26 (0,0))) ∧ Aside0 (w'.heap[gb363]? = some (.cells #[.int .i64 t358,(.slice Ao24 t359.length co24)] 26 (0,0))) ∧ Aside0 (w'.heap[gb370]? = some (.cells #[.int .i64 t365,(.slice Ao46 t366.length co46)] 26 (0,0))) ∧ Aside0 (w'.heap[gb376]? = some (.cells #[.int .i64 t371,(.slice Ao55 t372.length co55)] 26 (0,0))) ∧ Aside0 (w'.heap[gb384]? = some (.cells #[.int .i64 t379,(.slice Ao101 t380.length co101)] 26 (0,0))) ∧ Aside0 (Below w.heap.size w w'))
   case atStart=>exact ⟨(false),(0),(by first|rfl|(simp;done)|(simp [*];done)),(by first|rfl|(simp;done)|(simp [*];done)),H',⟨Nat.le_refl _⟩,⟨rl_ HO_358001⟩,⟨rq_ (Kd.R_mono HO_352001.1 (fun _ hk=>⟨hk.1,⟨hk.1,⟨hk.2.1,⟨hk.2.2.1,⟨hk.2.2.2.1,hk.2.2.2.2⟩⟩⟩⟩⟩))⟩,⟨rl_ HO_358001⟩,⟨rq_ (Kd.R_mono HO_364001.1 (fun _ hk=>⟨hk.2.1,⟨hk.1,⟨hk.2.1,⟨hk.2.2.1,⟨hk.2.2.2.1,hk.2.2.2.2⟩⟩⟩⟩⟩))⟩,⟨rq_ (Kd.R_mono HO_371001.1 (fun _ hk=>⟨hk.2.1,⟨hk.1,⟨hk.2.1,⟨hk.2.2.1,⟨hk.2.2.2.1,hk.2.2.2.2⟩⟩⟩⟩⟩))⟩,⟨rq_ (Kd.R_mono HO_377001.1 (fun _ hk=>⟨hk.2.1,⟨hk.1,⟨hk.2.1,⟨hk.2.2.1,⟨hk.2.2.2.1,hk.2.2.2.2⟩⟩⟩⟩⟩))⟩,⟨rq_ (Kd.R_mono HO_385001.1 (fun _ hk=>⟨hk.2.1,⟨hk.1,⟨hk.2.1,⟨hk.2.2.1,⟨hk.2.2.2.1,hk.2.2.2.2⟩⟩⟩⟩⟩))⟩,⟨bl_ BK351⟩,⟨bl_ BK357⟩,⟨bl_ BK363⟩,⟨bl_ BK370⟩,⟨bl_ BK376⟩,⟨bl_ BK384⟩,⟨bb_⟩⟩
   case round =>
    clear H';try clear c1
    try clear c2
    try clear p2
    try clear c3
    try clear c4
    try clear c5
    try clear c6
    try clear c7
    try clear c8
    try clear c9
    try clear c10
    try clear c11
    try clear c12
    try clear c13
    try clear c14
    try clear c15
    try clear c16
    try clear c21
    try clear c22
    try clear c25
    try clear c25b0
    try clear c25b1
    try clear c25b2
    try clear c27
    try clear c28
    try clear c30
    try clear c33
    try clear c37
    try clear c38
    try clear c42
    try clear c43
    try clear c44
    try clear c50
    try clear c51
    try clear c52
    try clear c53
    try clear c56
    try clear c56b0
    try clear c56b1
    try clear c56b2
    try clear c58
    try clear c60
    try clear c61
    try clear c62
    try clear c63
    try clear c65
    try clear c66
    try clear c67
    try clear c70
    try clear c71
    try clear c74
    try clear c75
    try clear c76
    try clear c77
    try clear c79
    try clear c80
    try clear c81
    try clear c84
    try clear c85
    try clear c88
    try clear c89
    try clear c90
    try clear c91
    try clear c95
    try clear c96
    try clear c97
    try clear c98
    try clear c99
    try clear c102
    try clear c104
    try clear c106
    try clear c108
    try clear c109
    try clear c110
    try clear c111
    try clear c112
    try clear c114
    try clear c115
    try clear c116
    try clear c117
    try clear c120
    try clear c121
    try clear c122
    try clear c128
    try clear c129
    try clear c130
    try clear c131
    try clear c132
    try clear c134
    try clear c135
    try clear c136
    try clear c137
    try clear c140
    try clear c141
    try clear c142
    try clear c145
    try clear c146
    try clear c147
    try clear c148
    try clear c149
    try clear c151
    try clear c152
    try clear c153
    try clear c154
    try clear c157
    try clear c158
    try clear c159
    try clear c160
    try clear c161
    try clear c162
    try clear hcz100_0
    try clear hcz100_1
    try clear hcz113_0
    try clear hcz113_1
    try clear hcz118_0
    try clear hcz118_1
    try clear hcz11_0
    try clear hcz11_1
    try clear hcz123_0
    try clear hcz123_1
    try clear hcz125_0
    try clear hcz125_1
    try clear hcz126_0
    try clear hcz126_1
    try clear hcz133_0
    try clear hcz133_1
    try clear hcz138_0
    try clear hcz138_1
    try clear hcz143_0
    try clear hcz143_1
    try clear hcz150_0
    try clear hcz150_1
    try clear hcz155_0
    try clear hcz155_1
    repeat clear Z
    try clear hcz16_0
    try clear hcz16_1
    try clear hcz18_0
    try clear hcz18_1
    try clear hcz23_0
    try clear hcz23_1
    try clear hcz29_0
    try clear hcz29_1
    try clear hcz31_0
    try clear hcz31_1
    try clear hcz39_0
    try clear hcz39_1
    try clear hcz45_0
    try clear hcz45_1
    try clear hcz47_0
    try clear hcz47_1
    try clear hcz54_0
    try clear hcz54_1
    try clear hcz64_0
    try clear hcz64_1
    try clear hcz68_0
    try clear hcz68_1
    try clear hcz72_0
    try clear hcz72_1
    try clear hcz78_0
    try clear hcz78_1
    try clear hcz82_0
    try clear hcz82_1
    try clear hcz92_0
    try clear hcz92_1
    try clear hfz100_0
    try clear hfz100_1
    try clear hfz113_0
    try clear hfz113_1
    try clear hfz118_0
    try clear hfz118_1
    try clear hfz11_0
    try clear hfz11_1
    try clear hfz123_0
    try clear hfz123_1
    try clear hfz125_0
    try clear hfz125_1
    try clear hfz126_0
    try clear hfz126_1
    try clear hfz133_0
    try clear hfz133_1
    try clear hfz138_0
    try clear hfz138_1
    try clear hfz143_0
    try clear hfz143_1
    try clear hfz150_0
    try clear hfz150_1
    try clear hfz155_0
    try clear hfz155_1
    repeat clear Z
    try clear hfz16_0
    try clear hfz16_1
    try clear hfz18_0
    try clear hfz18_1
    try clear hfz23_0
    try clear hfz23_1
    try clear hfz29_0
    try clear hfz29_1
    try clear hfz31_0
    try clear hfz31_1
    try clear hfz39_0
    try clear hfz39_1
    try clear hfz45_0
    try clear hfz45_1
    try clear hfz47_0
    try clear hfz47_1
    try clear hfz54_0
    try clear hfz54_1
    try clear hfz64_0
    try clear hfz64_1
    try clear hfz68_0
    try clear hfz68_1
    try clear hfz72_0
    try clear hfz72_1
    try clear hfz78_0
    try clear hfz78_1
    try clear hfz82_0
    try clear hfz82_1
    try clear hfz92_0
    try clear hfz92_1
    try clear p2
    obtain ⟨x16_4,x103_4,rfl,rfl,HA,HK4,HO_101,HO_352001,HO_358001,HO_364001,HO_371001,HO_377001,HO_385001,BK351,BK357,BK363,BK370,BK376,BK384,HB⟩:=hrel;cases gk with
    | zero=>exact absurd HA.1 (by simp [Aab.l0])
    | succ k4 =>
     have H:=HA.1;clear HA;simp only [Aab.l0] at H
     by_cases c164 : x103_4 < (t353.length : Int)
     ·rw [if_pos c164] at H;have c164b0 : decide (x103_4 < (t353.length : Int)) = true:=decide_eq_true c164;clear c164;by_cases c165 : 0 ≤ x103_4
      ·rw [if_pos c165] at H;have c165b0 : decide (0 ≤ x103_4) = true:=decide_eq_true c165;clear c165;by_cases c166 : x103_4 < (t353.length : Int)
       ·rw [if_pos c166] at H;have c166b0 : decide (x103_4 < (t353.length : Int)) = true:=decide_eq_true c166;clear c166;by_cases c167 : x103_4 < (t348.length : Int)
        ·rw [if_pos c167] at H;have c167b0 : decide (x103_4 < (t348.length : Int)) = true:=decide_eq_true c167;clear c167;by_cases c168 : (Go.bits .andNot .i64 (rd t348 x103_4) (rd t353 x103_4)) = 0
         ·rw [if_pos c168] at H;have c168b0 : ((Go.bits .andNot .i64 (rd t348 x103_4) (rd t353 x103_4)) == 0) = true:=beq_iff_eq.mpr c168;have c168b1 : ((Go.bits .andNot .i64 (rd t348 x103_4) (rd t353 x103_4)) != 0) = false:=bne_eq_false_iff_eq.mpr c168;clear c168;by_cases c169 : x16_4 = true
          ·subst c169;rw [if_pos rfl] at H;have H':=A_ H;clear H;have p388 : 0 ≤ (x103_4 : Int):=of_decide_eq_true (by first|(with_reducible assumption)|assumption);have q388 : x103_4 < (t353.length : Int):=of_decide_eq_true (by first|(with_reducible assumption)|assumption);obtain ⟨ad388,e388,hx388_0⟩:=Kd.at_int (Kd.R_reads' HO_101.1).2.2 x103_4 p388 q388;cases e388
           replace p388:=eq_true p388;replace q388:=eq_true q388;have Z:=NB351_357.1;have Z:=NB357_351.1;have Z:=NB351_363.1;have Z:=NB363_351.1;have Z:=NB351_370.1;have Z:=NB370_351.1;have Z:=NB351_376.1;have Z:=NB376_351.1;have Z:=NB351_384.1;have Z:=NB384_351.1;obtain ⟨Z,Z,Z,Z⟩:=o2_ BK351.1;have p389 : 0 ≤ (x103_4 : Int):=of_decide_eq_true (by first|(with_reducible assumption)|assumption);have q389 : x103_4 < (t348.length : Int):=of_decide_eq_true (by first|(with_reducible assumption)|assumption);obtain ⟨ad389,e389,hx389_0⟩:=Kd.at_int (Kd.R_reads' HO_352001.1).2.2 x103_4 p389 q389;cases e389
           replace p389:=eq_true p389;replace q389:=eq_true q389;go_wp2
           go_roundg k4
           case measure=>have:=HJ7.1;have:=HJ35.1;have:=HJ86.1;have:=HK4.1;omega
           case rel=>exact ⟨(true),(wrap64 (x103_4 + 1)),(by first|rfl|(simp;done)|(simp [*];done)),(by first|rfl|(simp;done)|(simp [*];done)),H',⟨by have:=HJ7.1;have:=HJ35.1;have:=HJ86.1;have:=HK4.1;omega⟩,⟨rl_ HO_101⟩,⟨rl_ HO_352001⟩,⟨rl_ HO_358001⟩,⟨rl_ HO_364001⟩,⟨rl_ HO_371001⟩,⟨rl_ HO_377001⟩,⟨rl_ HO_385001⟩,⟨bl_ BK351⟩,⟨bl_ BK357⟩,⟨bl_ BK363⟩,⟨bl_ BK370⟩,⟨bl_ BK376⟩,⟨bl_ BK384⟩,⟨bb_⟩⟩
          ·replace c169:=Bool.eq_false_iff.mpr c169;subst c169;rw [if_neg nf_] at H;replace H:=Option.bind_eq_some_iff.mp H;obtain ⟨t390,A1760,H⟩:=H;(try dsimp only at H);have A176:=A_ A1760;clear A1760;have H':=A_ H;clear H;have p388 : 0 ≤ (x103_4 : Int):=of_decide_eq_true (by first|(with_reducible assumption)|assumption);have q388 : x103_4 < (t353.length : Int):=of_decide_eq_true (by first|(with_reducible assumption)|assumption);obtain ⟨ad388,e388,hx388_0⟩:=Kd.at_int (Kd.R_reads' HO_101.1).2.2 x103_4 p388 q388;cases e388
           replace p388:=eq_true p388;replace q388:=eq_true q388;have Z:=NB351_357.1;have Z:=NB357_351.1;have Z:=NB351_363.1;have Z:=NB363_351.1;have Z:=NB351_370.1;have Z:=NB370_351.1;have Z:=NB351_376.1;have Z:=NB376_351.1;have Z:=NB351_384.1;have Z:=NB384_351.1;obtain ⟨Z,Z,Z,Z⟩:=o2_ BK351.1;have p389 : 0 ≤ (x103_4 : Int):=of_decide_eq_true (by first|(with_reducible assumption)|assumption);have q389 : x103_4 < (t348.length : Int):=of_decide_eq_true (by first|(with_reducible assumption)|assumption);obtain ⟨ad389,e389,hx389_0⟩:=Kd.at_int (Kd.R_reads' HO_352001.1).2.2 x103_4 p389 q389;cases e389
           replace p389:=eq_true p389;replace q389:=eq_true q389;go_wp2_with (first|(go_at_call 17;(with_reducible refine (Aa8.calls (rd t353 x103_4) x103_4 t390 _ A176.1).mono ?_);rintro e w' ⟨rfl,⟨nd,rfl⟩⟩))
           go_roundg k4
           case measure=>have:=HJ7.1;have:=HJ35.1;have:=HJ86.1;have:=HK4.1;omega
           case rel=>exact ⟨(t390),(wrap64 (x103_4 + 1)),(by first|rfl|(simp;done)|(simp [*];done)),(by first|rfl|(simp;done)|(simp [*];done)),H',⟨by have:=HJ7.1;have:=HJ35.1;have:=HJ86.1;have:=HK4.1;omega⟩,⟨rl_ HO_101⟩,⟨rl_ HO_352001⟩,⟨rl_ HO_358001⟩,⟨rl_ HO_364001⟩,⟨rl_ HO_371001⟩,⟨rl_ HO_377001⟩,⟨rl_ HO_385001⟩,⟨bl_ BK351⟩,⟨bl_ BK357⟩,⟨bl_ BK363⟩,⟨bl_ BK370⟩,⟨bl_ BK376⟩,⟨bl_ BK384⟩,⟨bb_⟩⟩
         ·rw [if_neg c168] at H;have c168b0 : ((Go.bits .andNot .i64 (rd t348 x103_4) (rd t353 x103_4)) == 0) = false:=beq_eq_false_iff_ne.mpr c168;have c168b1 : ((Go.bits .andNot .i64 (rd t348 x103_4) (rd t353 x103_4)) != 0) = true:=bne_iff_ne.mpr c168;obtain rfl:=Option.some.inj H;have p388 : 0 ≤ (x103_4 : Int):=of_decide_eq_true (by first|(with_reducible assumption)|assumption);have q388 : x103_4 < (t353.length : Int):=of_decide_eq_true (by first|(with_reducible assumption)|assumption);obtain ⟨ad388,e388,hx388_0⟩:=Kd.at_int (Kd.R_reads' HO_101.1).2.2 x103_4 p388 q388;cases e388
          replace p388:=eq_true p388;replace q388:=eq_true q388;have Z:=NB351_357.1;have Z:=NB357_351.1;have Z:=NB351_363.1;have Z:=NB363_351.1;have Z:=NB351_370.1;have Z:=NB370_351.1;have Z:=NB351_376.1;have Z:=NB376_351.1;have Z:=NB351_384.1;have Z:=NB384_351.1;obtain ⟨Z,Z,Z,Z⟩:=o2_ BK351.1;have p389 : 0 ≤ (x103_4 : Int):=of_decide_eq_true (by first|(with_reducible assumption)|assumption);have q389 : x103_4 < (t348.length : Int):=of_decide_eq_true (by first|(with_reducible assumption)|assumption);obtain ⟨ad389,e389,hx389_0⟩:=Kd.at_int (Kd.R_reads' HO_352001.1).2.2 x103_4 p389 q389;cases e389
          replace p389:=eq_true p389;replace q389:=eq_true q389;go_wp2
          go_ret
          exact ⟨by first|rfl|(simp [errW_none,errW_some] <;> rfl)|(simp [*,errW_none,errW_some] <;> rfl),bb_⟩
        ·rw [if_neg c167] at H;exact absurd H (by simp)
       ·rw [if_neg c166] at H;exact absurd H (by simp)
      ·rw [if_neg c165] at H;exact absurd H (by simp)
     ·rw [if_neg c164] at H;have c164b0 : decide (x103_4 < (t353.length : Int)) = false:=decide_eq_false c164;clear c164;replace H:=Option.bind_eq_some_iff.mp H;obtain ⟨t391,A1890,H⟩:=H;(try dsimp only at H);have A189:=A_ A1890;clear A1890;by_cases c190 : (t391 == x16_4) = true
      ·rw [if_pos c190] at H;have c190b0 : (t391 == x16_4) = true:=c190;(try (have c190b1 : decide (t391 = x16_4) = true:=by simpa using c190));(try (have c190b2 : (t391 == x16_4) = true:=by simpa using c190));clear c190;obtain rfl:=Option.some.inj H;have Z:=NB357_351.1;have Z:=NB351_357.1;have Z:=NB357_363.1;have Z:=NB363_357.1;have Z:=NB357_370.1;have Z:=NB370_357.1;have Z:=NB357_376.1;have Z:=NB376_357.1;have Z:=NB357_384.1;have Z:=NB384_357.1;obtain ⟨Z,Z,Z,Z⟩:=o2_ BK357.1;go_wp2_with (first|((with_reducible refine gate_callee (f:=16) rfl ?_);refine goesL_ (some 124) rfl rfl Tryd.func16 (by kernel_rfl) rfl #[.agg #[.int .i64 t352,.slice Ao17 t353.length co17]] rfl au_ ?_;(with_reducible refine (Aai.calls k4 t352 _ _ t353 t391 _ ?side1 ?side2 ?side3 A189.1).mono ?_);(case side1=>exact cl_ (Kd.R_reads' HO_358001.1).2.2);(case side2=>exact (Kd.R_reads' HO_358001.1).2.1);(case side3=>first|exact HT.1|exact HT.1.below bb_|(repeat (first|exact HT.1|apply TabOK.drewN|apply TabOK.drew|apply TabOK.alloc)));rintro e w197 ⟨rfl,hb⟩;refine ⟨_,rfl,?_⟩;have n0_:=rb_ HO_101 hb;have n1_:=rb_ HO_352001 hb;have n2_:=rb_ HO_358001 hb;have n3_:=rb_ HO_364001 hb;have n4_:=rb_ HO_371001 hb;have n5_:=rb_ HO_377001 hb;have n6_:=rb_ HO_385001 hb;have n7_:=bz BK351 hb;have n8_:=bz BK357 hb;have n9_:=bz BK363 hb;have n10_:=bz BK370 hb;have n11_:=bz BK376 hb;have n12_:=bz BK384 hb;have n13_:=A_ (below_step bb_ hb);clear HO_101;clear HO_352001;clear HO_358001;clear HO_364001;clear HO_371001;clear HO_377001;clear HO_385001;clear BK351;clear BK357;clear BK363;clear BK370;clear BK376;clear BK384;clear HB;have HO_101:=n0_;have HO_352001:=n1_;have HO_358001:=n2_;have HO_364001:=n3_;have HO_371001:=n4_;have HO_377001:=n5_;have HO_385001:=n6_;have BK351:=n7_;have BK357:=n8_;have BK363:=n9_;have BK370:=n10_;have BK376:=n11_;have BK384:=n12_;have HB:=n13_;clear n0_ n1_ n2_ n3_ n4_ n5_ n6_ n7_ n8_ n9_ n10_ n11_ n12_ n13_;(try clear hb);(try clear hb2);(try clear hk);(try clear hi)))
       go_ret
       exact ⟨by first|rfl|(simp [errW_none,errW_some] <;> rfl)|(simp [*,errW_none,errW_some] <;> rfl),bb_⟩
      ·rw [if_neg c190] at H;have c190b0 : (t391 == x16_4) = false:=by simpa using c190
       (try (have c190b1 : decide (t391 = x16_4) = false:=by simpa using c190));(try (have c190b2 : (t391 == x16_4) = false:=by simpa using c190));(try (have c190b3 : ¬ (t391 = x16_4):=by simpa using c190));clear c190;by_cases c198 : t369 = true
       ·subst c198;rw [if_pos rfl] at H;replace H:=Option.bind_eq_some_iff.mp H;obtain ⟨⟨t392,t393,t396⟩,A1990,H⟩:=H;(try dsimp only at H);have A199:=A_ A1990;clear A1990;have HC200:=A_ H;clear H;have hnb201:=NB357_351.1;have hnc201:=NB351_357.1;have hnb202:=NB357_363.1;have hnc202:=NB363_357.1;have hnb203:=NB357_370.1;have hnc203:=NB370_357.1;have hnb204:=NB357_376.1;have hnc204:=NB376_357.1;have hnb205:=NB357_384.1;have hnc205:=NB384_357.1;obtain ⟨hcz206_0,hcz206_1,hfz206_0,hfz206_1⟩:=o2_ BK357.1;go_upto_region 30 with (first|((with_reducible refine gate_callee (f:=16) rfl ?_);refine goesL_ (some 124) rfl rfl Tryd.func16 (by kernel_rfl) rfl #[.agg #[.int .i64 t352,.slice Ao17 t353.length co17]] rfl au_ ?_;(with_reducible refine (Aai.calls k4 t352 _ _ t353 t391 _ ?side1 ?side2 ?side3 A189.1).mono ?_);(case side1=>exact cl_ (Kd.R_reads' HO_358001.1).2.2);(case side2=>exact (Kd.R_reads' HO_358001.1).2.1);(case side3=>first|exact HT.1|exact HT.1.below bb_|(repeat (first|exact HT.1|apply TabOK.drewN|apply TabOK.drew|apply TabOK.alloc)));rintro e w207 ⟨rfl,hb⟩;refine ⟨_,rfl,?_⟩;have n0_:=rb_ HO_101 hb;have n1_:=rb_ HO_352001 hb;have n2_:=rb_ HO_358001 hb;have n3_:=rb_ HO_364001 hb;have n4_:=rb_ HO_371001 hb;have n5_:=rb_ HO_377001 hb;have n6_:=rb_ HO_385001 hb;have n7_:=bz BK351 hb;have n8_:=bz BK357 hb;have n9_:=bz BK363 hb;have n10_:=bz BK370 hb;have n11_:=bz BK376 hb;have n12_:=bz BK384 hb;have n13_:=A_ (below_step bb_ hb);clear HO_101;clear HO_352001;clear HO_358001;clear HO_364001;clear HO_371001;clear HO_377001;clear HO_385001;clear BK351;clear BK357;clear BK363;clear BK370;clear BK376;clear BK384;clear HB;have HO_101:=n0_;have HO_352001:=n1_;have HO_358001:=n2_;have HO_364001:=n3_;have HO_371001:=n4_;have HO_377001:=n5_;have HO_385001:=n6_;have BK351:=n7_;have BK357:=n8_;have BK363:=n9_;have BK370:=n10_;have BK376:=n11_;have BK384:=n12_;have HB:=n13_;clear n0_ n1_ n2_ n3_ n4_ n5_ n6_ n7_ n8_ n9_ n10_ n11_ n12_ n13_;(try clear hb);(try clear hb2);(try clear hk);(try clear hi);have hnb208:=NB370_351.1;have hnc208:=NB351_370.1;have hnb209:=NB370_363.1;have hnc209:=NB363_370.1;have hnb210:=NB370_376.1;have hnc210:=NB376_370.1;have hnb211:=NB370_384.1;have hnc211:=NB384_370.1;obtain ⟨hcz212_0,hcz212_1,hfz212_0,hfz212_1⟩:=o2_ BK370.1)|((with_reducible refine gate_callee (f:=11) rfl ?_);refine goesL_ (some 131) rfl rfl Tryd.func11 (by kernel_rfl) rfl #[.agg #[.int .i64 t365,.slice Ao46 t366.length co46]] rfl au_ ?_;(with_reducible refine (Aal.calls k4 t365 _ _ t366 t392 t393 t396 _ ?side1 ?side2 A199.1).mono ?_);(case side1=>exact cl_ (Kd.R_reads' HO_371001.1).2.2);(case side2=>exact (Kd.R_reads' HO_371001.1).2.1);rintro e w213 ⟨v394,rfl,ho0,hb⟩;refine ⟨_,rfl,?_⟩;have n0_:=A_ (Kd.R_elder' (rl_ HO_101) (Kd.R_base ho0) hb);have n1_:=A_ (Kd.R_elder' (rl_ HO_352001) (Kd.R_base ho0) hb);have n2_:=A_ (Kd.R_elder' (rl_ HO_358001) (Kd.R_base ho0) hb);have n3_:=A_ (Kd.R_elder' (rl_ HO_364001) (Kd.R_base ho0) hb);have n4_:=A_ (Kd.R_elder' (rl_ HO_371001) (Kd.R_base ho0) hb);have n5_:=A_ (Kd.R_elder' (rl_ HO_377001) (Kd.R_base ho0) hb);have n6_:=A_ (Kd.R_elder' (rl_ HO_385001) (Kd.R_base ho0) hb);have n7_:=A_ (Kd.R_lower (Kd.R_new' (Kd.R_new' (Kd.R_new' (Kd.R_new' (Kd.R_new' (Kd.R_new' (Kd.R_new' ho0 (Kd.R_lt (rl_ HO_101))) (Kd.R_lt (rl_ HO_352001))) (Kd.R_lt (rl_ HO_358001))) (Kd.R_lt (rl_ HO_364001))) (Kd.R_lt (rl_ HO_371001))) (Kd.R_lt (rl_ HO_377001))) (Kd.R_lt (rl_ HO_385001))) (below_size bb_));have n8_:=bz BK351 hb;have n9_:=bz BK357 hb;have n10_:=bz BK363 hb;have n11_:=bz BK370 hb;have n12_:=bz BK376 hb;have n13_:=bz BK384 hb;have n14_:=A_ (below_step bb_ hb);clear HO_101;clear HO_352001;clear HO_358001;clear HO_364001;clear HO_371001;clear HO_377001;clear HO_385001;clear BK351;clear BK357;clear BK363;clear BK370;clear BK376;clear BK384;clear HB;have HO_101:=n0_;have HO_352001:=n1_;have HO_358001:=n2_;have HO_364001:=n3_;have HO_371001:=n4_;have HO_377001:=n5_;have HO_385001:=n6_;have HO395:=n7_;have BK351:=n8_;have BK357:=n9_;have BK363:=n10_;have BK370:=n11_;have BK376:=n12_;have BK384:=n13_;have HB:=n14_;clear n0_ n1_ n2_ n3_ n4_ n5_ n6_ n7_ n8_ n9_ n10_ n11_ n12_ n13_ n14_;(try clear hb);(try clear hb2);(try clear hk);(try clear hi);(try clear ho0))|((with_reducible refine gate_dst (N:=19) rfl ?_);refine box_event ?hg (N:=19) ?hd (cs:=#[.int .i64 0,.slice none 0 0]) (t:=26) ?hr ?_;(case hd=>rfl);(case hg=>rfl);(case hr=>go_simp;try rfl);intro gb397 hg w214 hbox hb;have n0_:=rb_ HO_101 hb;have n1_:=rb_ HO_352001 hb;have n2_:=rb_ HO_358001 hb;have n3_:=rb_ HO_364001 hb;have n4_:=rb_ HO_371001 hb;have n5_:=rb_ HO_377001 hb;have n6_:=rb_ HO_385001 hb;have n7_:=rb_ HO395 hb;have n8_:=bz BK351 hb;have n9_:=bz BK357 hb;have n10_:=bz BK363 hb;have n11_:=bz BK370 hb;have n12_:=bz BK376 hb;have n13_:=bz BK384 hb;have n14_:=A_ (below_step bb_ hb);have n15_:=A_ (hbox);have n16_:=A_ (gw_ (w:=w) hg bb_);have n17_:=A_ (gw_ (w:=w) hg bb_);have n18_:=A_ (nl_ hg BK351);have n19_:=A_ (ng_ hg BK351);have n20_:=A_ (nl_ hg BK357);have n21_:=A_ (ng_ hg BK357);have n22_:=A_ (nl_ hg BK363);have n23_:=A_ (ng_ hg BK363);have n24_:=A_ (nl_ hg BK370);have n25_:=A_ (ng_ hg BK370);have n26_:=A_ (nl_ hg BK376);have n27_:=A_ (ng_ hg BK376);have n28_:=A_ (nl_ hg BK384);have n29_:=A_ (ng_ hg BK384);clear HO_101;clear HO_352001;clear HO_358001;clear HO_364001;clear HO_371001;clear HO_377001;clear HO_385001;clear HO395;clear BK351;clear BK357;clear BK363;clear BK370;clear BK376;clear BK384;clear HB;have HO_101:=n0_;have HO_352001:=n1_;have HO_358001:=n2_;have HO_364001:=n3_;have HO_371001:=n4_;have HO_377001:=n5_;have HO_385001:=n6_;have HO395:=n7_;have BK351:=n8_;have BK357:=n9_;have BK363:=n10_;have BK370:=n11_;have BK376:=n12_;have BK384:=n13_;have HB:=n14_;have BK397:=n15_;have GW397:=n16_;have GE397:=n17_;have NB351_397:=n18_;have NB397_351:=n19_;have NB357_397:=n20_;have NB397_357:=n21_;have NB363_397:=n22_;have NB397_363:=n23_;have NB370_397:=n24_;have NB397_370:=n25_;have NB376_397:=n26_;have NB397_376:=n27_;have NB384_397:=n28_;have NB397_384:=n29_;clear n0_ n1_ n2_ n3_ n4_ n5_ n6_ n7_ n8_ n9_ n10_ n11_ n12_ n13_ n14_ n15_ n16_ n17_ n18_ n19_ n20_ n21_ n22_ n23_ n24_ n25_ n26_ n27_ n28_ n29_;clear hb hbox hg;have hnb215:=NB397_351.1;have hnc215:=NB351_397.1;have hnb216:=NB397_357.1;have hnc216:=NB357_397.1;have hnb217:=NB397_363.1;have hnc217:=NB363_397.1;have hnb218:=NB397_370.1;have hnc218:=NB370_397.1;have hnb219:=NB397_376.1;have hnc219:=NB376_397.1;have hnb220:=NB397_384.1;have hnc220:=NB384_397.1;obtain ⟨hcz221_0,hcz221_1,hfz221_0,hfz221_1⟩:=o2_ BK397.1;obtain ⟨Ao222,co222,eo222⟩:=Kd.R_slice HO395.1;subst eo222))
        (try simp only [Act.put,L_,M_,N_]);go_cut [141] (fun v141 wc=>∃ (kq : Nat) (x141_199 : Bool),v141 = .bool x141_199 ∧ Aside0 (Aab.j4 kq x141_199 t365 t366 = some r) ∧ Aside0 (kq ≤ k4) ∧ Aside0 (Kd.R (Kd.int .i64) 3 wc w.heap.size (fun k_=>some k_ ≠ ((.slice Ao17 t353.length co17) : Value).ownBlock ∧ some k_ ≠ ((.slice Ao24 t359.length co24) : Value).ownBlock ∧ some k_ ≠ ((.slice Ao46 t366.length co46) : Value).ownBlock ∧ some k_ ≠ ((.slice Ao55 t372.length co55) : Value).ownBlock ∧ some k_ ≠ ((.slice Ao101 t380.length co101) : Value).ownBlock ∧ some k_ ≠ ((.slice Ao222 t393.length co222) : Value).ownBlock) (.slice Ao12 t348.length co12) t348) ∧ Aside0 (Kd.R (Kd.int .i64) 3 wc w.heap.size (fun k_=>some k_ ≠ ((.slice Ao12 t348.length co12) : Value).ownBlock ∧ some k_ ≠ ((.slice Ao24 t359.length co24) : Value).ownBlock ∧ some k_ ≠ ((.slice Ao46 t366.length co46) : Value).ownBlock ∧ some k_ ≠ ((.slice Ao55 t372.length co55) : Value).ownBlock ∧ some k_ ≠ ((.slice Ao101 t380.length co101) : Value).ownBlock ∧ some k_ ≠ ((.slice Ao222 t393.length co222) : Value).ownBlock) (.slice Ao17 t353.length co17) t353) ∧ Aside0 (Kd.R (Kd.int .i64) 3 wc w.heap.size (fun k_=>some k_ ≠ ((.slice Ao12 t348.length co12) : Value).ownBlock ∧ some k_ ≠ ((.slice Ao17 t353.length co17) : Value).ownBlock ∧ some k_ ≠ ((.slice Ao46 t366.length co46) : Value).ownBlock ∧ some k_ ≠ ((.slice Ao55 t372.length co55) : Value).ownBlock ∧ some k_ ≠ ((.slice Ao101 t380.length co101) : Value).ownBlock ∧ some k_ ≠ ((.slice Ao222 t393.length co222) : Value).ownBlock) (.slice Ao24 t359.length co24) t359) ∧ Aside0 (Kd.R (Kd.int .i64) 3 wc w.heap.size (fun k_=>some k_ ≠ ((.slice Ao12 t348.length co12) : Value).ownBlock ∧ some k_ ≠ ((.slice Ao17 t353.length co17) : Value).ownBlock ∧ some k_ ≠ ((.slice Ao24 t359.length co24) : Value).ownBlock ∧ some k_ ≠ ((.slice Ao55 t372.length co55) : Value).ownBlock ∧ some k_ ≠ ((.slice Ao101 t380.length co101) : Value).ownBlock ∧ some k_ ≠ ((.slice Ao222 t393.length co222) : Value).ownBlock) (.slice Ao46 t366.length co46) t366) ∧ Aside0 (Kd.R (Kd.int .i64) 3 wc w.heap.size (fun k_=>some k_ ≠ ((.slice Ao12 t348.length co12) : Value).ownBlock ∧ some k_ ≠ ((.slice Ao17 t353.length co17) : Value).ownBlock ∧ some k_ ≠ ((.slice Ao24 t359.length co24) : Value).ownBlock ∧ some k_ ≠ ((.slice Ao46 t366.length co46) : Value).ownBlock ∧ some k_ ≠ ((.slice Ao101 t380.length co101) : Value).ownBlock ∧ some k_ ≠ ((.slice Ao222 t393.length co222) : Value).ownBlock) (.slice Ao55 t372.length co55) t372) ∧ Aside0 (Kd.R (Kd.int .i64) 3 wc w.heap.size (fun k_=>some k_ ≠ ((.slice Ao12 t348.length co12) : Value).ownBlock ∧ some k_ ≠ ((.slice Ao17 t353.length co17) : Value).ownBlock ∧ some k_ ≠ ((.slice Ao24 t359.length co24) : Value).ownBlock ∧ some k_ ≠ ((.slice Ao46 t366.length co46) : Value).ownBlock ∧ some k_ ≠ ((.slice Ao55 t372.length co55) : Value).ownBlock ∧ some k_ ≠ ((.slice Ao222 t393.length co222) : Value).ownBlock) (.slice Ao101 t380.length co101) t380) ∧ Aside0 (Kd.R (Kd.int .i64) 3 wc w.heap.size (fun k_=>some k_ ≠ ((.slice Ao12 t348.length co12) : Value).ownBlock ∧ some k_ ≠ ((.slice Ao17 t353.length co17) : Value).ownBlock ∧ some k_ ≠ ((.slice Ao24 t359.length co24) : Value).ownBlock ∧ some k_ ≠ ((.slice Ao46 t366.length co46) : Value).ownBlock ∧ some k_ ≠ ((.slice Ao55 t372.length co55) : Value).ownBlock ∧ some k_ ≠ ((.slice Ao101 t380.length co101) : Value).ownBlock) (.slice Ao222 t393.length co222) t393) ∧ Aside0 (wc.heap[gb351]? = some (.cells #[.int .i64 t347,(.slice Ao12 t348.length co12)] 26 (0,0))) ∧ Aside0 (wc.heap[gb357]? = some (.cells #[.int .i64 t352,(.slice Ao17 t353.length co17)] 26 (0,0))) ∧ Aside0 (wc.heap[gb363]? = some (.cells #[.int .i64 t358,(.slice Ao24 t359.length co24)] 26 (0,0))) ∧ Aside0 (wc.heap[gb370]? = some (.cells #[.int .i64 t365,(.slice Ao46 t366.length co46)] 26 (0,0))) ∧ Aside0 (wc.heap[gb376]? = some (.cells #[.int .i64 t371,(.slice Ao55 t372.length co55)] 26 (0,0))) ∧ Aside0 (wc.heap[gb384]? = some (.cells #[.int .i64 t379,(.slice Ao101 t380.length co101)] 26 (0,0))) ∧ Aside0 (wc.heap[gb397]? = some (.cells #[.int .i64 t392,(.slice Ao222 t393.length co222)] 26 (0,0))) ∧ Aside0 (Below w.heap.size w wc))
        case first =>
         have H:=HC200.1;clear HC200;by_cases c223 : t396 = true
         ·subst c223;rw [if_pos rfl] at H;replace H:=Option.bind_eq_some_iff.mp H;obtain ⟨t398,A2240,H⟩:=H;(try dsimp only at H);have A224:=A_ A2240;clear A2240;have H':=A_ H;clear H;have Z:=NB397_351.1;have Z:=NB351_397.1;have Z:=NB397_357.1;have Z:=NB357_397.1;have Z:=NB397_363.1;have Z:=NB363_397.1;have Z:=NB397_370.1;have Z:=NB370_397.1;have Z:=NB397_376.1;have Z:=NB376_397.1;have Z:=NB397_384.1;have Z:=NB384_397.1;obtain ⟨Z,Z,Z,Z⟩:=o2_ BK397.1;have Z:=NB351_357.1;have Z:=NB357_351.1;have Z:=NB351_363.1;have Z:=NB363_351.1;have Z:=NB351_370.1;have Z:=NB370_351.1;have Z:=NB351_376.1;have Z:=NB376_351.1;have Z:=NB351_384.1;have Z:=NB384_351.1;obtain ⟨Z,Z,Z,Z⟩:=o2_ BK351.1;go_wp2_with (first|(go_at_call 13;(with_reducible refine (Aas.calls k4 t392 _ _ t393 t347 _ _ t348 t398 _ ?side1 ?side2 ?side3 ?side4 A224.1).mono ?_);(case side1=>refine (Kd.R_reads' (e:=3) (base:=w.heap.size) (ok:=fun k_=>(((((((True ∧ some k_ ≠ (.slice Ao17 t353.length co17 : Value).ownBlock) ∧ some k_ ≠ (.slice Ao12 t348.length co12 : Value).ownBlock) ∧ some k_ ≠ (.slice Ao17 t353.length co17 : Value).ownBlock) ∧ some k_ ≠ (.slice Ao24 t359.length co24 : Value).ownBlock) ∧ some k_ ≠ (.slice Ao46 t366.length co46 : Value).ownBlock) ∧ some k_ ≠ (.slice Ao55 t372.length co55 : Value).ownBlock) ∧ some k_ ≠ (.slice Ao101 t380.length co101 : Value).ownBlock)) (n:=t393.length) (c:=co222) ?_).2.2;exact (rq_ (rf_ HO395 BK397 (.int .i64 t392) (.slice Ao222 t393.length co222))));(case side2=>exact (Kd.R_reads' HO395.1).2.1);(case side3=>refine (Kd.R_reads' (e:=3) (base:=w.heap.size) (ok:=fun k_=>((some k_ ≠ (.slice Ao17 t353.length co17 : Value).ownBlock ∧ (some k_ ≠ (.slice Ao17 t353.length co17 : Value).ownBlock ∧ (some k_ ≠ (.slice Ao24 t359.length co24 : Value).ownBlock ∧ (some k_ ≠ (.slice Ao46 t366.length co46 : Value).ownBlock ∧ (some k_ ≠ (.slice Ao55 t372.length co55 : Value).ownBlock ∧ some k_ ≠ (.slice Ao101 t380.length co101 : Value).ownBlock))))) ∧ some k_ ≠ (.slice Ao222 t393.length co222 : Value).ownBlock)) (n:=t348.length) (c:=co12) ?_).2.2;exact (rq_ (rf_ HO_352001 BK397 (.int .i64 t392) (.slice Ao222 t393.length co222))));(case side4=>exact (Kd.R_reads' HO_352001.1).2.1);rintro e w238 ⟨rfl,hb⟩;have n0_:=A_ (Kd.R_below (rq_ (rf_ HO_101 BK397 (.int .i64 t392) (.slice Ao222 t393.length co222))) hb);have n1_:=A_ (Kd.R_below (rq_ (rf_ HO_352001 BK397 (.int .i64 t392) (.slice Ao222 t393.length co222))) hb);have n2_:=A_ (Kd.R_below (rq_ (rf_ HO_358001 BK397 (.int .i64 t392) (.slice Ao222 t393.length co222))) hb);have n3_:=A_ (Kd.R_below (rq_ (rf_ HO_364001 BK397 (.int .i64 t392) (.slice Ao222 t393.length co222))) hb);have n4_:=A_ (Kd.R_below (rq_ (rf_ HO_371001 BK397 (.int .i64 t392) (.slice Ao222 t393.length co222))) hb);have n5_:=A_ (Kd.R_below (rq_ (rf_ HO_377001 BK397 (.int .i64 t392) (.slice Ao222 t393.length co222))) hb);have n6_:=A_ (Kd.R_below (rq_ (rf_ HO_385001 BK397 (.int .i64 t392) (.slice Ao222 t393.length co222))) hb);have n7_:=A_ (Kd.R_below (rq_ (rf_ HO395 BK397 (.int .i64 t392) (.slice Ao222 t393.length co222))) hb);have n8_:=A_ (blk_below (g:=gb351) (o:=.cells #[.int .i64 t347,.slice Ao12 t348.length co12] 26 (0,0)) (by (with_reducible repeat (first|refine blk_drewN ?_ _|refine blk_drew ?_|refine blk_alloc ?_ _));refine blk_far ?_ NB351_397.1 _;(with_reducible repeat (first|refine blk_drewN ?_ _|refine blk_drew ?_|refine blk_alloc ?_ _));refine blk_far ?_ NB351_397.1 _;(with_reducible repeat (first|refine blk_drewN ?_ _|refine blk_drew ?_|refine blk_alloc ?_ _));exact BK351.1) hb);have n9_:=A_ (blk_below (g:=gb357) (o:=.cells #[.int .i64 t352,.slice Ao17 t353.length co17] 26 (0,0)) (by (with_reducible repeat (first|refine blk_drewN ?_ _|refine blk_drew ?_|refine blk_alloc ?_ _));refine blk_far ?_ NB357_397.1 _;(with_reducible repeat (first|refine blk_drewN ?_ _|refine blk_drew ?_|refine blk_alloc ?_ _));refine blk_far ?_ NB357_397.1 _;(with_reducible repeat (first|refine blk_drewN ?_ _|refine blk_drew ?_|refine blk_alloc ?_ _));exact BK357.1) hb);have n10_:=A_ (blk_below (g:=gb363) (o:=.cells #[.int .i64 t358,.slice Ao24 t359.length co24] 26 (0,0)) (by (with_reducible repeat (first|refine blk_drewN ?_ _|refine blk_drew ?_|refine blk_alloc ?_ _));refine blk_far ?_ NB363_397.1 _;(with_reducible repeat (first|refine blk_drewN ?_ _|refine blk_drew ?_|refine blk_alloc ?_ _));refine blk_far ?_ NB363_397.1 _;(with_reducible repeat (first|refine blk_drewN ?_ _|refine blk_drew ?_|refine blk_alloc ?_ _));exact BK363.1) hb);have n11_:=A_ (blk_below (g:=gb370) (o:=.cells #[.int .i64 t365,.slice Ao46 t366.length co46] 26 (0,0)) (by (with_reducible repeat (first|refine blk_drewN ?_ _|refine blk_drew ?_|refine blk_alloc ?_ _));refine blk_far ?_ NB370_397.1 _;(with_reducible repeat (first|refine blk_drewN ?_ _|refine blk_drew ?_|refine blk_alloc ?_ _));refine blk_far ?_ NB370_397.1 _;(with_reducible repeat (first|refine blk_drewN ?_ _|refine blk_drew ?_|refine blk_alloc ?_ _));exact BK370.1) hb);have n12_:=A_ (blk_below (g:=gb376) (o:=.cells #[.int .i64 t371,.slice Ao55 t372.length co55] 26 (0,0)) (by (with_reducible repeat (first|refine blk_drewN ?_ _|refine blk_drew ?_|refine blk_alloc ?_ _));refine blk_far ?_ NB376_397.1 _;(with_reducible repeat (first|refine blk_drewN ?_ _|refine blk_drew ?_|refine blk_alloc ?_ _));refine blk_far ?_ NB376_397.1 _;(with_reducible repeat (first|refine blk_drewN ?_ _|refine blk_drew ?_|refine blk_alloc ?_ _));exact BK376.1) hb);have n13_:=A_ (blk_below (g:=gb384) (o:=.cells #[.int .i64 t379,.slice Ao101 t380.length co101] 26 (0,0)) (by (with_reducible repeat (first|refine blk_drewN ?_ _|refine blk_drew ?_|refine blk_alloc ?_ _));refine blk_far ?_ NB384_397.1 _;(with_reducible repeat (first|refine blk_drewN ?_ _|refine blk_drew ?_|refine blk_alloc ?_ _));refine blk_far ?_ NB384_397.1 _;(with_reducible repeat (first|refine blk_drewN ?_ _|refine blk_drew ?_|refine blk_alloc ?_ _));exact BK384.1) hb);have n14_:=A_ (blk_below (g:=gb397) (o:=.cells #[.int .i64 t392,.slice Ao222 t393.length co222] 26 (0,0)) (by (with_reducible repeat (first|refine blk_drewN ?_ _|refine blk_drew ?_|refine blk_alloc ?_ _));refine blk_put (cs:=#[.int .i64 t392,.slice none 0 0]) ?_ 1 _ rfl;(with_reducible repeat (first|refine blk_drewN ?_ _|refine blk_drew ?_|refine blk_alloc ?_ _));refine blk_put (cs:=#[.int .i64 0,.slice none 0 0]) ?_ 0 _ rfl;(with_reducible repeat (first|refine blk_drewN ?_ _|refine blk_drew ?_|refine blk_alloc ?_ _));exact BK397.1) hb);have n15_:=A_ (below_step bb_ hb);clear HO_101;clear HO_352001;clear HO_358001;clear HO_364001;clear HO_371001;clear HO_377001;clear HO_385001;clear HO395;clear BK351;clear BK357;clear BK363;clear BK370;clear BK376;clear BK384;clear BK397;clear HB;have HO_101:=n0_;have HO_352001:=n1_;have HO_358001:=n2_;have HO_364001:=n3_;have HO_371001:=n4_;have HO_377001:=n5_;have HO_385001:=n6_;have HO395:=n7_;have BK351:=n8_;have BK357:=n9_;have BK363:=n10_;have BK370:=n11_;have BK376:=n12_;have BK384:=n13_;have BK397:=n14_;have HB:=n15_;clear n0_ n1_ n2_ n3_ n4_ n5_ n6_ n7_ n8_ n9_ n10_ n11_ n12_ n13_ n14_ n15_;(try clear hb);(try clear hb2);(try clear hk);(try clear hi)))
          go_meet
          case rel=>exact ⟨_,(!t398),(by first|rfl|(simp;done)|(simp [*];done)),H',⟨by have:=HJ7.1;have:=HJ35.1;have:=HJ86.1;have:=HK4.1;first|omega|exact Nat.le_refl _⟩,⟨rq_ (Kd.R_mono HO_352001.1 (fun _ hk=>⟨hk.1.2.1,⟨hk.1.2.2.1,⟨hk.1.2.2.2.1,⟨hk.1.2.2.2.2.1,⟨hk.1.2.2.2.2.2,hk.2⟩⟩⟩⟩⟩))⟩,⟨rq_ (Kd.R_mono HO_358001.1 (fun _ hk=>⟨hk.1.1,⟨hk.1.2.1,⟨hk.1.2.2.1,⟨hk.1.2.2.2.1,⟨hk.1.2.2.2.2,hk.2⟩⟩⟩⟩⟩))⟩,⟨rq_ (Kd.R_mono HO_364001.1 (fun _ hk=>⟨hk.1.2.1,⟨hk.1.2.2.1,⟨hk.1.2.2.2.1,⟨hk.1.2.2.2.2.1,⟨hk.1.2.2.2.2.2,hk.2⟩⟩⟩⟩⟩))⟩,⟨rq_ (Kd.R_mono HO_371001.1 (fun _ hk=>⟨hk.1.2.1,⟨hk.1.2.2.1,⟨hk.1.2.2.2.1,⟨hk.1.2.2.2.2.1,⟨hk.1.2.2.2.2.2,hk.2⟩⟩⟩⟩⟩))⟩,⟨rq_ (Kd.R_mono HO_377001.1 (fun _ hk=>⟨hk.1.2.1,⟨hk.1.2.2.1,⟨hk.1.2.2.2.1,⟨hk.1.2.2.2.2.1,⟨hk.1.2.2.2.2.2,hk.2⟩⟩⟩⟩⟩))⟩,⟨rq_ (Kd.R_mono HO_385001.1 (fun _ hk=>⟨hk.1.2.1,⟨hk.1.2.2.1,⟨hk.1.2.2.2.1,⟨hk.1.2.2.2.2.1,⟨hk.1.2.2.2.2.2,hk.2⟩⟩⟩⟩⟩))⟩,⟨rq_ (Kd.R_mono HO395.1 (fun _ hk=>⟨hk.1.1.1.1.1.2,⟨hk.1.1.1.1.2,⟨hk.1.1.1.2,⟨hk.1.1.2,⟨hk.1.2,hk.2⟩⟩⟩⟩⟩))⟩,⟨bl_ BK351⟩,⟨bl_ BK357⟩,⟨bl_ BK363⟩,⟨bl_ BK370⟩,⟨bl_ BK376⟩,⟨bl_ BK384⟩,⟨bl_ BK397⟩,⟨bb_⟩⟩
         ·replace c223:=Bool.eq_false_iff.mpr c223;subst c223;rw [if_neg nf_] at H;have H':=A_ H;clear H;go_wp2
          go_meet
          case rel=>exact ⟨_,(true),(by first|rfl|(simp;done)|(simp [*];done)),H',⟨by have:=HJ7.1;have:=HJ35.1;have:=HJ86.1;have:=HK4.1;first|omega|exact Nat.le_refl _⟩,⟨rq_ (Kd.R_mono (Kd.R_far (p:=⟨gb397,1,none⟩) (Kd.R_far (p:=⟨gb397,0,none⟩) (Kd.R_types HO_352001.1 BK397.1 (by decide)) (fun _ hk=>hk.2) (.int .i64 t392)) (fun _ hk=>hk.2) (.slice Ao222 t393.length co222)) (fun _ hk=>⟨hk.1.1.2.1,⟨hk.1.1.2.2.1,⟨hk.1.1.2.2.2.1,⟨hk.1.1.2.2.2.2.1,⟨hk.1.1.2.2.2.2.2,hk.1.2⟩⟩⟩⟩⟩))⟩,⟨rq_ (Kd.R_mono (Kd.R_far (p:=⟨gb397,1,none⟩) (Kd.R_far (p:=⟨gb397,0,none⟩) (Kd.R_types HO_358001.1 BK397.1 (by decide)) (fun _ hk=>hk.2) (.int .i64 t392)) (fun _ hk=>hk.2) (.slice Ao222 t393.length co222)) (fun _ hk=>⟨hk.1.1.1,⟨hk.1.1.2.1,⟨hk.1.1.2.2.1,⟨hk.1.1.2.2.2.1,⟨hk.1.1.2.2.2.2,hk.1.2⟩⟩⟩⟩⟩))⟩,⟨rq_ (Kd.R_mono (Kd.R_far (p:=⟨gb397,1,none⟩) (Kd.R_far (p:=⟨gb397,0,none⟩) (Kd.R_types HO_364001.1 BK397.1 (by decide)) (fun _ hk=>hk.2) (.int .i64 t392)) (fun _ hk=>hk.2) (.slice Ao222 t393.length co222)) (fun _ hk=>⟨hk.1.1.2.1,⟨hk.1.1.2.2.1,⟨hk.1.1.2.2.2.1,⟨hk.1.1.2.2.2.2.1,⟨hk.1.1.2.2.2.2.2,hk.1.2⟩⟩⟩⟩⟩))⟩,⟨rq_ (Kd.R_mono (Kd.R_far (p:=⟨gb397,1,none⟩) (Kd.R_far (p:=⟨gb397,0,none⟩) (Kd.R_types HO_371001.1 BK397.1 (by decide)) (fun _ hk=>hk.2) (.int .i64 t392)) (fun _ hk=>hk.2) (.slice Ao222 t393.length co222)) (fun _ hk=>⟨hk.1.1.2.1,⟨hk.1.1.2.2.1,⟨hk.1.1.2.2.2.1,⟨hk.1.1.2.2.2.2.1,⟨hk.1.1.2.2.2.2.2,hk.1.2⟩⟩⟩⟩⟩))⟩,⟨rq_ (Kd.R_mono (Kd.R_far (p:=⟨gb397,1,none⟩) (Kd.R_far (p:=⟨gb397,0,none⟩) (Kd.R_types HO_377001.1 BK397.1 (by decide)) (fun _ hk=>hk.2) (.int .i64 t392)) (fun _ hk=>hk.2) (.slice Ao222 t393.length co222)) (fun _ hk=>⟨hk.1.1.2.1,⟨hk.1.1.2.2.1,⟨hk.1.1.2.2.2.1,⟨hk.1.1.2.2.2.2.1,⟨hk.1.1.2.2.2.2.2,hk.1.2⟩⟩⟩⟩⟩))⟩,⟨rq_ (Kd.R_mono (Kd.R_far (p:=⟨gb397,1,none⟩) (Kd.R_far (p:=⟨gb397,0,none⟩) (Kd.R_types HO_385001.1 BK397.1 (by decide)) (fun _ hk=>hk.2) (.int .i64 t392)) (fun _ hk=>hk.2) (.slice Ao222 t393.length co222)) (fun _ hk=>⟨hk.1.1.2.1,⟨hk.1.1.2.2.1,⟨hk.1.1.2.2.2.1,⟨hk.1.1.2.2.2.2.1,⟨hk.1.1.2.2.2.2.2,hk.1.2⟩⟩⟩⟩⟩))⟩,⟨rq_ (Kd.R_mono (Kd.R_far (p:=⟨gb397,1,none⟩) (Kd.R_far (p:=⟨gb397,0,none⟩) (Kd.R_types HO395.1 BK397.1 (by decide)) (fun _ hk=>hk.2) (.int .i64 t392)) (fun _ hk=>hk.2) (.slice Ao222 t393.length co222)) (fun _ hk=>⟨hk.1.1.1.1.1.1.2,⟨hk.1.1.1.1.1.2,⟨hk.1.1.1.1.2,⟨hk.1.1.1.2,⟨hk.1.1.2,hk.1.2⟩⟩⟩⟩⟩))⟩,⟨by (with_reducible repeat (first|refine blk_drewN ?_ _|refine blk_drew ?_|refine blk_alloc ?_ _));refine blk_far ?_ NB351_397.1 _;(with_reducible repeat (first|refine blk_drewN ?_ _|refine blk_drew ?_|refine blk_alloc ?_ _));refine blk_far ?_ NB351_397.1 _;(with_reducible repeat (first|refine blk_drewN ?_ _|refine blk_drew ?_|refine blk_alloc ?_ _));exact BK351.1⟩,⟨by (with_reducible repeat (first|refine blk_drewN ?_ _|refine blk_drew ?_|refine blk_alloc ?_ _));refine blk_far ?_ NB357_397.1 _;(with_reducible repeat (first|refine blk_drewN ?_ _|refine blk_drew ?_|refine blk_alloc ?_ _));refine blk_far ?_ NB357_397.1 _;(with_reducible repeat (first|refine blk_drewN ?_ _|refine blk_drew ?_|refine blk_alloc ?_ _));exact BK357.1⟩,⟨by (with_reducible repeat (first|refine blk_drewN ?_ _|refine blk_drew ?_|refine blk_alloc ?_ _));refine blk_far ?_ NB363_397.1 _;(with_reducible repeat (first|refine blk_drewN ?_ _|refine blk_drew ?_|refine blk_alloc ?_ _));refine blk_far ?_ NB363_397.1 _;(with_reducible repeat (first|refine blk_drewN ?_ _|refine blk_drew ?_|refine blk_alloc ?_ _));exact BK363.1⟩,⟨by (with_reducible repeat (first|refine blk_drewN ?_ _|refine blk_drew ?_|refine blk_alloc ?_ _));refine blk_far ?_ NB370_397.1 _;(with_reducible repeat (first|refine blk_drewN ?_ _|refine blk_drew ?_|refine blk_alloc ?_ _));refine blk_far ?_ NB370_397.1 _;(with_reducible repeat (first|refine blk_drewN ?_ _|refine blk_drew ?_|refine blk_alloc ?_ _));exact BK370.1⟩,⟨by (with_reducible repeat (first|refine blk_drewN ?_ _|refine blk_drew ?_|refine blk_alloc ?_ _));refine blk_far ?_ NB376_397.1 _;(with_reducible repeat (first|refine blk_drewN ?_ _|refine blk_drew ?_|refine blk_alloc ?_ _));refine blk_far ?_ NB376_397.1 _;(with_reducible repeat (first|refine blk_drewN ?_ _|refine blk_drew ?_|refine blk_alloc ?_ _));exact BK376.1⟩,⟨by (with_reducible repeat (first|refine blk_drewN ?_ _|refine blk_drew ?_|refine blk_alloc ?_ _));refine blk_far ?_ NB384_397.1 _;(with_reducible repeat (first|refine blk_drewN ?_ _|refine blk_drew ?_|refine blk_alloc ?_ _));refine blk_far ?_ NB384_397.1 _;(with_reducible repeat (first|refine blk_drewN ?_ _|refine blk_drew ?_|refine blk_alloc ?_ _));exact BK384.1⟩,⟨by (with_reducible repeat (first|refine blk_drewN ?_ _|refine blk_drew ?_|refine blk_alloc ?_ _));refine blk_put (cs:=#[.int .i64 t392,.slice none 0 0]) ?_ 1 _ rfl;(with_reducible repeat (first|refine blk_drewN ?_ _|refine blk_drew ?_|refine blk_alloc ?_ _));refine blk_put (cs:=#[.int .i64 0,.slice none 0 0]) ?_ 0 _ rfl;(with_reducible repeat (first|refine blk_drewN ?_ _|refine blk_drew ?_|refine blk_alloc ?_ _));exact BK397.1⟩,⟨bb_⟩⟩
        case rest =>
         rename_i i0_ i1_ i2_ i3_ i4_ i5_ i6_ i7_ i8_ i9_ i10_ i11_ i12_ i13_ i14_ i15_ i16_ i17_ i18_ i19_ i20_ i21_ i22_ i23_ i24_ i25_ i26_ i27_ i28_ i29_ i30_ i31_ i32_ i33_ i34_ i35_ i36_ i37_ i38_ i39_ i40_ i41_ i42_ i43_ i44_ i45_ i46_ i47_ i48_ i49_ i50_ i51_ i52_ i53_ i54_ i55_ i56_ i57_ i58_ i59_ i60_ i61_ i62_ i63_ i64_ i65_ i66_ i67_ i68_ i69_ i70_ i71_ i72_ i73_ i74_ i75_ i76_ i77_ i78_ i79_ i80_ i81_ i82_ i83_ i84_ i85_ i86_ i87_ i88_ i89_ i90_ i91_ i92_ i93_ i94_ i95_ i96_ i97_ i98_ i99_ i100_ i101_ i102_ i103_ i104_ i105_ i106_ i107_ i108_ i109_ i110_ i111_ i112_ i113_ i114_ i115_ i116_ i117_ i118_ i119_ i120_ i121_ i122_ i123_ i124_ i125_ i126_ i127_ i128_ i129_ i130_ i131_ i132_ i133_ i134_ i135_ i136_ i137_ i138_ i139_ i140_ i141_ i142_ i143_ i144_ i145_ i146_ i147_ i148_ i149_ i150_ i151_ i152_ i153_ i154_ i155_ i156_ i157_ i158_ i159_ i160_ i161_ i162_ i163_ i164_ i165_ i166_ i167_ i168_ i169_ i170_ i171_ i172_ i173_ i174_ i175_ i176_ i177_ i178_ i179_ i180_ i181_ i182_ i183_ i184_ i185_ i186_ i187_ i188_ i189_ i190_ i191_ i192_ i193_ i194_ i195_ i196_ i197_ i198_ i199_ i200_ i201_ i202_ i203_ i204_ i205_ i206_ i207_ i208_ i209_ i210_ i211_ i212_ i213_ i214_ i215_ i216_ i217_
         clear i0_ i1_ i2_ i3_ i4_ i5_ i6_ i7_ i8_ i9_ i10_ i11_ i12_ i13_ i14_ i15_ i16_ i17_ i18_ i19_ i20_ i21_ i22_ i23_ i24_ i25_ i26_ i27_ i28_ i29_ i30_ i31_ i32_ i33_ i34_ i35_ i36_ i37_ i38_ i39_ i40_ i41_ i42_ i43_ i44_ i45_ i46_ i47_ i48_ i49_ i50_ i51_ i52_ i53_ i54_ i55_ i56_ i57_ i58_ i59_ i60_ i61_ i62_ i63_ i64_ i65_ i66_ i67_ i68_ i69_ i70_ i71_ i72_ i73_ i74_ i75_ i76_ i77_ i78_ i79_ i80_ i81_ i82_ i83_ i84_ i85_ i86_ i87_ i88_ i89_ i90_ i91_ i92_ i93_ i94_ i95_ i96_ i97_ i98_ i99_ i100_ i101_ i102_ i103_ i104_ i105_ i106_ i107_ i108_ i109_ i110_ i111_ i112_ i113_ i114_ i115_ i116_ i117_ i118_ i119_ i120_ i121_ i122_ i123_ i124_ i125_ i126_ i127_ i128_ i129_ i130_ i131_ i132_ i133_ i134_ i135_ i136_ i137_ i138_ i139_ i140_ i141_ i142_ i143_ i144_ i145_ i146_ i147_ i148_ i149_ i150_ i151_ i152_ i153_ i154_ i155_ i156_ i157_ i158_ i159_ i160_ i161_ i162_ i163_ i164_ i165_ i166_ i167_ i168_ i169_ i170_ i171_ i172_ i173_ i174_ i175_ i176_ i177_ i178_ i179_ i180_ i181_ i182_ i183_ i184_ i185_ i186_ i187_ i188_ i189_ i190_ i191_ i192_ i193_ i194_ i195_ i196_ i197_ i198_ i199_ i200_ i201_ i202_ i203_ i204_ i205_ i206_ i207_ i208_ i209_ i210_ i211_ i212_ i213_;revert k A0 c0 l0 A1 c1 l1 r w hu26 HT HR0 HC0 HR1 HC1 A3 t347 t348 A5 t352 t353 t356 A6 t358 t359 i0_ nd w9 gb351 w10 GW351 GE351 Ao12 co12 w13 gb357 w14 GW357 GE357 NB351_357 NB357_351 hnb15 hnc15 Ao17 co17 w19 gb363 w20 GW363 GE363 NB351_363 NB363_351 NB357_363 NB363_357 hnb21 hnc21 hnb22 hnc22 Ao24 co24 HO350 HO355 HO361 kj7 HJ7 t365 t366 t371 t372 t375 A35 hnb37 hnc37 hnb38 hnc38 w40 gb370 w41 GW370 GE370 NB351_370 NB370_351 NB357_370 NB370_357 NB363_370 NB370_363 hnb42 hnc42 hnb43 hnc43 hnb44 hnc44 Ao46 co46 w48 gb376 w49 GW376 GE376 NB351_376 NB376_351 NB357_376 NB376_357 NB363_376 NB376_363 NB370_376 NB376_370 hnb50 hnc50 hnb51 hnc51 hnb52 hnc52 hnb53 hnc53 Ao55 co55 HO368 HO374 i178_ kj35 HJ35 A7 t379 t380 t383 A86 hnb88 hnc88 hnb89 hnc89 hnb90 hnc90 hnb91 hnc91 w93 gb384 w94 GW384 GE384 NB351_384 NB384_351 NB357_384 NB384_357 NB363_384 NB384_363 NB370_384 NB384_370 NB376_384 NB384_376 hnb95 hnc95 hnb96 hnc96 hnb97 hnc97 hnb98 hnc98 hnb99 hnc99 Ao101 co101 HO382 kj86 HJ86 hnb158 hnc158 hnb159 hnc159 hnb160 hnc160 hnb161 hnc161 hnb162 hnc162 wr u4 u17 u18 x16_4 x103_4 k4 HK4 c164b0 t391 A189 c190b0 c190b1 c190b2 c190b3 A34 t392 t393 t396 A199 HC200 hnb201 hnc201 hnb202 hnc202 hnb203 hnc203 hnb204 hnc204 hnb205 hnc205 hcz206_0 hcz206_1 hfz206_0 hfz206_1 w207 hnb208 hnc208 hnb209 hnc209 hnb210 hnc210 hnb211 hnc211 hcz212_0 hcz212_1 hfz212_0 hfz212_1 w213 gb397 w214 BK351 BK357 BK363 BK370 BK376 BK384 HB BK397 GW397 GE397 NB351_397 NB397_351 NB357_397 NB397_357 NB363_397 NB397_363 NB370_397 NB397_370 NB376_397 NB397_376 NB384_397 NB397_384 hnb215 hnc215 hnb216 hnc216 hnb217 hnc217 hnb218 hnc218 hnb219 hnc219 hnb220 hnc220 hcz221_0 hcz221_1 hfz221_0 hfz221_1 Ao222 co222 HO_101 HO_352001 HO_358001 HO_364001 HO_371001 HO_377001 HO_385001 HO395 i214_ i215_ i216_ i217_ wc u26 u27 u28 u29 u30 u31 u32 u33 u34 u35 u36 u37 u38 u39 u40 u41 u42 u43 u44 u45 u46 u47 u48 u49 u50 u51 u52 u53 u54 u55 u56 u57 u58 u59 u60 u61 u62 u63 u64 u65 u66 u67 u68 u69 u70 u71 u72 u73 u74 u75 u76 u77 u78 u79 u80 u81 u82 u83 u84 u85 u86 u87 u88 u89 u90 u91 u92 u93 u94 u95 u96 u97 u98 u99 u100 u104 u105 u106 u107 u108 u109 u110 u111 u112 u113 u114 u115 u116 u117 u118 u119 u120 u121 u122 u123 u124 u125 u126 u127 u128 u129 u130 u131 u132 u133 u134 u135 u136 u137 u138 u139 u140 u141 u142 u143 u146 u147 u148 u149 u152 u153 u154 u155 u156 u157 u158 u159 u160 u161 u162 u163 u164 u165 u166 u167 u168 u169 u170 u171 u172 u173 u174 u175 u176 u177 u178 u179 u180 u181 u182 u183 u184 u185 u186 u187 u188 u189 u190 u191 u192 u193 u194 u195 hcut
         exact hR1_ ()
       ·replace c198:=Bool.eq_false_iff.mpr c198;subst c198;rw [if_neg nf_] at H;obtain rfl:=Option.some.inj H;have Z:=NB357_351.1;have Z:=NB351_357.1;have Z:=NB357_363.1;have Z:=NB363_357.1;have Z:=NB357_370.1;have Z:=NB370_357.1;have Z:=NB357_376.1;have Z:=NB376_357.1;have Z:=NB357_384.1;have Z:=NB384_357.1;obtain ⟨Z,Z,Z,Z⟩:=o2_ BK357.1;go_wp2_with (first|((with_reducible refine gate_callee (f:=16) rfl ?_);refine goesL_ (some 124) rfl rfl Tryd.func16 (by kernel_rfl) rfl #[.agg #[.int .i64 t352,.slice Ao17 t353.length co17]] rfl au_ ?_;(with_reducible refine (Aai.calls k4 t352 _ _ t353 t391 _ ?side1 ?side2 ?side3 A189.1).mono ?_);(case side1=>exact cl_ (Kd.R_reads' HO_358001.1).2.2);(case side2=>exact (Kd.R_reads' HO_358001.1).2.1);(case side3=>first|exact HT.1|exact HT.1.below bb_|(repeat (first|exact HT.1|apply TabOK.drewN|apply TabOK.drew|apply TabOK.alloc)));rintro e w411 ⟨rfl,hb⟩;refine ⟨_,rfl,?_⟩;have n0_:=rb_ HO_101 hb;have n1_:=rb_ HO_352001 hb;have n2_:=rb_ HO_358001 hb;have n3_:=rb_ HO_364001 hb;have n4_:=rb_ HO_371001 hb;have n5_:=rb_ HO_377001 hb;have n6_:=rb_ HO_385001 hb;have n7_:=bz BK351 hb;have n8_:=bz BK357 hb;have n9_:=bz BK363 hb;have n10_:=bz BK370 hb;have n11_:=bz BK376 hb;have n12_:=bz BK384 hb;have n13_:=A_ (below_step bb_ hb);clear HO_101;clear HO_352001;clear HO_358001;clear HO_364001;clear HO_371001;clear HO_377001;clear HO_385001;clear BK351;clear BK357;clear BK363;clear BK370;clear BK376;clear BK384;clear HB;have HO_101:=n0_;have HO_352001:=n1_;have HO_358001:=n2_;have HO_364001:=n3_;have HO_371001:=n4_;have HO_377001:=n5_;have HO_385001:=n6_;have BK351:=n7_;have BK357:=n8_;have BK363:=n9_;have BK370:=n10_;have BK376:=n11_;have BK384:=n12_;have HB:=n13_;clear n0_ n1_ n2_ n3_ n4_ n5_ n6_ n7_ n8_ n9_ n10_ n11_ n12_ n13_;(try clear hb);(try clear hb2);(try clear hk);(try clear hi)))
        go_ret
        exact ⟨by first|rfl|(simp [errW_none,errW_some] <;> rfl)|(simp [*,errW_none,errW_some] <;> rfl),bb_⟩⟩
set_option maxHeartbeats 8000000 in
set_option maxRecDepth 100000 in
def Aab.calls.rest1.rest1.part : PSigma fun R1_ : Prop => PSigma fun R2_ : Prop => PSigma fun R3_ : Prop => (Unit → R1_) → (Unit → R2_) → (Unit → R3_) → Aab.calls.rest1.part.1 :=
 ⟨_,_,_,fun hR1_ hR2_ hR3_=>by
 intro k A0 c0 l0 A1 c1 l1 r w hu26 HT HR0 HC0 HR1 HC1 A3 t347 t348 A5 t352 t353 t356 A6 t358 t359 i0_ nd w9 gb351 w10 GW351 GE351 Ao12 co12 w13 gb357 w14 GW357 GE357 NB351_357 NB357_351 hnb15 hnc15 Ao17 co17 w19 gb363 w20 GW363 GE363 NB351_363 NB363_351 NB357_363 NB363_357 hnb21 hnc21 hnb22 hnc22 Ao24 co24 HO350 HO355 HO361 kj7 HJ7 t365 t366 t371 t372 t375 A35 hnb37 hnc37 hnb38 hnc38 w40 gb370 w41 GW370 GE370 NB351_370 NB370_351 NB357_370 NB370_357 NB363_370 NB370_363 hnb42 hnc42 hnb43 hnc43 hnb44 hnc44 Ao46 co46 w48 gb376 w49 GW376 GE376 NB351_376 NB376_351 NB357_376 NB376_357 NB363_376 NB376_363 NB370_376 NB376_370 hnb50 hnc50 hnb51 hnc51 hnb52 hnc52 hnb53 hnc53 Ao55 co55 HO368 HO374 i178_ kj35 HJ35 A7 t379 t380 t383 A86 hnb88 hnc88 hnb89 hnc89 hnb90 hnc90 hnb91 hnc91 w93 gb384 w94 GW384 GE384 NB351_384 NB384_351 NB357_384 NB384_357 NB363_384 NB384_363 NB370_384 NB384_370 NB376_384 NB384_376 hnb95 hnc95 hnb96 hnc96 hnb97 hnc97 hnb98 hnc98 hnb99 hnc99 Ao101 co101 HO382 kj86 HJ86 hnb158 hnc158 hnb159 hnc159 hnb160 hnc160 hnb161 hnc161 hnb162 hnc162 wr u4 u17 u18 x16_4 x103_4 k4 HK4 c164b0 t391 A189 c190b0 c190b1 c190b2 c190b3 A34 t392 t393 t396 A199 HC200 hnb201 hnc201 hnb202 hnc202 hnb203 hnc203 hnb204 hnc204 hnb205 hnc205 hcz206_0 hcz206_1 hfz206_0 hfz206_1 w207 hnb208 hnc208 hnb209 hnc209 hnb210 hnc210 hnb211 hnc211 hcz212_0 hcz212_1 hfz212_0 hfz212_1 w213 gb397 w214 BK351 BK357 BK363 BK370 BK376 BK384 HB BK397 GW397 GE397 NB351_397 NB397_351 NB357_397 NB397_357 NB363_397 NB397_363 NB370_397 NB397_370 NB376_397 NB397_376 NB384_397 NB397_384 hnb215 hnc215 hnb216 hnc216 hnb217 hnc217 hnb218 hnc218 hnb219 hnc219 hnb220 hnc220 hcz221_0 hcz221_1 hfz221_0 hfz221_1 Ao222 co222 HO_101 HO_352001 HO_358001 HO_364001 HO_371001 HO_377001 HO_385001 HO395 i214_ i215_ i216_ i217_ wc u26 u27 u28 u29 u30 u31 u32 u33 u34 u35 u36 u37 u38 u39 u40 u41 u42 u43 u44 u45 u46 u47 u48 u49 u50 u51 u52 u53 u54 u55 u56 u57 u58 u59 u60 u61 u62 u63 u64 u65 u66 u67 u68 u69 u70 u71 u72 u73 u74 u75 u76 u77 u78 u79 u80 u81 u82 u83 u84 u85 u86 u87 u88 u89 u90 u91 u92 u93 u94 u95 u96 u97 u98 u99 u100 u104 u105 u106 u107 u108 u109 u110 u111 u112 u113 u114 u115 u116 u117 u118 u119 u120 u121 u122 u123 u124 u125 u126 u127 u128 u129 u130 u131 u132 u133 u134 u135 u136 u137 u138 u139 u140 u141 u142 u143 u146 u147 u148 u149 u152 u153 u154 u155 u156 u157 u158 u159 u160 u161 u162 u163 u164 u165 u166 u167 u168 u169 u170 u171 u172 u173 u174 u175 u176 u177 u178 u179 u180 u181 u182 u183 u184 u185 u186 u187 u188 u189 u190 u191 u192 u193 u194 u195 hcut
 clear HC200;try clear c1
 try clear c2
 try clear p2
 try clear c3
 try clear p3
 try clear q3
 try clear hx3
 try clear c4
 try clear c5
 try clear c6
 try clear p6
 try clear c7
 try clear c8
 try clear c9
 try clear c10
 try clear c11
 try clear c12
 try clear c13
 try clear c14
 try clear c15
 try clear c16
 try clear c17
 try clear c18
 try clear c19
 try clear c20
 try clear c21
 try clear c22
 try clear c23
 try clear c25
 try clear c25b0
 try clear c25b1
 try clear c25b2
 try clear c27
 try clear c28
 try clear c30
 try clear c33
 try clear c37
 try clear c38
 try clear p38
 try clear q38
 try clear hx38
 try clear c42
 try clear c43
 try clear c44
 try clear c50
 try clear c51
 try clear c52
 try clear c53
 try clear c56
 try clear c56b0
 try clear c56b1
 try clear c56b2
 try clear c58
 try clear c60
 try clear c61
 try clear c62
 try clear c63
 try clear p64
 try clear c65
 try clear c66
 try clear c67
 try clear c70
 try clear c71
 try clear c74
 try clear c75
 try clear c76
 try clear c77
 try clear c79
 try clear c80
 try clear c81
 try clear c84
 try clear c85
 try clear c88
 try clear c89
 try clear c90
 try clear c91
 try clear c95
 try clear c96
 try clear c97
 try clear c98
 try clear c99
 try clear c102
 try clear c104
 try clear c106
 try clear c108
 try clear c109
 try clear c110
 try clear c111
 try clear c112
 try clear c114
 try clear c115
 try clear c116
 try clear c117
 try clear c120
 try clear c121
 try clear c122
 try clear c128
 try clear c129
 try clear c130
 try clear c131
 try clear c132
 try clear c134
 try clear c135
 try clear c136
 try clear c137
 try clear c140
 try clear c141
 try clear c142
 try clear c145
 try clear c146
 try clear c147
 try clear c148
 try clear c149
 try clear c151
 try clear c152
 try clear c153
 try clear c154
 try clear c157
 try clear c158
 try clear c159
 try clear c160
 try clear c161
 try clear c162
 try clear c164
 try clear c164b0
 try clear c165
 try clear c165b0
 try clear c166
 try clear c166b0
 try clear c167
 try clear c167b0
 try clear c168
 try clear c168b0
 try clear c168b1
 try clear c169
 try clear c170
 try clear c171
 try clear c172
 try clear c173
 try clear c174
 try clear c177
 try clear c178
 try clear c179
 try clear c180
 try clear c181
 try clear c183
 try clear c184
 try clear c185
 try clear c186
 try clear c187
 try clear c190
 try clear c190b0
 try clear c190b1
 try clear c190b2
 try clear c191
 try clear c192
 try clear c193
 try clear c194
 try clear c195
 try clear c198
 try clear c201
 try clear c202
 try clear c203
 try clear c204
 try clear c205
 try clear c208
 try clear c209
 try clear c210
 try clear c211
 try clear c215
 try clear c216
 try clear c217
 try clear c218
 try clear c219
 try clear c220
 try clear c223
 try clear c225
 try clear c226
 try clear c227
 try clear c228
 try clear c229
 try clear c230
 try clear c232
 try clear c233
 try clear c234
 try clear c235
 try clear c236
 try clear hcz100_0
 try clear hcz100_1
 try clear hcz113_0
 try clear hcz113_1
 try clear hcz118_0
 try clear hcz118_1
 try clear hcz11_0
 try clear hcz11_1
 try clear hcz123_0
 try clear hcz123_1
 try clear hcz125_0
 try clear hcz125_1
 try clear hcz126_0
 try clear hcz126_1
 try clear hcz133_0
 try clear hcz133_1
 try clear hcz138_0
 try clear hcz138_1
 try clear hcz143_0
 try clear hcz143_1
 try clear hcz150_0
 try clear hcz150_1
 try clear hcz155_0
 try clear hcz155_1
 try clear hcz163_0
 try clear hcz163_1
 try clear hcz16_0
 try clear hcz16_1
 try clear hcz175_0
 try clear hcz175_1
 try clear hcz182_0
 try clear hcz182_1
 try clear hcz188_0
 try clear hcz188_1
 try clear hcz18_0
 try clear hcz18_1
 try clear hcz196_0
 try clear hcz196_1
 try clear hcz206_0
 try clear hcz206_1
 try clear hcz212_0
 try clear hcz212_1
 try clear hcz221_0
 try clear hcz221_1
 try clear hcz231_0
 try clear hcz231_1
 try clear hcz237_0
 try clear hcz237_1
 try clear hcz23_0
 try clear hcz23_1
 try clear hcz29_0
 try clear hcz29_1
 try clear hcz31_0
 try clear hcz31_1
 try clear hcz39_0
 try clear hcz39_1
 try clear hcz45_0
 try clear hcz45_1
 try clear hcz47_0
 try clear hcz47_1
 try clear hcz54_0
 try clear hcz54_1
 try clear hcz64_0
 try clear hcz64_1
 try clear hcz68_0
 try clear hcz68_1
 try clear hcz72_0
 try clear hcz72_1
 try clear hcz78_0
 try clear hcz78_1
 try clear hcz82_0
 try clear hcz82_1
 try clear hcz92_0
 try clear hcz92_1
 try clear hfz100_0
 try clear hfz100_1
 try clear hfz113_0
 try clear hfz113_1
 try clear hfz118_0
 try clear hfz118_1
 try clear hfz11_0
 try clear hfz11_1
 try clear hfz123_0
 try clear hfz123_1
 try clear hfz125_0
 try clear hfz125_1
 try clear hfz126_0
 try clear hfz126_1
 try clear hfz133_0
 try clear hfz133_1
 try clear hfz138_0
 try clear hfz138_1
 try clear hfz143_0
 try clear hfz143_1
 try clear hfz150_0
 try clear hfz150_1
 try clear hfz155_0
 try clear hfz155_1
 try clear hfz163_0
 try clear hfz163_1
 try clear hfz16_0
 try clear hfz16_1
 try clear hfz175_0
 try clear hfz175_1
 try clear hfz182_0
 try clear hfz182_1
 try clear hfz188_0
 try clear hfz188_1
 try clear hfz18_0
 try clear hfz18_1
 try clear hfz196_0
 try clear hfz196_1
 try clear hfz206_0
 try clear hfz206_1
 try clear hfz212_0
 try clear hfz212_1
 try clear hfz221_0
 try clear hfz221_1
 try clear hfz231_0
 try clear hfz231_1
 try clear hfz237_0
 try clear hfz237_1
 try clear hfz23_0
 try clear hfz23_1
 try clear hfz29_0
 try clear hfz29_1
 try clear hfz31_0
 try clear hfz31_1
 try clear hfz39_0
 try clear hfz39_1
 try clear hfz45_0
 try clear hfz45_1
 try clear hfz47_0
 try clear hfz47_1
 try clear hfz54_0
 try clear hfz54_1
 try clear hfz64_0
 try clear hfz64_1
 try clear hfz68_0
 try clear hfz68_1
 try clear hfz72_0
 try clear hfz72_1
 try clear hfz78_0
 try clear hfz78_1
 try clear hfz82_0
 try clear hfz82_1
 try clear hfz92_0
 try clear hfz92_1
 try clear hx388_0
 try clear hx389_0
 try clear p2
 try clear p388
 try clear p389
 try clear q388
 try clear q389
 obtain ⟨kq,x141_199,rfl,HA,HJ199,HO_352001,HO_358001,HO_364001,HO_371001,HO_377001,HO_385001,HO_398001,BK351,BK357,BK363,BK370,BK376,BK384,BK397,HB⟩:=hcut;cases kq with
 | zero=>exact absurd HA.1 (by simp [Aab.j4])
 | succ kj199 =>
  have H:=HA.1;clear HA;simp only [Aab.j4] at H
  by_cases c239 : x141_199 = true
  ·subst c239;rw [if_pos rfl] at H;obtain rfl:=Option.some.inj H;go_wp2
   go_ret
   exact ⟨by first|rfl|(simp [errW_none,errW_some] <;> rfl)|(simp [*,errW_none,errW_some] <;> rfl),bb_⟩
  ·replace c239:=Bool.eq_false_iff.mpr c239;subst c239;rw [if_neg nf_] at H;have H':=A_ H;clear H;have hnb240:=NB370_351.1;have hnc240:=NB351_370.1;have hnb241:=NB370_357.1;have hnc241:=NB357_370.1;have hnb242:=NB370_363.1;have hnc242:=NB363_370.1;have hnb243:=NB370_376.1;have hnc243:=NB376_370.1;have hnb244:=NB370_384.1;have hnc244:=NB384_370.1;have hnb245:=NB370_397.1;have hnc245:=NB397_370.1;obtain ⟨Z,Z,Z,Z⟩:=o2_ BK370.1;go_wp2
   go_loopg [145] kj199 (fun kq v145 w'=>∃ (x145_6 : Int) (x352001_6 : List Int) (x358001_6 : List Int) (x364001_6 : List Int) (x371001_6 : List Int) (x377001_6 : List Int) (x385001_6 : List Int) (x398001_6 : List Int) (u352001 : Value) (u358001 : Value) (u364001 : Value) (u371001 : Value) (u377001 : Value) (u385001 : Value) (u398001 : Value),v145 = .int .i64 x145_6 ∧ Aside0 (Aab.l1 kq (t366.length : Int) x145_6 t365 x371001_6 = some r) ∧ Aside0 (kq ≤ kj199) ∧ Aside0 (Kd.R (Kd.int .i64) 3 w' w.heap.size (fun k_=>some k_ ≠ (u358001 : Value).ownBlock ∧ some k_ ≠ (u364001 : Value).ownBlock ∧ some k_ ≠ (u371001 : Value).ownBlock ∧ some k_ ≠ (u377001 : Value).ownBlock ∧ some k_ ≠ (u385001 : Value).ownBlock ∧ some k_ ≠ (u398001 : Value).ownBlock) u352001 x352001_6) ∧ Aside0 (Kd.R (Kd.int .i64) 3 w' w.heap.size (fun k_=>some k_ ≠ (u352001 : Value).ownBlock ∧ some k_ ≠ (u364001 : Value).ownBlock ∧ some k_ ≠ (u371001 : Value).ownBlock ∧ some k_ ≠ (u377001 : Value).ownBlock ∧ some k_ ≠ (u385001 : Value).ownBlock ∧ some k_ ≠ (u398001 : Value).ownBlock) u358001 x358001_6) ∧ Aside0 (Kd.R (Kd.int .i64) 3 w' w.heap.size (fun k_=>some k_ ≠ (u352001 : Value).ownBlock ∧ some k_ ≠ (u358001 : Value).ownBlock ∧ some k_ ≠ (u371001 : Value).ownBlock ∧ some k_ ≠ (u377001 : Value).ownBlock ∧ some k_ ≠ (u385001 : Value).ownBlock ∧ some k_ ≠ (u398001 : Value).ownBlock) u364001 x364001_6) ∧ Aside0 (Kd.R (Kd.int .i64) 3 w' w.heap.size (fun k_=>some k_ ≠ (u352001 : Value).ownBlock ∧ some k_ ≠ (u358001 : Value).ownBlock ∧ some k_ ≠ (u364001 : Value).ownBlock ∧ some k_ ≠ (u377001 : Value).ownBlock ∧ some k_ ≠ (u385001 : Value).ownBlock ∧ some k_ ≠ (u398001 : Value).ownBlock) u371001 x371001_6) ∧ Aside0 (Kd.R (Kd.int .i64) 3 w' w.heap.size (fun k_=>some k_ ≠ (u352001 : Value).ownBlock ∧ some k_ ≠ (u358001 : Value).ownBlock ∧ some k_ ≠ (u364001 : Value).ownBlock ∧ some k_ ≠ (u371001 : Value).ownBlock ∧ some k_ ≠ (u385001 : Value).ownBlock ∧ some k_ ≠ (u398001 : Value).ownBlock) u377001 x377001_6) ∧ Aside0 (Kd.R (Kd.int .i64) 3 w' w.heap.size (fun k_=>some k_ ≠ (u352001 : Value).ownBlock ∧ some k_ ≠ (u358001 : Value).ownBlock ∧ some k_ ≠ (u364001 : Value).ownBlock ∧ some k_ ≠ (u371001 : Value).ownBlock ∧ some k_ ≠ (u377001 : Value).ownBlock ∧ some k_ ≠ (u398001 : Value).ownBlock) u385001 x385001_6) ∧ Aside0 (Kd.R (Kd.int .i64) 3 w' w.heap.size (fun k_=>some k_ ≠ (u352001 : Value).ownBlock ∧ some k_ ≠ (u358001 : Value).ownBlock ∧ some k_ ≠ (u364001 : Value).ownBlock ∧ some k_ ≠ (u371001 : Value).ownBlock ∧ some k_ ≠ (u377001 : Value).ownBlock ∧ some k_ ≠ (u385001 : Value).ownBlock) u398001 x398001_6) ∧ Aside0 (w'.heap[gb351]? = some (.cells #[.int .i64 t347,u352001] 26 (0,0))) ∧ Aside0 (w'.heap[gb357]? = some (.cells #[.int .i64 t352,u358001] 26 (0,0))) ∧ Aside0 (w'.heap[gb363]? = some (.cells #[.int .i64 t358,u364001] 26 (0,0))) ∧ Aside0 (w'.heap[gb370]? = some (.cells #[.int .i64 t365,u371001] 26 (0,0))) ∧ Aside0 (w'.heap[gb376]? = some (.cells #[.int .i64 t371,u377001] 26 (0,0))) ∧ Aside0 (w'.heap[gb384]? = some (.cells #[.int .i64 t379,u385001] 26 (0,0))) ∧ Aside0 (w'.heap[gb397]? = some (.cells #[.int .i64 t392,u398001] 26 (0,0))) ∧ Aside0 (Below w.heap.size w w'))
   case atStart=>exact ⟨(0),(t348),(t353),(t359),(t366),(t372),(t380),(t393),(.slice Ao12 t348.length co12),(.slice Ao17 t353.length co17),(.slice Ao24 t359.length co24),(.slice Ao46 t366.length co46),(.slice Ao55 t372.length co55),(.slice Ao101 t380.length co101),(.slice Ao222 t393.length co222),(by first|rfl|(simp;done)|(simp [*];done)),H',⟨Nat.le_refl _⟩,⟨rl_ HO_352001⟩,⟨rl_ HO_358001⟩,⟨rl_ HO_364001⟩,⟨rl_ HO_371001⟩,⟨rl_ HO_377001⟩,⟨rl_ HO_385001⟩,⟨rl_ HO_398001⟩,⟨bl_ BK351⟩,⟨bl_ BK357⟩,⟨bl_ BK363⟩,⟨bl_ BK370⟩,⟨bl_ BK376⟩,⟨bl_ BK384⟩,⟨bl_ BK397⟩,⟨bb_⟩⟩
   case round =>
    clear H';try clear c1
    try clear c2
    try clear p2
    try clear c3
    try clear p3
    try clear q3
    try clear hx3
    try clear c4
    try clear c5
    try clear c6
    try clear p6
    try clear c7
    try clear c8
    try clear c9
    try clear c10
    try clear c11
    try clear c12
    try clear c13
    try clear c14
    try clear c15
    try clear c16
    try clear c17
    try clear c18
    try clear c19
    try clear c20
    try clear c21
    try clear c22
    try clear c23
    try clear c24
    try clear c25
    try clear c25b0
    try clear c25b1
    try clear c25b2
    try clear c27
    try clear c28
    try clear c30
    try clear c33
    try clear c37
    try clear c38
    try clear p38
    try clear q38
    try clear hx38
    try clear c42
    try clear c43
    try clear c44
    try clear c50
    try clear c51
    try clear c52
    try clear c53
    try clear c56
    try clear c56b0
    try clear c56b1
    try clear c56b2
    try clear c58
    try clear c60
    try clear c61
    try clear c62
    try clear c63
    try clear p64
    try clear c65
    try clear c66
    try clear c67
    try clear c70
    try clear c71
    try clear c74
    try clear c75
    try clear c76
    try clear c77
    try clear c79
    try clear c80
    try clear c81
    try clear c84
    try clear c85
    try clear c88
    try clear c89
    try clear c90
    try clear c91
    try clear c95
    try clear c96
    try clear c97
    try clear c98
    try clear c99
    try clear c102
    try clear c104
    try clear c106
    try clear c108
    try clear c109
    try clear c110
    try clear c111
    try clear c112
    try clear c114
    try clear c115
    try clear c116
    try clear c117
    try clear c120
    try clear c121
    try clear c122
    try clear c128
    try clear c129
    try clear c130
    try clear c131
    try clear c132
    try clear c134
    try clear c135
    try clear c136
    try clear c137
    try clear c140
    try clear c141
    try clear c142
    try clear c145
    try clear c146
    try clear c147
    try clear c148
    try clear c149
    try clear c151
    try clear c152
    try clear c153
    try clear c154
    try clear c157
    try clear c158
    try clear c159
    try clear c160
    try clear c161
    try clear c162
    try clear c164
    try clear c164b0
    try clear c165
    try clear c165b0
    try clear c166
    try clear c166b0
    try clear c167
    try clear c167b0
    try clear c168
    try clear c168b0
    try clear c168b1
    try clear c169
    try clear c170
    try clear c171
    try clear c172
    try clear c173
    try clear c174
    try clear c177
    try clear c178
    try clear c179
    try clear c180
    try clear c181
    try clear c183
    try clear c184
    try clear c185
    try clear c186
    try clear c187
    try clear c190
    try clear c190b0
    try clear c190b1
    try clear c190b2
    try clear c191
    try clear c192
    try clear c193
    try clear c194
    try clear c195
    try clear c198
    try clear c201
    try clear c202
    try clear c203
    try clear c204
    try clear c205
    try clear c208
    try clear c209
    try clear c210
    try clear c211
    try clear c215
    try clear c216
    try clear c217
    try clear c218
    try clear c219
    try clear c220
    try clear c223
    try clear c225
    try clear c226
    try clear c227
    try clear c228
    try clear c229
    try clear c230
    try clear c232
    try clear c233
    try clear c234
    try clear c235
    try clear c236
    try clear c239
    try clear c240
    try clear c241
    try clear c242
    try clear c243
    try clear c244
    try clear c245
    try clear hcz100_0
    try clear hcz100_1
    try clear hcz113_0
    try clear hcz113_1
    try clear hcz118_0
    try clear hcz118_1
    try clear hcz11_0
    try clear hcz11_1
    try clear hcz123_0
    try clear hcz123_1
    try clear hcz125_0
    try clear hcz125_1
    try clear hcz126_0
    try clear hcz126_1
    try clear hcz133_0
    try clear hcz133_1
    try clear hcz138_0
    try clear hcz138_1
    try clear hcz143_0
    try clear hcz143_1
    try clear hcz150_0
    try clear hcz150_1
    try clear hcz155_0
    try clear hcz155_1
    try clear hcz163_0
    try clear hcz163_1
    try clear hcz16_0
    try clear hcz16_1
    try clear hcz175_0
    try clear hcz175_1
    try clear hcz182_0
    try clear hcz182_1
    try clear hcz188_0
    try clear hcz188_1
    try clear hcz18_0
    try clear hcz18_1
    try clear hcz196_0
    try clear hcz196_1
    try clear hcz206_0
    try clear hcz206_1
    try clear hcz212_0
    try clear hcz212_1
    try clear hcz221_0
    try clear hcz221_1
    try clear hcz231_0
    try clear hcz231_1
    try clear hcz237_0
    try clear hcz237_1
    try clear hcz23_0
    try clear hcz23_1
    repeat clear Z
    try clear hcz29_0
    try clear hcz29_1
    try clear hcz31_0
    try clear hcz31_1
    try clear hcz39_0
    try clear hcz39_1
    try clear hcz45_0
    try clear hcz45_1
    try clear hcz47_0
    try clear hcz47_1
    try clear hcz54_0
    try clear hcz54_1
    try clear hcz64_0
    try clear hcz64_1
    try clear hcz68_0
    try clear hcz68_1
    try clear hcz72_0
    try clear hcz72_1
    try clear hcz78_0
    try clear hcz78_1
    try clear hcz82_0
    try clear hcz82_1
    try clear hcz92_0
    try clear hcz92_1
    try clear hfz100_0
    try clear hfz100_1
    try clear hfz113_0
    try clear hfz113_1
    try clear hfz118_0
    try clear hfz118_1
    try clear hfz11_0
    try clear hfz11_1
    try clear hfz123_0
    try clear hfz123_1
    try clear hfz125_0
    try clear hfz125_1
    try clear hfz126_0
    try clear hfz126_1
    try clear hfz133_0
    try clear hfz133_1
    try clear hfz138_0
    try clear hfz138_1
    try clear hfz143_0
    try clear hfz143_1
    try clear hfz150_0
    try clear hfz150_1
    try clear hfz155_0
    try clear hfz155_1
    try clear hfz163_0
    try clear hfz163_1
    try clear hfz16_0
    try clear hfz16_1
    try clear hfz175_0
    try clear hfz175_1
    try clear hfz182_0
    try clear hfz182_1
    try clear hfz188_0
    try clear hfz188_1
    try clear hfz18_0
    try clear hfz18_1
    try clear hfz196_0
    try clear hfz196_1
    try clear hfz206_0
    try clear hfz206_1
    try clear hfz212_0
    try clear hfz212_1
    try clear hfz221_0
    try clear hfz221_1
    try clear hfz231_0
    try clear hfz231_1
    try clear hfz237_0
    try clear hfz237_1
    try clear hfz23_0
    try clear hfz23_1
    repeat clear Z
    try clear hfz29_0
    try clear hfz29_1
    try clear hfz31_0
    try clear hfz31_1
    try clear hfz39_0
    try clear hfz39_1
    try clear hfz45_0
    try clear hfz45_1
    try clear hfz47_0
    try clear hfz47_1
    try clear hfz54_0
    try clear hfz54_1
    try clear hfz64_0
    try clear hfz64_1
    try clear hfz68_0
    try clear hfz68_1
    try clear hfz72_0
    try clear hfz72_1
    try clear hfz78_0
    try clear hfz78_1
    try clear hfz82_0
    try clear hfz82_1
    try clear hfz92_0
    try clear hfz92_1
    try clear hx388_0
    try clear hx389_0
    try clear p2
    try clear p3
    try clear p38
    try clear p388
    try clear p389
    try clear p6
    try clear p64
    try clear q3
    try clear q38
    try clear q388
    try clear q389
    obtain ⟨x145_6,x352001_6,x358001_6,x364001_6,x371001_6,x377001_6,x385001_6,x398001_6,u352001,u358001,u364001,u371001,u377001,u385001,u398001,rfl,HA,HK6,HO_352001,HO_358001,HO_364001,HO_371001,HO_377001,HO_385001,HO_398001,BK351,BK357,BK363,BK370,BK376,BK384,BK397,HB⟩:=hrel;cases gk with
    | zero=>exact absurd HA.1 (by simp [Aab.l1])
    | succ k6 =>
     have H:=HA.1;clear HA;simp only [Aab.l1] at H
     by_cases c247 : x145_6 < (t366.length : Int)
     ·rw [if_pos c247] at H;have c247b0 : decide (x145_6 < (t366.length : Int)) = true:=decide_eq_true c247;clear c247;have H':=A_ H;clear H;have hnb248:=NB370_351.1;have hnc248:=NB351_370.1;have hnb249:=NB370_357.1;have hnc249:=NB357_370.1;have hnb250:=NB370_363.1;have hnc250:=NB363_370.1;have hnb251:=NB370_376.1;have hnc251:=NB376_370.1;have hnb252:=NB370_384.1;have hnc252:=NB384_370.1;have hnb253:=NB370_397.1;have hnc253:=NB397_370.1;obtain ⟨Z,Z,Z,Z⟩:=o2_ BK370.1;obtain ⟨Ao255,co255,eo255⟩:=Kd.R_slice HO_371001.1;subst eo255;go_wp2
      go_loopg [151] k6 (fun kq v151 w'=>∃ (x151_7 : Int) (x352001_7 : List Int) (x358001_7 : List Int) (x364001_7 : List Int) (x371001_7 : List Int) (x377001_7 : List Int) (x385001_7 : List Int) (x398001_7 : List Int) (u352001 : Value) (u358001 : Value) (u364001 : Value) (u371001 : Value) (u377001 : Value) (u385001 : Value) (u398001 : Value),v151 = .int .i64 x151_7 ∧ Aside0 (Aab.l2 kq x145_6 (t366.length : Int) x145_6 (x371001_6.length : Int) x151_7 t365 x371001_7 = some r) ∧ Aside0 (kq ≤ k6) ∧ Aside0 (Kd.R (Kd.int .i64) 3 w' w.heap.size (fun k_=>some k_ ≠ (u358001 : Value).ownBlock ∧ some k_ ≠ (u364001 : Value).ownBlock ∧ some k_ ≠ (u371001 : Value).ownBlock ∧ some k_ ≠ (u377001 : Value).ownBlock ∧ some k_ ≠ (u385001 : Value).ownBlock ∧ some k_ ≠ (u398001 : Value).ownBlock) u352001 x352001_7) ∧ Aside0 (Kd.R (Kd.int .i64) 3 w' w.heap.size (fun k_=>some k_ ≠ (u352001 : Value).ownBlock ∧ some k_ ≠ (u364001 : Value).ownBlock ∧ some k_ ≠ (u371001 : Value).ownBlock ∧ some k_ ≠ (u377001 : Value).ownBlock ∧ some k_ ≠ (u385001 : Value).ownBlock ∧ some k_ ≠ (u398001 : Value).ownBlock) u358001 x358001_7) ∧ Aside0 (Kd.R (Kd.int .i64) 3 w' w.heap.size (fun k_=>some k_ ≠ (u352001 : Value).ownBlock ∧ some k_ ≠ (u358001 : Value).ownBlock ∧ some k_ ≠ (u371001 : Value).ownBlock ∧ some k_ ≠ (u377001 : Value).ownBlock ∧ some k_ ≠ (u385001 : Value).ownBlock ∧ some k_ ≠ (u398001 : Value).ownBlock) u364001 x364001_7) ∧ Aside0 (Kd.R (Kd.int .i64) 3 w' w.heap.size (fun k_=>some k_ ≠ (u352001 : Value).ownBlock ∧ some k_ ≠ (u358001 : Value).ownBlock ∧ some k_ ≠ (u364001 : Value).ownBlock ∧ some k_ ≠ (u377001 : Value).ownBlock ∧ some k_ ≠ (u385001 : Value).ownBlock ∧ some k_ ≠ (u398001 : Value).ownBlock) u371001 x371001_7) ∧ Aside0 (Kd.R (Kd.int .i64) 3 w' w.heap.size (fun k_=>some k_ ≠ (u352001 : Value).ownBlock ∧ some k_ ≠ (u358001 : Value).ownBlock ∧ some k_ ≠ (u364001 : Value).ownBlock ∧ some k_ ≠ (u371001 : Value).ownBlock ∧ some k_ ≠ (u385001 : Value).ownBlock ∧ some k_ ≠ (u398001 : Value).ownBlock) u377001 x377001_7) ∧ Aside0 (Kd.R (Kd.int .i64) 3 w' w.heap.size (fun k_=>some k_ ≠ (u352001 : Value).ownBlock ∧ some k_ ≠ (u358001 : Value).ownBlock ∧ some k_ ≠ (u364001 : Value).ownBlock ∧ some k_ ≠ (u371001 : Value).ownBlock ∧ some k_ ≠ (u377001 : Value).ownBlock ∧ some k_ ≠ (u398001 : Value).ownBlock) u385001 x385001_7) ∧ Aside0 (Kd.R (Kd.int .i64) 3 w' w.heap.size (fun k_=>some k_ ≠ (u352001 : Value).ownBlock ∧ some k_ ≠ (u358001 : Value).ownBlock ∧ some k_ ≠ (u364001 : Value).ownBlock ∧ some k_ ≠ (u371001 : Value).ownBlock ∧ some k_ ≠ (u377001 : Value).ownBlock ∧ some k_ ≠ (u385001 : Value).ownBlock) u398001 x398001_7) ∧ Aside0 (w'.heap[gb351]? = some (.cells #[.int .i64 t347,u352001] 26 (0,0))) ∧ Aside0 (w'.heap[gb357]? = some (.cells #[.int .i64 t352,u358001] 26 (0,0))) ∧ Aside0 (w'.heap[gb363]? = some (.cells #[.int .i64 t358,u364001] 26 (0,0))) ∧ Aside0 (w'.heap[gb370]? = some (.cells #[.int .i64 t365,u371001] 26 (0,0))) ∧ Aside0 (w'.heap[gb376]? = some (.cells #[.int .i64 t371,u377001] 26 (0,0))) ∧ Aside0 (w'.heap[gb384]? = some (.cells #[.int .i64 t379,u385001] 26 (0,0))) ∧ Aside0 (w'.heap[gb397]? = some (.cells #[.int .i64 t392,u398001] 26 (0,0))) ∧ Aside0 (Below w.heap.size w w'))
      case atStart=>exact ⟨(0),(x352001_6),(x358001_6),(x364001_6),(x371001_6),(x377001_6),(x385001_6),(x398001_6),(u352001),(u358001),(u364001),(.slice Ao255 x371001_6.length co255),(u377001),(u385001),(u398001),(by first|rfl|(simp;done)|(simp [*];done)),H',⟨Nat.le_refl _⟩,⟨rl_ HO_352001⟩,⟨rl_ HO_358001⟩,⟨rl_ HO_364001⟩,⟨rl_ HO_371001⟩,⟨rl_ HO_377001⟩,⟨rl_ HO_385001⟩,⟨rl_ HO_398001⟩,⟨bl_ BK351⟩,⟨bl_ BK357⟩,⟨bl_ BK363⟩,⟨bl_ BK370⟩,⟨bl_ BK376⟩,⟨bl_ BK384⟩,⟨bl_ BK397⟩,⟨bb_⟩⟩
      case round =>
       clear H';try clear c1
       try clear c2
       try clear p2
       try clear c3
       try clear p3
       try clear q3
       try clear hx3
       try clear c4
       try clear c5
       try clear c6
       try clear p6
       try clear c7
       try clear c8
       try clear c9
       try clear c10
       try clear c11
       try clear c12
       try clear c13
       try clear c14
       try clear c15
       try clear c16
       try clear c17
       try clear c18
       try clear c19
       try clear c20
       try clear c21
       try clear c22
       try clear c23
       try clear c24
       try clear c25
       try clear c25b0
       try clear c25b1
       try clear c25b2
       try clear c27
       try clear c28
       try clear c30
       try clear c33
       try clear c37
       try clear c38
       try clear p38
       try clear q38
       try clear hx38
       try clear c42
       try clear c43
       try clear c44
       try clear c50
       try clear c51
       try clear c52
       try clear c53
       try clear c56
       try clear c56b0
       try clear c56b1
       try clear c56b2
       try clear c58
       try clear c60
       try clear c61
       try clear c62
       try clear c63
       try clear p64
       try clear c65
       try clear c66
       try clear c67
       try clear c70
       try clear c71
       try clear c74
       try clear c75
       try clear c76
       try clear c77
       try clear c79
       try clear c80
       try clear c81
       try clear c84
       try clear c85
       try clear c88
       try clear c89
       try clear c90
       try clear c91
       try clear c95
       try clear c96
       try clear c97
       try clear c98
       try clear c99
       try clear c102
       try clear c104
       try clear c106
       try clear c108
       try clear c109
       try clear c110
       try clear c111
       try clear c112
       try clear c114
       try clear c115
       try clear c116
       try clear c117
       try clear c120
       try clear c121
       try clear c122
       try clear c128
       try clear c129
       try clear c130
       try clear c131
       try clear c132
       try clear c134
       try clear c135
       try clear c136
       try clear c137
       try clear c140
       try clear c141
       try clear c142
       try clear c145
       try clear c146
       try clear c147
       try clear c148
       try clear c149
       try clear c151
       try clear c152
       try clear c153
       try clear c154
       try clear c157
       try clear c158
       try clear c159
       try clear c160
       try clear c161
       try clear c162
       try clear c164
       try clear c164b0
       try clear c165
       try clear c165b0
       try clear c166
       try clear c166b0
       try clear c167
       try clear c167b0
       try clear c168
       try clear c168b0
       try clear c168b1
       try clear c169
       try clear c170
       try clear c171
       try clear c172
       try clear c173
       try clear c174
       try clear c177
       try clear c178
       try clear c179
       try clear c180
       try clear c181
       try clear c183
       try clear c184
       try clear c185
       try clear c186
       try clear c187
       try clear c190
       try clear c190b0
       try clear c190b1
       try clear c190b2
       try clear c191
       try clear c192
       try clear c193
       try clear c194
       try clear c195
       try clear c198
       try clear c201
       try clear c202
       try clear c203
       try clear c204
       try clear c205
       try clear c208
       try clear c209
       try clear c210
       try clear c211
       try clear c215
       try clear c216
       try clear c217
       try clear c218
       try clear c219
       try clear c220
       try clear c223
       try clear c225
       try clear c226
       try clear c227
       try clear c228
       try clear c229
       try clear c230
       try clear c232
       try clear c233
       try clear c234
       try clear c235
       try clear c236
       try clear c239
       try clear c240
       try clear c241
       try clear c242
       try clear c243
       try clear c244
       try clear c245
       try clear c247
       try clear c247b0
       try clear c248
       try clear c249
       try clear c250
       try clear c251
       try clear c252
       try clear c253
       try clear hcz100_0
       try clear hcz100_1
       try clear hcz113_0
       try clear hcz113_1
       try clear hcz118_0
       try clear hcz118_1
       try clear hcz11_0
       try clear hcz11_1
       try clear hcz123_0
       try clear hcz123_1
       try clear hcz125_0
       try clear hcz125_1
       try clear hcz126_0
       try clear hcz126_1
       try clear hcz133_0
       try clear hcz133_1
       try clear hcz138_0
       try clear hcz138_1
       try clear hcz143_0
       try clear hcz143_1
       try clear hcz150_0
       try clear hcz150_1
       try clear hcz155_0
       try clear hcz155_1
       try clear hcz163_0
       try clear hcz163_1
       try clear hcz16_0
       try clear hcz16_1
       try clear hcz175_0
       try clear hcz175_1
       try clear hcz182_0
       try clear hcz182_1
       try clear hcz188_0
       try clear hcz188_1
       try clear hcz18_0
       try clear hcz18_1
       try clear hcz196_0
       try clear hcz196_1
       try clear hcz206_0
       try clear hcz206_1
       try clear hcz212_0
       try clear hcz212_1
       try clear hcz221_0
       try clear hcz221_1
       try clear hcz231_0
       try clear hcz231_1
       try clear hcz237_0
       try clear hcz237_1
       try clear hcz23_0
       try clear hcz23_1
       repeat clear Z
       try clear hcz29_0
       try clear hcz29_1
       try clear hcz31_0
       try clear hcz31_1
       try clear hcz39_0
       try clear hcz39_1
       try clear hcz45_0
       try clear hcz45_1
       try clear hcz47_0
       try clear hcz47_1
       try clear hcz54_0
       try clear hcz54_1
       try clear hcz64_0
       try clear hcz64_1
       try clear hcz68_0
       try clear hcz68_1
       try clear hcz72_0
       try clear hcz72_1
       try clear hcz78_0
       try clear hcz78_1
       try clear hcz82_0
       try clear hcz82_1
       try clear hcz92_0
       try clear hcz92_1
       try clear hfz100_0
       try clear hfz100_1
       try clear hfz113_0
       try clear hfz113_1
       try clear hfz118_0
       try clear hfz118_1
       try clear hfz11_0
       try clear hfz11_1
       try clear hfz123_0
       try clear hfz123_1
       try clear hfz125_0
       try clear hfz125_1
       try clear hfz126_0
       try clear hfz126_1
       try clear hfz133_0
       try clear hfz133_1
       try clear hfz138_0
       try clear hfz138_1
       try clear hfz143_0
       try clear hfz143_1
       try clear hfz150_0
       try clear hfz150_1
       try clear hfz155_0
       try clear hfz155_1
       try clear hfz163_0
       try clear hfz163_1
       try clear hfz16_0
       try clear hfz16_1
       try clear hfz175_0
       try clear hfz175_1
       try clear hfz182_0
       try clear hfz182_1
       try clear hfz188_0
       try clear hfz188_1
       try clear hfz18_0
       try clear hfz18_1
       try clear hfz196_0
       try clear hfz196_1
       try clear hfz206_0
       try clear hfz206_1
       try clear hfz212_0
       try clear hfz212_1
       try clear hfz221_0
       try clear hfz221_1
       try clear hfz231_0
       try clear hfz231_1
       try clear hfz237_0
       try clear hfz237_1
       try clear hfz23_0
       try clear hfz23_1
       repeat clear Z
       try clear hfz29_0
       try clear hfz29_1
       try clear hfz31_0
       try clear hfz31_1
       try clear hfz39_0
       try clear hfz39_1
       try clear hfz45_0
       try clear hfz45_1
       try clear hfz47_0
       try clear hfz47_1
       try clear hfz54_0
       try clear hfz54_1
       try clear hfz64_0
       try clear hfz64_1
       try clear hfz68_0
       try clear hfz68_1
       try clear hfz72_0
       try clear hfz72_1
       try clear hfz78_0
       try clear hfz78_1
       try clear hfz82_0
       try clear hfz82_1
       try clear hfz92_0
       try clear hfz92_1
       try clear hx388_0
       try clear hx389_0
       try clear p2
       try clear p3
       try clear p38
       try clear p388
       try clear p389
       try clear p6
       try clear p64
       try clear q3
       try clear q38
       try clear q388
       try clear q389
       obtain ⟨x151_7,x352001_7,x358001_7,x364001_7,x371001_7,x377001_7,x385001_7,x398001_7,u352001,u358001,u364001,u371001,u377001,u385001,u398001,rfl,HA,HK7,HO_352001,HO_358001,HO_364001,HO_371001,HO_377001,HO_385001,HO_398001,BK351,BK357,BK363,BK370,BK376,BK384,BK397,HB⟩:=hrel;cases gk with
       | zero=>exact absurd HA.1 (by simp [Aab.l2])
       | succ k7 =>
        have H:=HA.1;clear HA;simp only [Aab.l2] at H
        by_cases c256 : x151_7 < (x371001_6.length : Int)
        ·rw [if_pos c256] at H;have c256b0 : decide (x151_7 < (x371001_6.length : Int)) = true:=decide_eq_true c256;clear c256;by_cases c257 : 0 ≤ x145_6
         ·rw [if_pos c257] at H;have c257b0 : decide (0 ≤ x145_6) = true:=decide_eq_true c257;clear c257;by_cases c258 : x145_6 < (x371001_7.length : Int)
          ·rw [if_pos c258] at H;have c258b0 : decide (x145_6 < (x371001_7.length : Int)) = true:=decide_eq_true c258;clear c258;replace H:=Option.bind_eq_some_iff.mp H;obtain ⟨t400,A2590,H⟩:=H;(try dsimp only at H);have A259:=A_ A2590;clear A2590;by_cases c260 : t400 = true
           ·subst c260;rw [if_pos rfl] at H;obtain ⟨y401,hy401⟩ : ∃ y_ : List Int,y_ = (([] : List Int)):=⟨_,rfl⟩;replace H : (if y401.length + x371001_7.length < 17592186044416 then ((some (y401 ++ x371001_7 : List Int)).bind fun y404=>(if x145_6 < (y404.length : Int) then (if 0 ≤ x151_7 then ((Aal.f k7 t365 (y404.set (x145_6 : Int).toNat (wrap64 ((rd y404 x145_6) - (shl .i64 1 x151_7))))).bind fun bt410=>(if bt410.2.2 = true then (if x145_6 < (bt410.2.1.length : Int) then ((Aa8.f (rd bt410.2.1 x145_6) x151_7).bind fun t417=>(if t417 = true then (some false) else (Aab.l2 k7 x145_6 (t366.length : Int) x145_6 (x371001_6.length : Int) (wrap64 (x151_7 + 1)) t365 x371001_7))) else (none)) else (some false))) else (none)) else (none))) else (none)) = some r:=by first|(rw [hy401];with_reducible exact H)|(have H2_:=(Option.bind_some _ _).symm.trans H;rw [hy401];with_reducible exact H2_)|(have H2_:=(Option.bind_some _ _).symm.trans H;with_reducible exact H2_)|with_reducible exact H|(rw [hy401];exact H)|exact H
            have Ny401:=A_ hy401;clear hy401;by_cases c261 : y401.length + x371001_7.length < 17592186044416
            ·rw [if_pos c261] at H;have LMc261:=A_ c261;clear c261;obtain ⟨y404,hy404⟩ : ∃ y_ : List Int,y_ = (y401 ++ x371001_7):=⟨_,rfl⟩;replace H : (if x145_6 < (y404.length : Int) then (if 0 ≤ x151_7 then ((Aal.f k7 t365 (y404.set (x145_6 : Int).toNat (wrap64 ((rd y404 x145_6) - (shl .i64 1 x151_7))))).bind fun bt410=>(if bt410.2.2 = true then (if x145_6 < (bt410.2.1.length : Int) then ((Aa8.f (rd bt410.2.1 x145_6) x151_7).bind fun t417=>(if t417 = true then (some false) else (Aab.l2 k7 x145_6 (t366.length : Int) x145_6 (x371001_6.length : Int) (wrap64 (x151_7 + 1)) t365 x371001_7))) else (none)) else (some false))) else (none)) else (none)) = some r:=by first|(rw [hy404];with_reducible exact H)|(have H2_:=(Option.bind_some _ _).symm.trans H;rw [hy404];with_reducible exact H2_)|(have H2_:=(Option.bind_some _ _).symm.trans H;with_reducible exact H2_)|with_reducible exact H|(rw [hy404];exact H)|exact H
             have Ny404:=A_ hy404;clear hy404;by_cases c262 : x145_6 < (y404.length : Int)
             ·rw [if_pos c262] at H;have c262b0 : decide (x145_6 < (y404.length : Int)) = true:=decide_eq_true c262;clear c262;by_cases c263 : 0 ≤ x151_7
              ·rw [if_pos c263] at H;have c263b0:=eq_true c263;have c263b1 : decide (0 ≤ x151_7) = true:=decide_eq_true c263;clear c263;obtain ⟨ji264,hji264⟩ : ∃ j_ : Int,(shl .i64 1 x151_7) = j_:=⟨_,rfl⟩;replace H : ((Aal.f k7 t365 (y404.set (x145_6 : Int).toNat (wrap64 ((rd y404 x145_6) - (ji264))))).bind fun bt410=>(if bt410.2.2 = true then (if x145_6 < (bt410.2.1.length : Int) then ((Aa8.f (rd bt410.2.1 x145_6) x151_7).bind fun t417=>(if t417 = true then (some false) else (Aab.l2 k7 x145_6 (t366.length : Int) x145_6 (x371001_6.length : Int) (wrap64 (x151_7 + 1)) t365 x371001_7))) else (none)) else (some false))) = some r:=by first|(rw [hji264] at H;exact H)|(simp only [hji264] at H ⊢;exact H)
               (try rw [hji264] at A259);have hji264_ : (IntKind.i64.wrap (1 * 2 ^ min x151_7.toNat 64)) = ji264:=hji264;have hji264z : x151_7 ≤ 64 → (IntKind.i64.wrap (1 * 2 ^ x151_7.toNat)) = ji264:=shl_small hji264;have hji264u : (IntKind.i64.wrap (2 ^ min x151_7.toNat 64)) = ji264:=by have h_:=hji264_;rw [Int.one_mul] at h_;exact h_
               have hji264v : x151_7 ≤ 64 → (IntKind.i64.wrap (2 ^ x151_7.toNat)) = ji264:=fun hle_=>by have h_:=hji264z hle_;rw [Int.one_mul] at h_;exact h_
               have hji264y : (wrap64 (1 * 2 ^ min x151_7.toNat 64)) = ji264:=(i64_w _).symm.trans hji264_;have hji264x : x151_7 ≤ 64 → (wrap64 (1 * 2 ^ x151_7.toNat)) = ji264:=fun h_=>(i64_w _).symm.trans (hji264z h_)
               obtain ⟨y409,hy409⟩ : ∃ y_ : List Int,y_ = (y404.set (x145_6 : Int).toNat (wrap64 ((rd y404 x145_6) - (ji264)))):=⟨_,rfl⟩;replace H : ((Aal.f k7 t365 y409).bind fun bt410=>(if bt410.2.2 = true then (if x145_6 < (bt410.2.1.length : Int) then ((Aa8.f (rd bt410.2.1 x145_6) x151_7).bind fun t417=>(if t417 = true then (some false) else (Aab.l2 k7 x145_6 (t366.length : Int) x145_6 (x371001_6.length : Int) (wrap64 (x151_7 + 1)) t365 x371001_7))) else (none)) else (some false))) = some r:=by first|(rw [hy409];with_reducible exact H)|(have H2_:=(Option.bind_some _ _).symm.trans H;rw [hy409];with_reducible exact H2_)|(have H2_:=(Option.bind_some _ _).symm.trans H;with_reducible exact H2_)|with_reducible exact H|(rw [hy409];exact H)|exact H
               have Ny409:=A_ hy409;clear hy409;replace H:=Option.bind_eq_some_iff.mp H;obtain ⟨⟨t410,t411,t414⟩,A2660,H⟩:=H;(try dsimp only at H);have A266:=A_ A2660;clear A2660;by_cases c267 : t414 = true
               ·subst c267;rw [if_pos rfl] at H;by_cases c268 : x145_6 < (t411.length : Int)
                ·rw [if_pos c268] at H;have c268b0 : decide (x145_6 < (t411.length : Int)) = true:=decide_eq_true c268;clear c268;replace H:=Option.bind_eq_some_iff.mp H;obtain ⟨t417,A2690,H⟩:=H;(try dsimp only at H);have A269:=A_ A2690;clear A2690;by_cases c270 : t417 = true
                 ·
                  rename_i i0_ i1_ i2_ i3_ i4_ i5_ i6_ i7_ i8_ i9_ i10_ i11_ i12_ i13_ i14_ i15_ i16_ i17_ i18_ i19_ i20_ i21_ i22_ i23_ i24_ i25_ i26_ i27_ i28_ i29_ i30_ i31_ i32_ i33_ i34_ i35_ i36_ i37_ i38_ i39_ i40_ i41_ i42_ i43_ i44_ i45_ i46_ i47_ i48_ i49_ i50_ i51_ i52_ i53_ i54_ i55_ i56_ i57_ i58_ i59_ i60_ i61_ i62_ i63_ i64_ i65_ i66_ i67_ i68_ i69_ i70_ i71_ i72_ i73_ i74_ i75_ i76_ i77_ i78_ i79_ i80_ i81_ i82_ i83_ i84_ i85_ i86_ i87_ i88_ i89_ i90_ i91_ i92_ i93_ i94_ i95_ i96_ i97_ i98_ i99_ i100_ i101_ i102_ i103_ i104_ i105_ i106_ i107_ i108_ i109_ i110_ i111_ i112_ i113_ i114_ i115_ i116_ i117_ i118_ i119_ i120_ i121_ i122_ i123_ i124_ i125_ i126_ i127_ i128_ i129_ i130_ i131_ i132_ i133_ i134_ i135_ i136_ i137_ i138_ i139_ i140_ i141_ i142_ i143_ i144_ i145_ i146_ i147_ i148_ i149_ i150_ i151_ i152_ i153_ i154_ i155_ i156_ i157_ i158_ i159_ i160_
                  clear i0_ i1_ i2_ i3_ i4_ i5_ i6_ i7_ i8_ i9_ i10_ i11_ i12_ i13_ i14_ i15_ i16_ i17_ i18_ i19_ i20_ i21_ i22_ i23_ i24_ i25_ i26_ i27_ i28_ i29_ i30_ i31_ i32_ i33_ i34_ i35_ i36_ i37_ i38_ i39_ i40_ i41_ i42_ i43_ i44_ i45_ i46_ i47_ i48_ i49_ i50_ i51_ i52_ i53_ i54_ i55_ i56_ i57_ i58_ i59_ i60_ i61_ i62_ i63_ i64_ i65_ i66_ i67_ i68_ i69_ i70_ i71_ i72_ i73_ i74_ i75_ i76_ i77_ i78_ i81_ i82_ i83_ i84_ i85_ i86_ i87_ i88_ i89_ i90_ i91_ i92_ i93_ i94_ i95_ i96_ i97_ i98_ i99_ i100_ i101_ i102_ i103_ i104_ i105_ i106_ i107_ i108_ i109_ i110_ i111_ i112_ i113_ i114_ i115_ i116_ i117_ i118_ i119_ i120_ i121_ i122_ i123_ i124_ i125_ i126_ i127_ i128_ i129_ i133_ i134_ i135_ i136_ i137_ i138_ i139_ i140_ i141_ i142_ i143_ i144_ i145_ i147_ i148_ i149_ i150_ i151_ i152_ i153_ i154_;revert k A0 c0 l0 A1 c1 l1 r w hu26 HT HR0 HC0 HR1 HC1 A3 t347 t348 A5 t352 t353 t356 A6 t358 t359 i0_ nd w9 gb351 w10 GW351 GE351 Ao12 co12 w13 gb357 w14 GW357 GE357 NB351_357 NB357_351 hnb15 hnc15 Ao17 co17 w19 gb363 w20 GW363 GE363 NB351_363 NB363_351 NB357_363 NB363_357 hnb21 hnc21 hnb22 hnc22 Ao24 co24 HO350 HO355 HO361 kj7 HJ7 t365 t366 t371 t372 t375 A35 hnb37 hnc37 hnb38 hnc38 w40 gb370 w41 GW370 GE370 NB351_370 NB370_351 NB357_370 NB370_357 NB363_370 NB370_363 hnb42 hnc42 hnb43 hnc43 hnb44 hnc44 Ao46 co46 w48 gb376 w49 GW376 GE376 NB351_376 NB376_351 NB357_376 NB376_357 NB363_376 NB376_363 NB370_376 NB376_370 hnb50 hnc50 hnb51 hnc51 hnb52 hnc52 hnb53 hnc53 Ao55 co55 HO368 HO374 i178_ kj35 HJ35 A7 t379 t380 t383 A86 hnb88 hnc88 hnb89 hnc89 hnb90 hnc90 hnb91 hnc91 w93 gb384 w94 GW384 GE384 NB351_384 NB384_351 NB357_384 NB384_357 NB363_384 NB384_363 NB370_384 NB384_370 NB376_384 NB384_376 hnb95 hnc95 hnb96 hnc96 hnb97 hnc97 hnb98 hnc98 hnb99 hnc99 Ao101 co101 HO382 kj86 HJ86 hnb158 hnc158 hnb159 hnc159 hnb160 hnc160 hnb161 hnc161 hnb162 hnc162 u17 u18 x16_4 x103_4 k4 HK4 t391 A189 c190b3 A34 t392 t393 t396 A199 hnb201 hnc201 hnb202 hnc202 hnb203 hnc203 hnb204 hnc204 hnb205 hnc205 w207 hnb208 hnc208 hnb209 hnc209 hnb210 hnc210 hnb211 hnc211 w213 gb397 w214 GW397 GE397 NB351_397 NB397_351 NB357_397 NB397_357 NB363_397 NB397_363 NB370_397 NB397_370 NB376_397 NB397_376 NB384_397 NB397_384 hnb215 hnc215 hnb216 hnc216 hnb217 hnc217 hnb218 hnc218 hnb219 hnc219 hnb220 hnc220 Ao222 co222 HO_101 HO395 wc u26 u27 u28 u29 u30 u31 u32 u33 u34 u35 u36 u37 u38 u39 u40 u41 u42 u43 u44 u45 u46 u47 u48 u49 u50 u51 u52 u53 u54 u55 u56 u57 u58 u59 u60 u61 u62 u63 u64 u65 u66 u67 u68 u69 u70 u71 u72 u73 u74 u75 u76 u77 u78 u79 u80 u81 u82 u83 u84 u85 u86 u87 u88 u89 u90 u91 u92 u93 u94 u95 u96 u97 u98 u99 u100 u104 u105 u106 u107 u108 u109 u110 u111 u112 u113 u114 u115 u116 u117 u118 u119 u120 u121 u122 u123 u124 u125 u126 u127 u128 u129 u130 u131 u132 u133 u134 u135 u136 u137 u138 u139 u140 u142 u143 kj199 HJ199 hnb240 hnc240 hnb241 hnc241 hnb242 hnc242 hnb243 hnc243 hnb244 hnc244 hnb245 hnc245 i79_ i80_ u21 u146 u147 u148 u149 u150 u151 u195 i130_ i131_ i132_ x145_6 x352001_6 x358001_6 x364001_6 x371001_6 x377001_6 x385001_6 x398001_6 k6 i146_ HK6 hnb248 hnc248 hnb249 hnc249 hnb250 hnc250 hnb251 hnc251 hnb252 hnc252 hnb253 hnc253 Ao255 co255 i155_ i156_ wr u4 u22 u23 u24 u25 u152 u153 u154 u155 u156 u157 u158 u159 u160 u161 u162 u163 u164 u165 u166 u167 u168 u169 u170 u171 u172 u173 u174 u175 u176 u177 u178 u179 u180 u181 u182 u183 u184 u185 u186 u187 u188 u189 u190 u191 u192 u193 u194 i157_ i158_ i159_ x151_7 x352001_7 x358001_7 x364001_7 x371001_7 x377001_7 x385001_7 x398001_7 u352001 u358001 u364001 u371001 u377001 u385001 u398001 HO_352001 HO_358001 HO_364001 HO_371001 HO_377001 HO_385001 HO_398001 BK351 BK357 BK363 BK370 BK376 BK384 BK397 HB k7 i160_ HK7 c256b0 c257b0 c258b0 A259 y401 Ny401 LMc261 y404 Ny404 c262b0 c263b0 c263b1 ji264 hji264 hji264_ hji264z hji264u hji264v hji264y hji264x y409 Ny409 t410 t411 A266 c268b0 t417 H A269 c270
                  exact hR1_ ()
                 ·
                  rename_i i0_ i1_ i2_ i3_ i4_ i5_ i6_ i7_ i8_ i9_ i10_ i11_ i12_ i13_ i14_ i15_ i16_ i17_ i18_ i19_ i20_ i21_ i22_ i23_ i24_ i25_ i26_ i27_ i28_ i29_ i30_ i31_ i32_ i33_ i34_ i35_ i36_ i37_ i38_ i39_ i40_ i41_ i42_ i43_ i44_ i45_ i46_ i47_ i48_ i49_ i50_ i51_ i52_ i53_ i54_ i55_ i56_ i57_ i58_ i59_ i60_ i61_ i62_ i63_ i64_ i65_ i66_ i67_ i68_ i69_ i70_ i71_ i72_ i73_ i74_ i75_ i76_ i77_ i78_ i79_ i80_ i81_ i82_ i83_ i84_ i85_ i86_ i87_ i88_ i89_ i90_ i91_ i92_ i93_ i94_ i95_ i96_ i97_ i98_ i99_ i100_ i101_ i102_ i103_ i104_ i105_ i106_ i107_ i108_ i109_ i110_ i111_ i112_ i113_ i114_ i115_ i116_ i117_ i118_ i119_ i120_ i121_ i122_ i123_ i124_ i125_ i126_ i127_ i128_ i129_ i130_ i131_ i132_ i133_ i134_ i135_ i136_ i137_ i138_ i139_ i140_ i141_ i142_ i143_ i144_ i145_ i146_ i147_ i148_ i149_ i150_ i151_ i152_ i153_ i154_ i155_ i156_ i157_ i158_ i159_ i160_
                  clear i0_ i1_ i2_ i3_ i4_ i5_ i6_ i7_ i8_ i9_ i10_ i11_ i12_ i13_ i14_ i15_ i16_ i17_ i18_ i19_ i20_ i21_ i22_ i23_ i24_ i25_ i26_ i27_ i28_ i29_ i30_ i31_ i32_ i33_ i34_ i35_ i36_ i37_ i38_ i39_ i40_ i41_ i42_ i43_ i44_ i45_ i46_ i47_ i48_ i49_ i50_ i51_ i52_ i53_ i54_ i55_ i56_ i57_ i58_ i59_ i60_ i61_ i62_ i63_ i64_ i65_ i66_ i67_ i68_ i69_ i70_ i71_ i72_ i73_ i74_ i75_ i76_ i77_ i78_ i81_ i82_ i83_ i84_ i85_ i86_ i87_ i88_ i89_ i90_ i91_ i92_ i93_ i94_ i95_ i96_ i97_ i98_ i99_ i100_ i101_ i102_ i103_ i104_ i105_ i106_ i107_ i108_ i109_ i110_ i111_ i112_ i113_ i114_ i115_ i116_ i117_ i118_ i119_ i120_ i121_ i122_ i123_ i124_ i125_ i126_ i127_ i128_ i129_ i133_ i134_ i135_ i136_ i137_ i138_ i139_ i140_ i141_ i142_ i143_ i144_ i145_ i147_ i148_ i149_ i150_ i151_ i152_ i153_ i154_;revert k A0 c0 l0 A1 c1 l1 r w hu26 HT HR0 HC0 HR1 HC1 A3 t347 t348 A5 t352 t353 t356 A6 t358 t359 i0_ nd w9 gb351 w10 GW351 GE351 Ao12 co12 w13 gb357 w14 GW357 GE357 NB351_357 NB357_351 hnb15 hnc15 Ao17 co17 w19 gb363 w20 GW363 GE363 NB351_363 NB363_351 NB357_363 NB363_357 hnb21 hnc21 hnb22 hnc22 Ao24 co24 HO350 HO355 HO361 kj7 HJ7 t365 t366 t371 t372 t375 A35 hnb37 hnc37 hnb38 hnc38 w40 gb370 w41 GW370 GE370 NB351_370 NB370_351 NB357_370 NB370_357 NB363_370 NB370_363 hnb42 hnc42 hnb43 hnc43 hnb44 hnc44 Ao46 co46 w48 gb376 w49 GW376 GE376 NB351_376 NB376_351 NB357_376 NB376_357 NB363_376 NB376_363 NB370_376 NB376_370 hnb50 hnc50 hnb51 hnc51 hnb52 hnc52 hnb53 hnc53 Ao55 co55 HO368 HO374 i178_ kj35 HJ35 A7 t379 t380 t383 A86 hnb88 hnc88 hnb89 hnc89 hnb90 hnc90 hnb91 hnc91 w93 gb384 w94 GW384 GE384 NB351_384 NB384_351 NB357_384 NB384_357 NB363_384 NB384_363 NB370_384 NB384_370 NB376_384 NB384_376 hnb95 hnc95 hnb96 hnc96 hnb97 hnc97 hnb98 hnc98 hnb99 hnc99 Ao101 co101 HO382 kj86 HJ86 hnb158 hnc158 hnb159 hnc159 hnb160 hnc160 hnb161 hnc161 hnb162 hnc162 u17 u18 x16_4 x103_4 k4 HK4 t391 A189 c190b3 A34 t392 t393 t396 A199 hnb201 hnc201 hnb202 hnc202 hnb203 hnc203 hnb204 hnc204 hnb205 hnc205 w207 hnb208 hnc208 hnb209 hnc209 hnb210 hnc210 hnb211 hnc211 w213 gb397 w214 GW397 GE397 NB351_397 NB397_351 NB357_397 NB397_357 NB363_397 NB397_363 NB370_397 NB397_370 NB376_397 NB397_376 NB384_397 NB397_384 hnb215 hnc215 hnb216 hnc216 hnb217 hnc217 hnb218 hnc218 hnb219 hnc219 hnb220 hnc220 Ao222 co222 HO_101 HO395 wc u26 u27 u28 u29 u30 u31 u32 u33 u34 u35 u36 u37 u38 u39 u40 u41 u42 u43 u44 u45 u46 u47 u48 u49 u50 u51 u52 u53 u54 u55 u56 u57 u58 u59 u60 u61 u62 u63 u64 u65 u66 u67 u68 u69 u70 u71 u72 u73 u74 u75 u76 u77 u78 u79 u80 u81 u82 u83 u84 u85 u86 u87 u88 u89 u90 u91 u92 u93 u94 u95 u96 u97 u98 u99 u100 u104 u105 u106 u107 u108 u109 u110 u111 u112 u113 u114 u115 u116 u117 u118 u119 u120 u121 u122 u123 u124 u125 u126 u127 u128 u129 u130 u131 u132 u133 u134 u135 u136 u137 u138 u139 u140 u142 u143 kj199 HJ199 hnb240 hnc240 hnb241 hnc241 hnb242 hnc242 hnb243 hnc243 hnb244 hnc244 hnb245 hnc245 i79_ i80_ u21 u146 u147 u148 u149 u150 u151 u195 i130_ i131_ i132_ x145_6 x352001_6 x358001_6 x364001_6 x371001_6 x377001_6 x385001_6 x398001_6 k6 i146_ HK6 hnb248 hnc248 hnb249 hnc249 hnb250 hnc250 hnb251 hnc251 hnb252 hnc252 hnb253 hnc253 Ao255 co255 i155_ i156_ wr u4 u22 u23 u24 u25 u152 u153 u154 u155 u156 u157 u158 u159 u160 u161 u162 u163 u164 u165 u166 u167 u168 u169 u170 u171 u172 u173 u174 u175 u176 u177 u178 u179 u180 u181 u182 u183 u184 u185 u186 u187 u188 u189 u190 u191 u192 u193 u194 i157_ i158_ i159_ x151_7 x352001_7 x358001_7 x364001_7 x371001_7 x377001_7 x385001_7 x398001_7 u352001 u358001 u364001 u371001 u377001 u385001 u398001 HO_352001 HO_358001 HO_364001 HO_371001 HO_377001 HO_385001 HO_398001 BK351 BK357 BK363 BK370 BK376 BK384 BK397 HB k7 i160_ HK7 c256b0 c257b0 c258b0 A259 y401 Ny401 LMc261 y404 Ny404 c262b0 c263b0 c263b1 ji264 hji264 hji264_ hji264z hji264u hji264v hji264y hji264x y409 Ny409 t410 t411 A266 c268b0 t417 H A269 c270
                  exact hR2_ ()
                ·rw [if_neg c268] at H;exact absurd H (by simp)
               ·
                rename_i i0_ i1_ i2_ i3_ i4_ i5_ i6_ i7_ i8_ i9_ i10_ i11_ i12_ i13_ i14_ i15_ i16_ i17_ i18_ i19_ i20_ i21_ i22_ i23_ i24_ i25_ i26_ i27_ i28_ i29_ i30_ i31_ i32_ i33_ i34_ i35_ i36_ i37_ i38_ i39_ i40_ i41_ i42_ i43_ i44_ i45_ i46_ i47_ i48_ i49_ i50_ i51_ i52_ i53_ i54_ i55_ i56_ i57_ i58_ i59_ i60_ i61_ i62_ i63_ i64_ i65_ i66_ i67_ i68_ i69_ i70_ i71_ i72_ i73_ i74_ i75_ i76_ i77_ i78_ i79_ i80_ i81_ i82_ i83_ i84_ i85_ i86_ i87_ i88_ i89_ i90_ i91_ i92_ i93_ i94_ i95_ i96_ i97_ i98_ i99_ i100_ i101_ i102_ i103_ i104_ i105_ i106_ i107_ i108_ i109_ i110_ i111_ i112_ i113_ i114_ i115_ i116_ i117_ i118_ i119_ i120_ i121_ i122_ i123_ i124_ i125_ i126_ i127_ i128_ i129_ i130_ i131_ i132_ i133_ i134_ i135_ i136_ i137_ i138_ i139_ i140_ i141_ i142_ i143_ i144_ i145_ i146_ i147_ i148_ i149_ i150_ i151_ i152_ i153_ i154_ i155_ i156_ i157_ i158_ i159_ i160_
                clear i0_ i1_ i2_ i3_ i4_ i5_ i6_ i7_ i8_ i9_ i10_ i11_ i12_ i13_ i14_ i15_ i16_ i17_ i18_ i19_ i20_ i21_ i22_ i23_ i24_ i25_ i26_ i27_ i28_ i29_ i30_ i31_ i32_ i33_ i34_ i35_ i36_ i37_ i38_ i39_ i40_ i41_ i42_ i43_ i44_ i45_ i46_ i47_ i48_ i49_ i50_ i51_ i52_ i53_ i54_ i55_ i56_ i57_ i58_ i59_ i60_ i61_ i62_ i63_ i64_ i65_ i66_ i67_ i68_ i69_ i70_ i71_ i72_ i73_ i74_ i75_ i76_ i77_ i78_ i81_ i82_ i83_ i84_ i85_ i86_ i87_ i88_ i89_ i90_ i91_ i92_ i93_ i94_ i95_ i96_ i97_ i98_ i99_ i100_ i101_ i102_ i103_ i104_ i105_ i106_ i107_ i108_ i109_ i110_ i111_ i112_ i113_ i114_ i115_ i116_ i117_ i118_ i119_ i120_ i121_ i122_ i123_ i124_ i125_ i126_ i127_ i128_ i129_ i133_ i134_ i135_ i136_ i137_ i138_ i139_ i140_ i141_ i142_ i143_ i144_ i145_ i147_ i148_ i149_ i150_ i151_ i152_ i153_ i154_;revert k A0 c0 l0 A1 c1 l1 r w hu26 HT HR0 HC0 HR1 HC1 A3 t347 t348 A5 t352 t353 t356 A6 t358 t359 i0_ nd w9 gb351 w10 GW351 GE351 Ao12 co12 w13 gb357 w14 GW357 GE357 NB351_357 NB357_351 hnb15 hnc15 Ao17 co17 w19 gb363 w20 GW363 GE363 NB351_363 NB363_351 NB357_363 NB363_357 hnb21 hnc21 hnb22 hnc22 Ao24 co24 HO350 HO355 HO361 kj7 HJ7 t365 t366 t371 t372 t375 A35 hnb37 hnc37 hnb38 hnc38 w40 gb370 w41 GW370 GE370 NB351_370 NB370_351 NB357_370 NB370_357 NB363_370 NB370_363 hnb42 hnc42 hnb43 hnc43 hnb44 hnc44 Ao46 co46 w48 gb376 w49 GW376 GE376 NB351_376 NB376_351 NB357_376 NB376_357 NB363_376 NB376_363 NB370_376 NB376_370 hnb50 hnc50 hnb51 hnc51 hnb52 hnc52 hnb53 hnc53 Ao55 co55 HO368 HO374 i178_ kj35 HJ35 A7 t379 t380 t383 A86 hnb88 hnc88 hnb89 hnc89 hnb90 hnc90 hnb91 hnc91 w93 gb384 w94 GW384 GE384 NB351_384 NB384_351 NB357_384 NB384_357 NB363_384 NB384_363 NB370_384 NB384_370 NB376_384 NB384_376 hnb95 hnc95 hnb96 hnc96 hnb97 hnc97 hnb98 hnc98 hnb99 hnc99 Ao101 co101 HO382 kj86 HJ86 hnb158 hnc158 hnb159 hnc159 hnb160 hnc160 hnb161 hnc161 hnb162 hnc162 u17 u18 x16_4 x103_4 k4 HK4 t391 A189 c190b3 A34 t392 t393 t396 A199 hnb201 hnc201 hnb202 hnc202 hnb203 hnc203 hnb204 hnc204 hnb205 hnc205 w207 hnb208 hnc208 hnb209 hnc209 hnb210 hnc210 hnb211 hnc211 w213 gb397 w214 GW397 GE397 NB351_397 NB397_351 NB357_397 NB397_357 NB363_397 NB397_363 NB370_397 NB397_370 NB376_397 NB397_376 NB384_397 NB397_384 hnb215 hnc215 hnb216 hnc216 hnb217 hnc217 hnb218 hnc218 hnb219 hnc219 hnb220 hnc220 Ao222 co222 HO_101 HO395 wc u26 u27 u28 u29 u30 u31 u32 u33 u34 u35 u36 u37 u38 u39 u40 u41 u42 u43 u44 u45 u46 u47 u48 u49 u50 u51 u52 u53 u54 u55 u56 u57 u58 u59 u60 u61 u62 u63 u64 u65 u66 u67 u68 u69 u70 u71 u72 u73 u74 u75 u76 u77 u78 u79 u80 u81 u82 u83 u84 u85 u86 u87 u88 u89 u90 u91 u92 u93 u94 u95 u96 u97 u98 u99 u100 u104 u105 u106 u107 u108 u109 u110 u111 u112 u113 u114 u115 u116 u117 u118 u119 u120 u121 u122 u123 u124 u125 u126 u127 u128 u129 u130 u131 u132 u133 u134 u135 u136 u137 u138 u139 u140 u142 u143 kj199 HJ199 hnb240 hnc240 hnb241 hnc241 hnb242 hnc242 hnb243 hnc243 hnb244 hnc244 hnb245 hnc245 i79_ i80_ u21 u146 u147 u148 u149 u150 u151 u195 i130_ i131_ i132_ x145_6 x352001_6 x358001_6 x364001_6 x371001_6 x377001_6 x385001_6 x398001_6 k6 i146_ HK6 hnb248 hnc248 hnb249 hnc249 hnb250 hnc250 hnb251 hnc251 hnb252 hnc252 hnb253 hnc253 Ao255 co255 i155_ i156_ wr u4 u22 u23 u24 u25 u152 u153 u154 u155 u156 u157 u158 u159 u160 u161 u162 u163 u164 u165 u166 u167 u168 u169 u170 u171 u172 u173 u174 u175 u176 u177 u178 u179 u180 u181 u182 u183 u184 u185 u186 u187 u188 u189 u190 u191 u192 u193 u194 i157_ i158_ i159_ x151_7 x352001_7 x358001_7 x364001_7 x371001_7 x377001_7 x385001_7 x398001_7 u352001 u358001 u364001 u371001 u377001 u385001 u398001 HO_352001 HO_358001 HO_364001 HO_371001 HO_377001 HO_385001 HO_398001 BK351 BK357 BK363 BK370 BK376 BK384 BK397 HB k7 i160_ HK7 c256b0 c257b0 c258b0 A259 y401 Ny401 LMc261 y404 Ny404 c262b0 c263b0 c263b1 ji264 hji264 hji264_ hji264z hji264u hji264v hji264y hji264x y409 Ny409 t410 t411 t414 H A266 c267
                exact hR3_ ()
              ·rw [if_neg c263] at H;exact absurd H (by simp)
             ·rw [if_neg c262] at H;exact absurd H (by simp)
            ·rw [if_neg c261] at H;exact absurd H (by simp)
           ·replace c260:=Bool.eq_false_iff.mpr c260;subst c260;rw [if_neg nf_] at H;have H':=A_ H;clear H;have Z:=NB370_351.1;have Z:=NB351_370.1;have Z:=NB370_357.1;have Z:=NB357_370.1;have Z:=NB370_363.1;have Z:=NB363_370.1;have Z:=NB370_376.1;have Z:=NB376_370.1;have Z:=NB370_384.1;have Z:=NB384_370.1;have Z:=NB370_397.1;have Z:=NB397_370.1;obtain ⟨Z,Z,Z,Z⟩:=o2_ BK370.1;obtain ⟨Ao404,co404,eo404⟩:=Kd.R_slice HO_371001.1;subst eo404;have p399 : 0 ≤ (x145_6 : Int):=of_decide_eq_true (by first|(with_reducible assumption)|assumption);have q399 : x145_6 < (x371001_7.length : Int):=of_decide_eq_true (by first|(with_reducible assumption)|assumption);obtain ⟨ad399,e399,hx399_0⟩:=Kd.at_int (Kd.R_reads' HO_371001.1).2.2 x145_6 p399 q399;cases e399
            replace p399:=eq_true p399;replace q399:=eq_true q399;go_wp2_with (first|((with_reducible refine gate_callee (f:=17) rfl ?_);refine goesL_ (some 160) rfl rfl Tryd.func17 (by kernel_rfl) rfl #[.int .i64 (rd x371001_7 x145_6),.int .i64 x151_7] rfl au_ ?_;(with_reducible refine (Aa8.calls (rd x371001_7 x145_6) x151_7 false _ A259.1).mono ?_);rintro e w' ⟨rfl,⟨nd,rfl⟩⟩;refine ⟨_,rfl,?_⟩))
            go_roundg k7
            case measure=>have:=HJ7.1;have:=HJ35.1;have:=HJ86.1;have:=HK4.1;have:=HJ199.1;have:=HK6.1;have:=HK7.1;omega
            case rel=>exact ⟨(wrap64 (x151_7 + 1)),(x352001_7),(x358001_7),(x364001_7),(x371001_7),(x377001_7),(x385001_7),(x398001_7),(u352001),(u358001),(u364001),(.slice (some ad399) x371001_7.length co404),(u377001),(u385001),(u398001),(by first|rfl|(simp;done)|(simp [*];done)),H',⟨by have:=HJ7.1;have:=HJ35.1;have:=HJ86.1;have:=HK4.1;have:=HJ199.1;have:=HK6.1;have:=HK7.1;omega⟩,⟨rl_ HO_352001⟩,⟨rl_ HO_358001⟩,⟨rl_ HO_364001⟩,⟨rl_ HO_371001⟩,⟨rl_ HO_377001⟩,⟨rl_ HO_385001⟩,⟨rl_ HO_398001⟩,⟨bl_ BK351⟩,⟨bl_ BK357⟩,⟨bl_ BK363⟩,⟨bl_ BK370⟩,⟨bl_ BK376⟩,⟨bl_ BK384⟩,⟨bl_ BK397⟩,⟨bb_⟩⟩
          ·rw [if_neg c258] at H;exact absurd H (by simp)
         ·rw [if_neg c257] at H;exact absurd H (by simp)
        ·rw [if_neg c256] at H;have c256b0 : decide (x151_7 < (x371001_6.length : Int)) = false:=decide_eq_false c256;clear c256;have H':=A_ H;clear H;go_wp2
         go_roundg k7
         case measure=>have:=HJ7.1;have:=HJ35.1;have:=HJ86.1;have:=HK4.1;have:=HJ199.1;have:=HK6.1;have:=HK7.1;omega
         case rel=>exact ⟨(wrap64 (x145_6 + 1)),(x352001_7),(x358001_7),(x364001_7),(x371001_7),(x377001_7),(x385001_7),(x398001_7),(u352001),(u358001),(u364001),(u371001),(u377001),(u385001),(u398001),(by first|rfl|(simp;done)|(simp [*];done)),H',⟨by have:=HJ7.1;have:=HJ35.1;have:=HJ86.1;have:=HK4.1;have:=HJ199.1;have:=HK6.1;have:=HK7.1;omega⟩,⟨rl_ HO_352001⟩,⟨rl_ HO_358001⟩,⟨rl_ HO_364001⟩,⟨rl_ HO_371001⟩,⟨rl_ HO_377001⟩,⟨rl_ HO_385001⟩,⟨rl_ HO_398001⟩,⟨bl_ BK351⟩,⟨bl_ BK357⟩,⟨bl_ BK363⟩,⟨bl_ BK370⟩,⟨bl_ BK376⟩,⟨bl_ BK384⟩,⟨bl_ BK397⟩,⟨bb_⟩⟩
     ·rw [if_neg c247] at H;have c247b0 : decide (x145_6 < (t366.length : Int)) = false:=decide_eq_false c247;clear c247;obtain rfl:=Option.some.inj H;go_wp2
      go_ret
      exact ⟨by first|rfl|(simp [errW_none,errW_some] <;> rfl)|(simp [*,errW_none,errW_some] <;> rfl),bb_⟩⟩
set_option maxHeartbeats 8000000 in
set_option maxRecDepth 100000 in
theorem Aab.calls.rest1.rest1.rest1 : Aab.calls.rest1.rest1.part.1:=by
 intro k A0 c0 l0 A1 c1 l1 r w hu26 HT HR0 HC0 HR1 HC1 A3 Ch Jg A5 Ci Jh Ji A6 Cj Jj i0_ nd w9 Bz w10 H5 H6 Ao12 co12 w13 B0 w14 H7 H8 Et Eu hnb15 hnc15 Ao17 co17 w19 B2 w20 H9 Ia Ew Ex Ey Ez hnb21 hnc21 hnb22 hnc22 Ao24 co24 Ib Ic Id kj7 HJ7 Bd Jk Ck Jl Jm A35 hnb37 hnc37 hnb38 hnc38 w40 Bp w41 Ie If C8 C9 Da Db Dc Dd hnb42 hnc42 hnb43 hnc43 hnb44 hnc44 Ao46 co46 w48 B4 w49 Ig Ih E0 E1 E2 E3 E4 E5 De Df hnb50 hnc50 hnb51 hnc51 hnb52 hnc52 hnb53 hnc53 Ao55 co55 Ii Ij Ik kj35 HJ35 A7 Cl Jn Jo A86 hnb88 hnc88 hnb89 hnc89 hnb90 hnc90 hnb91 hnc91 w93 B5 w94 Il Im E6 E7 E8 E9 Fa Fb Dg Dh Fc Fd hnb95 hnc95 hnb96 hnc96 hnb97 hnc97 hnb98 hnc98 hnb99 hnc99 In Io Ip kj86 HJ86 F9 Ga Gb Gc Gd Ge Gf Gg Gh Gi u17 u18 x16_4 Gj k4 HK4 Jp Jq c190b3 A34 Cm Jr Js Jt Gk Gl Gm Gn Gp Gq Gr Gs Gt Gu Ju Gv Gw Gx Gy Gz G0 G1 G2 Jv B6 Jw Iq Ir Fe Ff Fg Fh Fi Fj Di Dj Fk Fl Fm Fn G3 G4 G5 G6 G7 G8 G9 Ha Hb Hc Hd He Is It Hf Iu wc u26 u27 u28 u29 u30 u31 u32 u33 u34 u35 u36 u37 u38 u39 u40 u41 u42 u43 u44 u45 u46 u47 u48 u49 u50 u51 u52 u53 u54 u55 u56 u57 u58 u59 u60 u61 u62 u63 u64 u65 u66 u67 u68 u69 u70 u71 u72 u73 u74 u75 u76 u77 u78 u79 u80 u81 u82 u83 u84 u85 u86 u87 u88 u89 u90 u91 u92 u93 u94 u95 u96 u97 u98 u99 Jx Jy Jz J0 J1 J2 J3 J4 J5 J6 J7 J8 J9 Ka Kb Ke Kf Kg Kh Ki Kj Kk Kl Km Kn Ko Kp Kq Kr Ks Kt Ku Kv Kw Kx Ky Kz K0 K1 K2 Iv Iw Hg Hh Hi Hj Hk Hl Hm Hn Ho Hp Hq Hr i79_ i80_ u21 K3 K4 K5 K6 K7 K8 K9 Ix Iy Iz Aq Fo Fp Fq Fr Fs Ft Fu k6 I0 HK6 Hs Ht Hu Hv Hw Hx Hy Hz H0 H2 H3 H4 I1 I2 I3 I4 wr u4 u22 u23 u24 u25 La Lb Lc Ld Le Lf Lg Lh Li Lj Lk Ll Lm Ln Lo Lp Lq Lr Ls Lu Lv Lw Lx Ly Lz L0 L1 L2 L3 L4 L5 L6 L7 L8 L9 Ma Mb Mc Md Me Mf Mg Mh I5 I6 I7 Cy Ca Cb Cc Aa Cd Ce Cf Ai Aj Ak F6 Al Am An Ac Ad Ae Ab Af Ag Ah At Au Av Ao Aw Ax Ay HB k7 I8 HK7 c256b0 c257b0 c258b0 Fv D0 Cw Cz Az C1 c262b0 c263b0 c263b1 Bi Eh F7 hji264z hji264u hji264v hji264y hji264x C0 Ej Ei C2 Fw c268b0 Mi H Fx Fy
 subst Fy;rw [if_pos rfl] at H;obtain rfl:=Option.some.inj H;have Z:=C9.1;have Z:=C8.1;have Z:=Db.1;have Z:=Da.1;have Z:=Dd.1;have Z:=Dc.1;have Z:=De.1;have Z:=Df.1;have Z:=Dg.1;have Z:=Dh.1;have Z:=Di.1;have Z:=Dj.1;obtain ⟨Z,Z,Z,Z⟩:=o2_ Ao.1;obtain ⟨I9,Ar,Ek⟩:=Kd.R_slice Ab.1;subst Ek;have D1 : 0 ≤ (Aq : Int):=of_decide_eq_true (by first|(with_reducible assumption)|assumption);have D2 : Aq < (Aa.length : Int):=of_decide_eq_true (by first|(with_reducible assumption)|assumption);obtain ⟨As,Fz,F8⟩:=Kd.at_int (Kd.R_reads' Ab.1).2.2 Aq D1 D2;cases Fz
 replace D1:=eq_true D1;replace D2:=eq_true D2;try go_wp2_with (first|((with_reducible refine gate_callee (f:=17) rfl ?_);refine goesL_ (some 160) rfl rfl Tryd.func17 (by kernel_rfl) rfl #[.int .i64 (rd Aa Aq),.int .i64 Cy] rfl au_ ?_;(with_reducible refine (Aa8.calls (rd Aa Aq) Cy true _ Fv.1).mono ?_);rintro e w' ⟨rfl,⟨nd,rfl⟩⟩;refine ⟨_,rfl,?_⟩;(try (rw [drewN_self wr];generalize hq_ : World.drewN wr _ = wr;have n0_ : Aside0 (Kd.R (Kd.int .i64) 3 wr w.heap.size (fun k_=>some k_ ≠ (Aj : Value).ownBlock ∧ some k_ ≠ (Ak : Value).ownBlock ∧ some k_ ≠ (.slice (some As) Aa.length Ar : Value).ownBlock ∧ some k_ ≠ (Al : Value).ownBlock ∧ some k_ ≠ (Am : Value).ownBlock ∧ some k_ ≠ (An : Value).ownBlock) Ai Ca):=⟨by rw [← hq_];exact (rl_ Ac)⟩;have n1_ : Aside0 (Kd.R (Kd.int .i64) 3 wr w.heap.size (fun k_=>some k_ ≠ (Ai : Value).ownBlock ∧ some k_ ≠ (Ak : Value).ownBlock ∧ some k_ ≠ (.slice (some As) Aa.length Ar : Value).ownBlock ∧ some k_ ≠ (Al : Value).ownBlock ∧ some k_ ≠ (Am : Value).ownBlock ∧ some k_ ≠ (An : Value).ownBlock) Aj Cb):=⟨by rw [← hq_];exact (rl_ Ad)⟩;have n2_ : Aside0 (Kd.R (Kd.int .i64) 3 wr w.heap.size (fun k_=>some k_ ≠ (Ai : Value).ownBlock ∧ some k_ ≠ (Aj : Value).ownBlock ∧ some k_ ≠ (.slice (some As) Aa.length Ar : Value).ownBlock ∧ some k_ ≠ (Al : Value).ownBlock ∧ some k_ ≠ (Am : Value).ownBlock ∧ some k_ ≠ (An : Value).ownBlock) Ak Cc):=⟨by rw [← hq_];exact (rl_ Ae)⟩;have n3_ : Aside0 (Kd.R (Kd.int .i64) 3 wr w.heap.size (fun k_=>some k_ ≠ (Ai : Value).ownBlock ∧ some k_ ≠ (Aj : Value).ownBlock ∧ some k_ ≠ (Ak : Value).ownBlock ∧ some k_ ≠ (Al : Value).ownBlock ∧ some k_ ≠ (Am : Value).ownBlock ∧ some k_ ≠ (An : Value).ownBlock) (.slice (some As) Aa.length Ar) Aa):=⟨by rw [← hq_];exact (rl_ Ab)⟩;have n4_ : Aside0 (Kd.R (Kd.int .i64) 3 wr w.heap.size (fun k_=>some k_ ≠ (Ai : Value).ownBlock ∧ some k_ ≠ (Aj : Value).ownBlock ∧ some k_ ≠ (Ak : Value).ownBlock ∧ some k_ ≠ (.slice (some As) Aa.length Ar : Value).ownBlock ∧ some k_ ≠ (Am : Value).ownBlock ∧ some k_ ≠ (An : Value).ownBlock) Al Cd):=⟨by rw [← hq_];exact (rl_ Af)⟩;have n5_ : Aside0 (Kd.R (Kd.int .i64) 3 wr w.heap.size (fun k_=>some k_ ≠ (Ai : Value).ownBlock ∧ some k_ ≠ (Aj : Value).ownBlock ∧ some k_ ≠ (Ak : Value).ownBlock ∧ some k_ ≠ (.slice (some As) Aa.length Ar : Value).ownBlock ∧ some k_ ≠ (Al : Value).ownBlock ∧ some k_ ≠ (An : Value).ownBlock) Am Ce):=⟨by rw [← hq_];exact (rl_ Ag)⟩;have n6_ : Aside0 (Kd.R (Kd.int .i64) 3 wr w.heap.size (fun k_=>some k_ ≠ (Ai : Value).ownBlock ∧ some k_ ≠ (Aj : Value).ownBlock ∧ some k_ ≠ (Ak : Value).ownBlock ∧ some k_ ≠ (.slice (some As) Aa.length Ar : Value).ownBlock ∧ some k_ ≠ (Al : Value).ownBlock ∧ some k_ ≠ (Am : Value).ownBlock) An Cf):=⟨by rw [← hq_];exact (rl_ Ah)⟩;have n7_ : Aside0 (wr.heap[Bz]? = some (.cells #[.int .i64 Ch,Ai] 26 (0,0))):=⟨by rw [← hq_];exact (bl_ At)⟩;have n8_ : Aside0 (wr.heap[B0]? = some (.cells #[.int .i64 Ci,Aj] 26 (0,0))):=⟨by rw [← hq_];exact (bl_ Au)⟩;have n9_ : Aside0 (wr.heap[B2]? = some (.cells #[.int .i64 Cj,Ak] 26 (0,0))):=⟨by rw [← hq_];exact (bl_ Av)⟩;have n10_ : Aside0 (wr.heap[Bp]? = some (.cells #[.int .i64 Bd,.slice (some As) Aa.length Ar] 26 (0,0))):=⟨by rw [← hq_];exact (bl_ Ao)⟩;have n11_ : Aside0 (wr.heap[B4]? = some (.cells #[.int .i64 Ck,Al] 26 (0,0))):=⟨by rw [← hq_];exact (bl_ Aw)⟩;have n12_ : Aside0 (wr.heap[B5]? = some (.cells #[.int .i64 Cl,Am] 26 (0,0))):=⟨by rw [← hq_];exact (bl_ Ax)⟩;have n13_ : Aside0 (wr.heap[B6]? = some (.cells #[.int .i64 Cm,An] 26 (0,0))):=⟨by rw [← hq_];exact (bl_ Ay)⟩;have n14_ : Aside0 (Below w.heap.size w wr):=⟨by rw [← hq_];exact bb_⟩;clear Ac Ad Ae Ab Af Ag Ah At Au Av Ao Aw Ax Ay HB hq_;have Ac:=n0_;have Ad:=n1_;have Ae:=n2_;have Ab:=n3_;have Af:=n4_;have Ag:=n5_;have Ah:=n6_;have At:=n7_;have Au:=n8_;have Av:=n9_;have Ao:=n10_;have Aw:=n11_;have Ax:=n12_;have Ay:=n13_;have HB:=n14_;clear n0_ n1_ n2_ n3_ n4_ n5_ n6_ n7_ n8_ n9_ n10_ n11_ n12_ n13_ n14_;have Z : wr.cell? ⟨Bz,0,none⟩ = some (.int .i64 Ch):=blk_cell At.1 0;have Z:=blk_frozen At.1 0;have Z : wr.cell? ⟨Bz,1,none⟩ = some (Ai):=blk_cell At.1 1;have Z:=blk_frozen At.1 1;have Z : wr.cell? ⟨B0,0,none⟩ = some (.int .i64 Ci):=blk_cell Au.1 0;have Z:=blk_frozen Au.1 0;have Z : wr.cell? ⟨B0,1,none⟩ = some (Aj):=blk_cell Au.1 1;have Z:=blk_frozen Au.1 1;have Z : wr.cell? ⟨B2,0,none⟩ = some (.int .i64 Cj):=blk_cell Av.1 0;have Z:=blk_frozen Av.1 0;have Z : wr.cell? ⟨B2,1,none⟩ = some (Ak):=blk_cell Av.1 1;have Z:=blk_frozen Av.1 1;have Z : wr.cell? ⟨Bp,0,none⟩ = some (.int .i64 Bd):=blk_cell Ao.1 0;have Z:=blk_frozen Ao.1 0;have Z : wr.cell? ⟨Bp,1,none⟩ = some (.slice (some As) Aa.length Ar):=blk_cell Ao.1 1;have Z:=blk_frozen Ao.1 1;have Z : wr.cell? ⟨B4,0,none⟩ = some (.int .i64 Ck):=blk_cell Aw.1 0;have Z:=blk_frozen Aw.1 0;have Z : wr.cell? ⟨B4,1,none⟩ = some (Al):=blk_cell Aw.1 1;have Z:=blk_frozen Aw.1 1;have Z : wr.cell? ⟨B5,0,none⟩ = some (.int .i64 Cl):=blk_cell Ax.1 0;have Z:=blk_frozen Ax.1 0;have Z : wr.cell? ⟨B5,1,none⟩ = some (Am):=blk_cell Ax.1 1;have Z:=blk_frozen Ax.1 1;have Z : wr.cell? ⟨B6,0,none⟩ = some (.int .i64 Cm):=blk_cell Ay.1 0;have Z:=blk_frozen Ay.1 0;have Z : wr.cell? ⟨B6,1,none⟩ = some (An):=blk_cell Ay.1 1;have Z:=blk_frozen Ay.1 1))))
 have n0_:=A_ (Kd.R_drew Ac.1);have n1_:=A_ (Kd.R_drew Ad.1);have n2_:=A_ (Kd.R_drew Ae.1);have n3_:=A_ (Kd.R_drew Ab.1);have n4_:=A_ (Kd.R_drew Af.1);have n5_:=A_ (Kd.R_drew Ag.1);have n6_:=A_ (Kd.R_drew Ah.1);have n7_:=A_ (blk_drew At.1);have n8_:=A_ (blk_drew Au.1);have n9_:=A_ (blk_drew Av.1);have n10_:=A_ (blk_drew Ao.1);have n11_:=A_ (blk_drew Aw.1);have n12_:=A_ (blk_drew Ax.1);have n13_:=A_ (blk_drew Ay.1);have n14_:=A_ (below_drew1 HB.1);clear Ac;clear Ad;clear Ae;clear Ab;clear Af;clear Ag;clear Ah;clear At;clear Au;clear Av;clear Ao;clear Aw;clear Ax;clear Ay;clear HB;have Ac:=n0_;have Ad:=n1_;have Ae:=n2_;have Ab:=n3_;have Af:=n4_;have Ag:=n5_;have Ah:=n6_;have At:=n7_;have Au:=n8_;have Av:=n9_;have Ao:=n10_;have Aw:=n11_;have Ax:=n12_;have Ay:=n13_;have HB:=n14_;clear n0_ n1_ n2_ n3_ n4_ n5_ n6_ n7_ n8_ n9_ n10_ n11_ n12_ n13_ n14_;refine start_ (n:=9) (S:=fun w'=>w'.cell? ⟨Bp,0,none⟩ = some (.int .i64 Bd) ∧ w'.cell? ⟨Bp,1,none⟩ = some (.slice (some As) Aa.length Ar)) (ds:=[]) #[F,F,F,F,F,F,F,F,F] (by kernel_rfl) rfl rfl ⟨blk_cell Ao.1 0,blk_cell Ao.1 1⟩ (fun hHeld=>?_);refine with_tabW Aab.tab39 Aab.bits39 (fun HT_ HW_=>?_)
 generalize wr.drew = Mj at Ac Ad Ae Ab Af Ag Ah At Au Av Ao Aw Ax Ay HB hHeld ⊢
 refine pu_ (i:=0) (N:=162) #[T,F,F,F,F,F,F,F,F] HT_.1 rfl rfl (fun _ _ _ h=>h) rfl (h:=?_)
 refine pu_ (i:=3) (N:=165) #[T,F,F,T,F,F,F,F,F] HT_.1 rfl rfl (fun _ _ _ h=>h) rfl (h:=?_)
 refine take_ (i:=1) (N:=some 163) (v:=?_) (a':=?_) #[T,T,F,T,F,F,F,F,F] rfl rfl (take_ofW HT_.1 HW_.1 (by kernel_rfl)) (fun _ _ _ h=>h) (Or.inl ⟨by rfl,?_⟩) hHeld ?_ ?_
 rotate_left
 ·rintro w' ⟨s0,s1⟩
  go_simp
  with_reducible rfl
 rotate_left;·simp only [Act.put,L_,M_,N_,i64_w,i32_w];rfl
 refine take_ (i:=4) (N:=some 166) (v:=?_) (a':=?_) #[T,T,F,T,T,F,F,F,F] rfl rfl (take_ofW HT_.1 HW_.1 (by kernel_rfl)) (fun _ _ _ h=>h) (Or.inl ⟨by rfl,?_⟩) hHeld ?_ ?_
 rotate_left
 ·rintro w' ⟨s0,s1⟩
  go_simp
  with_reducible rfl
 rotate_left;·simp only [Act.put,L_,M_,N_,i64_w,i32_w];rfl
 refine join_ (σ:=Value × Value × Nat) 1 #[T,T,T,T,T,T,T,T,F] (fun s_=>[(164,s_.1),(167,s_.2.1),(23,.pointer (some ⟨s_.2.2,0,none⟩)),(168,.agg #[.int .i64 Bd,s_.2.1])]) (fun s_ w'=>(w'.cell? ⟨Bp,0,none⟩ = some (.int .i64 Bd) ∧ w'.cell? ⟨Bp,1,none⟩ = some (.slice (some As) Aa.length Ar)) ∧ (Kd.R (Kd.int .i64) 3 w' w.heap.size (fun k_=>some k_ ≠ (Ai : Value).ownBlock ∧ some k_ ≠ (Aj : Value).ownBlock ∧ some k_ ≠ (Ak : Value).ownBlock ∧ some k_ ≠ (.slice (some As) Aa.length Ar : Value).ownBlock ∧ some k_ ≠ (Al : Value).ownBlock ∧ some k_ ≠ (Am : Value).ownBlock ∧ some k_ ≠ (An : Value).ownBlock) s_.2.1 Az) ∧ (Kd.R (Kd.int .i64) 3 w' w.heap.size (fun k_=>some k_ ≠ (s_.2.1 : Value).ownBlock ∧ some k_ ≠ (Aj : Value).ownBlock ∧ some k_ ≠ (Ak : Value).ownBlock ∧ some k_ ≠ (.slice (some As) Aa.length Ar : Value).ownBlock ∧ some k_ ≠ (Al : Value).ownBlock ∧ some k_ ≠ (Am : Value).ownBlock ∧ some k_ ≠ (An : Value).ownBlock) Ai Ca) ∧ (Kd.R (Kd.int .i64) 3 w' w.heap.size (fun k_=>some k_ ≠ (s_.2.1 : Value).ownBlock ∧ some k_ ≠ (Ai : Value).ownBlock ∧ some k_ ≠ (Ak : Value).ownBlock ∧ some k_ ≠ (.slice (some As) Aa.length Ar : Value).ownBlock ∧ some k_ ≠ (Al : Value).ownBlock ∧ some k_ ≠ (Am : Value).ownBlock ∧ some k_ ≠ (An : Value).ownBlock) Aj Cb) ∧ (Kd.R (Kd.int .i64) 3 w' w.heap.size (fun k_=>some k_ ≠ (s_.2.1 : Value).ownBlock ∧ some k_ ≠ (Ai : Value).ownBlock ∧ some k_ ≠ (Aj : Value).ownBlock ∧ some k_ ≠ (.slice (some As) Aa.length Ar : Value).ownBlock ∧ some k_ ≠ (Al : Value).ownBlock ∧ some k_ ≠ (Am : Value).ownBlock ∧ some k_ ≠ (An : Value).ownBlock) Ak Cc) ∧ (Kd.R (Kd.int .i64) 3 w' w.heap.size (fun k_=>some k_ ≠ (s_.2.1 : Value).ownBlock ∧ some k_ ≠ (Ai : Value).ownBlock ∧ some k_ ≠ (Aj : Value).ownBlock ∧ some k_ ≠ (Ak : Value).ownBlock ∧ some k_ ≠ (Al : Value).ownBlock ∧ some k_ ≠ (Am : Value).ownBlock ∧ some k_ ≠ (An : Value).ownBlock) (.slice (some As) Aa.length Ar) Aa) ∧ (Kd.R (Kd.int .i64) 3 w' w.heap.size (fun k_=>some k_ ≠ (s_.2.1 : Value).ownBlock ∧ some k_ ≠ (Ai : Value).ownBlock ∧ some k_ ≠ (Aj : Value).ownBlock ∧ some k_ ≠ (Ak : Value).ownBlock ∧ some k_ ≠ (.slice (some As) Aa.length Ar : Value).ownBlock ∧ some k_ ≠ (Am : Value).ownBlock ∧ some k_ ≠ (An : Value).ownBlock) Al Cd) ∧ (Kd.R (Kd.int .i64) 3 w' w.heap.size (fun k_=>some k_ ≠ (s_.2.1 : Value).ownBlock ∧ some k_ ≠ (Ai : Value).ownBlock ∧ some k_ ≠ (Aj : Value).ownBlock ∧ some k_ ≠ (Ak : Value).ownBlock ∧ some k_ ≠ (.slice (some As) Aa.length Ar : Value).ownBlock ∧ some k_ ≠ (Al : Value).ownBlock ∧ some k_ ≠ (An : Value).ownBlock) Am Ce) ∧ (Kd.R (Kd.int .i64) 3 w' w.heap.size (fun k_=>some k_ ≠ (s_.2.1 : Value).ownBlock ∧ some k_ ≠ (Ai : Value).ownBlock ∧ some k_ ≠ (Aj : Value).ownBlock ∧ some k_ ≠ (Ak : Value).ownBlock ∧ some k_ ≠ (.slice (some As) Aa.length Ar : Value).ownBlock ∧ some k_ ≠ (Al : Value).ownBlock ∧ some k_ ≠ (Am : Value).ownBlock) An Cf) ∧ (w'.heap[Bz]? = some (.cells #[.int .i64 Ch,Ai] 26 (0,0))) ∧ (w'.heap[B0]? = some (.cells #[.int .i64 Ci,Aj] 26 (0,0))) ∧ (w'.heap[B2]? = some (.cells #[.int .i64 Cj,Ak] 26 (0,0))) ∧ (w'.heap[Bp]? = some (.cells #[.int .i64 Bd,.slice (some As) Aa.length Ar] 26 (0,0))) ∧ (w'.heap[B4]? = some (.cells #[.int .i64 Ck,Al] 26 (0,0))) ∧ (w'.heap[B5]? = some (.cells #[.int .i64 Cl,Am] 26 (0,0))) ∧ (w'.heap[B6]? = some (.cells #[.int .i64 Cm,An] 26 (0,0))) ∧ (w'.heap[s_.2.2]? = some (.cells #[.int .i64 0,.slice none 0 0] 26 (0,0))) ∧ (w.heap.size ≤ s_.2.2) ∧ (w.heap.size ≤ s_.2.2) ∧ (Bz ≠ s_.2.2) ∧ (s_.2.2 ≠ Bz) ∧ (B0 ≠ s_.2.2) ∧ (s_.2.2 ≠ B0) ∧ (B2 ≠ s_.2.2) ∧ (s_.2.2 ≠ B2) ∧ (Bp ≠ s_.2.2) ∧ (s_.2.2 ≠ Bp) ∧ (B4 ≠ s_.2.2) ∧ (s_.2.2 ≠ B4) ∧ (B5 ≠ s_.2.2) ∧ (s_.2.2 ≠ B5) ∧ (B6 ≠ s_.2.2) ∧ (s_.2.2 ≠ B6) ∧ (Below w.heap.size w w')) ?_ ?_
 rotate_left
 ·intro hCont
  refine two_ (i:=2) (j:=7) (Ni:=some 164) (Nj:=some 23) #[T,T,T,T,T,F,F,F,F] #[T,T,F,T,T,F,F,T,F] rfl rfl rfl rfl (two_of HT_.1 (by kernel_rfl)) (by decide) (by decide) (fun K hK=>?_) (fun K hK=>?_)
  ·skip
   refine Kd.R_lit_step (Kd.int .i64) _ 3 ?hg (N:=164) ?hd (xs:=([] : List Int)) (inner:=[]) (ok:=fun _=>True) (okp:=fun _=>True) ?hr ?hp (fun _ hk=>hk) trivial (Below.refl _ _) (Nat.le_refl _) (by simp) ?_;(case hd=>rfl);(case hg=>rfl);(case hr=>go_simp;try rfl);(case hp=>exact (Reps.none _ _))
   intro Co F0 B7 hb hg_ hnew_
   clear hg_ hnew_;(first|rw [← Cw.1] at B7|(simp only [Int.reduceToNat] at B7;rw [← Cw.1] at B7))
   have n0_:=A_ (Kd.R_elder' (rl_ Ac) (Kd.R_base B7) hb);have n1_:=A_ (Kd.R_elder' (rl_ Ad) (Kd.R_base B7) hb);have n2_:=A_ (Kd.R_elder' (rl_ Ae) (Kd.R_base B7) hb);have n3_:=A_ (Kd.R_elder' (rl_ Ab) (Kd.R_base B7) hb);have n4_:=A_ (Kd.R_elder' (rl_ Af) (Kd.R_base B7) hb);have n5_:=A_ (Kd.R_elder' (rl_ Ag) (Kd.R_base B7) hb);have n6_:=A_ (Kd.R_elder' (rl_ Ah) (Kd.R_base B7) hb);have n7_:=A_ (Kd.R_lower (Kd.R_new' (Kd.R_new' (Kd.R_new' (Kd.R_new' (Kd.R_new' (Kd.R_new' (Kd.R_new' B7 (Kd.R_lt (rl_ Ac))) (Kd.R_lt (rl_ Ad))) (Kd.R_lt (rl_ Ae))) (Kd.R_lt (rl_ Ab))) (Kd.R_lt (rl_ Af))) (Kd.R_lt (rl_ Ag))) (Kd.R_lt (rl_ Ah))) (below_size bb_));have n8_:=bz At hb;have n9_:=bz Au hb;have n10_:=bz Av hb;have n11_:=bz Ao hb;have n12_:=bz Aw hb;have n13_:=bz Ax hb;have n14_:=bz Ay hb;have n15_:=A_ (below_step bb_ hb);clear Ac;clear Ad;clear Ae;clear Ab;clear Af;clear Ag;clear Ah;clear At;clear Au;clear Av;clear Ao;clear Aw;clear Ax;clear Ay;clear HB;have Ac:=n0_;have Ad:=n1_;have Ae:=n2_;have Ab:=n3_;have Af:=n4_;have Ag:=n5_;have Ah:=n6_;have Bf:=n7_;have At:=n8_;have Au:=n9_;have Av:=n10_;have Ao:=n11_;have Aw:=n12_;have Ax:=n13_;have Ay:=n14_;have HB:=n15_;clear n0_ n1_ n2_ n3_ n4_ n5_ n6_ n7_ n8_ n9_ n10_ n11_ n12_ n13_ n14_ n15_;clear hb B7;refine hK.out _ _ ⟨blk_cell Ao.1 0,blk_cell Ao.1 1⟩ (fun hHeld=>?_)
   clear hK K;refine norm_ (a':=?_) ?_ ?_
   rotate_left
   ·show Act.put _ (some 164) _ = _
    simp only [Act.put,L_,M_,N_,i64_w,i32_w]
    rfl
   refine two_ (i:=5) (j:=7) (Ni:=some 167) (Nj:=some 23) #[T,T,T,T,T,T,F,F,F] #[T,T,T,T,T,F,F,T,F] rfl rfl rfl rfl (two_of HT_.1 (by kernel_rfl)) (by decide) (by decide) (fun K hK=>?_) (fun K hK=>?_)
   ·skip
    refine Kd.R_append_rows_step (Kd.int .i64) (w0:=w) w.heap.size (by rfl) (.tmp 164) (.tmp 166) 24 3 (.int .i64 0) 8 rfl Tryd.underlying24 info3 rfl (by decide) (by omega) Co D0 Aa _ _ _ (fun k_=>some k_ ≠ (Ai : Value).ownBlock ∧ some k_ ≠ (Aj : Value).ownBlock ∧ some k_ ≠ (Ak : Value).ownBlock ∧ some k_ ≠ (.slice (some As) Aa.length Ar : Value).ownBlock ∧ some k_ ≠ (Al : Value).ownBlock ∧ some k_ ≠ (Am : Value).ownBlock ∧ some k_ ≠ (An : Value).ownBlock) (fun _=>False) rfl rfl ?aO ?aR (fun _ _ h=>h) (fun _ h=>h.elim) ?aF ?aB ?aS ?aL ?_
    (case aR=>exact cl_ (Kd.R_reads' Ab.1).2.2)
    (case aB=>exact bb_)
    (case aF=>exact (fun k_ hk=>⟨Kd.fresh' (Kd.R_lt (rl_ Ac)) k_ hk,Kd.fresh' (Kd.R_lt (rl_ Ad)) k_ hk,Kd.fresh' (Kd.R_lt (rl_ Ae)) k_ hk,Kd.fresh' (Kd.R_lt (rl_ Ab)) k_ hk,Kd.fresh' (Kd.R_lt (rl_ Af)) k_ hk,Kd.fresh' (Kd.R_lt (rl_ Ag)) k_ hk,Kd.fresh' (Kd.R_lt (rl_ Ah)) k_ hk⟩))
    (case aO=>exact (rq_ (Kd.R_mono Bf.1 (fun _ hk=>⟨hk.1.1.1.1.1.1.2,⟨hk.1.1.1.1.1.2,⟨hk.1.1.1.1.2,⟨hk.1.1.1.2,⟨hk.1.1.2,⟨hk.1.2,hk.2⟩⟩⟩⟩⟩⟩))))
    (case aS=>exact (below_size bb_))
    (case aL=>have:=Cz.1;omega)
    intro Cg F1 ho hb hg hat
    rw [← C1.1] at ho;have n0_:=A_ (Kd.R_after (ok:=(fun k_=>some k_ ≠ (Aj : Value).ownBlock ∧ some k_ ≠ (Ak : Value).ownBlock ∧ some k_ ≠ (.slice (some As) Aa.length Ar : Value).ownBlock ∧ some k_ ≠ (Al : Value).ownBlock ∧ some k_ ≠ (Am : Value).ownBlock ∧ some k_ ≠ (An : Value).ownBlock)) (rl_ Ac) hg hat);have n1_:=A_ (Kd.R_after (ok:=(fun k_=>some k_ ≠ (Ai : Value).ownBlock ∧ some k_ ≠ (Ak : Value).ownBlock ∧ some k_ ≠ (.slice (some As) Aa.length Ar : Value).ownBlock ∧ some k_ ≠ (Al : Value).ownBlock ∧ some k_ ≠ (Am : Value).ownBlock ∧ some k_ ≠ (An : Value).ownBlock)) (rl_ Ad) hg hat);have n2_:=A_ (Kd.R_after (ok:=(fun k_=>some k_ ≠ (Ai : Value).ownBlock ∧ some k_ ≠ (Aj : Value).ownBlock ∧ some k_ ≠ (.slice (some As) Aa.length Ar : Value).ownBlock ∧ some k_ ≠ (Al : Value).ownBlock ∧ some k_ ≠ (Am : Value).ownBlock ∧ some k_ ≠ (An : Value).ownBlock)) (rl_ Ae) hg hat);have n3_:=A_ (Kd.R_after (ok:=(fun k_=>some k_ ≠ (Ai : Value).ownBlock ∧ some k_ ≠ (Aj : Value).ownBlock ∧ some k_ ≠ (Ak : Value).ownBlock ∧ some k_ ≠ (Al : Value).ownBlock ∧ some k_ ≠ (Am : Value).ownBlock ∧ some k_ ≠ (An : Value).ownBlock)) (rl_ Ab) hg hat);have n4_:=A_ (Kd.R_after (ok:=(fun k_=>some k_ ≠ (Ai : Value).ownBlock ∧ some k_ ≠ (Aj : Value).ownBlock ∧ some k_ ≠ (Ak : Value).ownBlock ∧ some k_ ≠ (.slice (some As) Aa.length Ar : Value).ownBlock ∧ some k_ ≠ (Am : Value).ownBlock ∧ some k_ ≠ (An : Value).ownBlock)) (rl_ Af) hg hat);have n5_:=A_ (Kd.R_after (ok:=(fun k_=>some k_ ≠ (Ai : Value).ownBlock ∧ some k_ ≠ (Aj : Value).ownBlock ∧ some k_ ≠ (Ak : Value).ownBlock ∧ some k_ ≠ (.slice (some As) Aa.length Ar : Value).ownBlock ∧ some k_ ≠ (Al : Value).ownBlock ∧ some k_ ≠ (An : Value).ownBlock)) (rl_ Ag) hg hat);have n6_:=A_ (Kd.R_after (ok:=(fun k_=>some k_ ≠ (Ai : Value).ownBlock ∧ some k_ ≠ (Aj : Value).ownBlock ∧ some k_ ≠ (Ak : Value).ownBlock ∧ some k_ ≠ (.slice (some As) Aa.length Ar : Value).ownBlock ∧ some k_ ≠ (Al : Value).ownBlock ∧ some k_ ≠ (Am : Value).ownBlock)) (rl_ Ah) hg hat);have n7_:=A_ (blk_grown (g:=Bz) (o:=.cells #[.int .i64 Ch,Ai] 26 (0,0)) (bl_ At) hg (Kd.R_ne Bf.1 At.1 (by decide)));have n8_:=A_ (blk_grown (g:=B0) (o:=.cells #[.int .i64 Ci,Aj] 26 (0,0)) (bl_ Au) hg (Kd.R_ne Bf.1 Au.1 (by decide)));have n9_:=A_ (blk_grown (g:=B2) (o:=.cells #[.int .i64 Cj,Ak] 26 (0,0)) (bl_ Av) hg (Kd.R_ne Bf.1 Av.1 (by decide)));have n10_:=A_ (blk_grown (g:=Bp) (o:=.cells #[.int .i64 Bd,.slice (some As) Aa.length Ar] 26 (0,0)) (bl_ Ao) hg (Kd.R_ne Bf.1 Ao.1 (by decide)));have n11_:=A_ (blk_grown (g:=B4) (o:=.cells #[.int .i64 Ck,Al] 26 (0,0)) (bl_ Aw) hg (Kd.R_ne Bf.1 Aw.1 (by decide)));have n12_:=A_ (blk_grown (g:=B5) (o:=.cells #[.int .i64 Cl,Am] 26 (0,0)) (bl_ Ax) hg (Kd.R_ne Bf.1 Ax.1 (by decide)));have n13_:=A_ (blk_grown (g:=B6) (o:=.cells #[.int .i64 Cm,An] 26 (0,0)) (bl_ Ay) hg (Kd.R_ne Bf.1 Ay.1 (by decide)));have n14_:=A_ (hb);have n15_:=A_ (ho);clear Ac;clear Ad;clear Ae;clear Ab;clear Af;clear Ag;clear Ah;clear At;clear Au;clear Av;clear Ao;clear Aw;clear Ax;clear Ay;clear HB;clear Bf;have Ac:=n0_;have Ad:=n1_;have Ae:=n2_;have Ab:=n3_;have Af:=n4_;have Ag:=n5_;have Ah:=n6_;have At:=n7_;have Au:=n8_;have Av:=n9_;have Ao:=n10_;have Aw:=n11_;have Ax:=n12_;have Ay:=n13_;have HB:=n14_;have Bb:=n15_;clear n0_ n1_ n2_ n3_ n4_ n5_ n6_ n7_ n8_ n9_ n10_ n11_ n12_ n13_ n14_ n15_;clear ho hb hg hat;obtain ⟨El,Em,D9⟩:=Kd.R_slice Bb.1;(first|subst D9|(injection D9 with f1_ f2_ f3_;have f4_:=f1_.symm;have f5_:=f3_.symm;clear f1_ f2_ f3_;subst f4_;subst f5_))
    refine hK.out _ _ ⟨blk_cell Ao.1 0,blk_cell Ao.1 1⟩ (fun hHeld=>?_)
    clear hK K;refine norm_ (a':=?_) ?_ ?_
    rotate_left
    ·show Act.put _ (some 167) _ = _
     simp only [Act.put,L_,M_,N_,i64_w,i32_w]
     rfl
    refine pu_ (i:=6) (N:=168) #[T,T,T,T,T,T,T,F,F] HT_.1 rfl rfl (fun _ _ _ h=>h) rfl (h:=?_)
    refine one_ (i:=7) (N:=some 23) #[T,T,T,T,T,T,T,T,F] rfl rfl (one_of HT_.1 (by kernel_rfl)) (by decide) (fun K hK=>?_)
    refine box_step ?hg (N:=23) ?hd (cs:=#[.int .i64 0,.slice none 0 0]) (t:=26) ?hr ?_;(case hd=>rfl);(case hg=>rfl);(case hr=>go_simp;try rfl)
    intro Ap hg Mk hbox hb
    have n0_:=rb_ Ac hb;have n1_:=rb_ Ad hb;have n2_:=rb_ Ae hb;have n3_:=rb_ Ab hb;have n4_:=rb_ Af hb;have n5_:=rb_ Ag hb;have n6_:=rb_ Ah hb;have n7_:=rb_ Bb hb;have n8_:=bz At hb;have n9_:=bz Au hb;have n10_:=bz Av hb;have n11_:=bz Ao hb;have n12_:=bz Aw hb;have n13_:=bz Ax hb;have n14_:=bz Ay hb;have n15_:=A_ (below_step bb_ hb);have n16_:=A_ (hbox);have n17_:=A_ (gw_ (w:=w) hg bb_);have n18_:=A_ (gw_ (w:=w) hg bb_);have n19_:=A_ (nl_ hg At);have n20_:=A_ (ng_ hg At);have n21_:=A_ (nl_ hg Au);have n22_:=A_ (ng_ hg Au);have n23_:=A_ (nl_ hg Av);have n24_:=A_ (ng_ hg Av);have n25_:=A_ (nl_ hg Ao);have n26_:=A_ (ng_ hg Ao);have n27_:=A_ (nl_ hg Aw);have n28_:=A_ (ng_ hg Aw);have n29_:=A_ (nl_ hg Ax);have n30_:=A_ (ng_ hg Ax);have n31_:=A_ (nl_ hg Ay);have n32_:=A_ (ng_ hg Ay);clear Ac;clear Ad;clear Ae;clear Ab;clear Af;clear Ag;clear Ah;clear Bb;clear At;clear Au;clear Av;clear Ao;clear Aw;clear Ax;clear Ay;clear HB;have Ac:=n0_;have Ad:=n1_;have Ae:=n2_;have Ab:=n3_;have Af:=n4_;have Ag:=n5_;have Ah:=n6_;have Bb:=n7_;have At:=n8_;have Au:=n9_;have Av:=n10_;have Ao:=n11_;have Aw:=n12_;have Ax:=n13_;have Ay:=n14_;have HB:=n15_;have A8:=n16_;have Cp:=n17_;have Cq:=n18_;have Bj:=n19_;have Bq:=n20_;have Bk:=n21_;have Br:=n22_;have Bl:=n23_;have Bs:=n24_;have Bh:=n25_;have Bt:=n26_;have Bm:=n27_;have Bu:=n28_;have Bn:=n29_;have Bv:=n30_;have Bo:=n31_;have Bw:=n32_;clear n0_ n1_ n2_ n3_ n4_ n5_ n6_ n7_ n8_ n9_ n10_ n11_ n12_ n13_ n14_ n15_ n16_ n17_ n18_ n19_ n20_ n21_ n22_ n23_ n24_ n25_ n26_ n27_ n28_ n29_ n30_ n31_ n32_;clear hb hbox hg;refine hK.out _ _ ⟨blk_cell Ao.1 0,blk_cell Ao.1 1⟩ (fun hHeld=>?_)
    clear hK K;refine norm_ (a':=?_) ?_ ?_
    rotate_left
    ·show Act.put _ (some 23) _ = _
     simp only [Act.put,L_,M_,N_,i64_w,i32_w]
     rfl
    exact norm_ (by simp only [putAll,Act.put,L_,M_,N_]) (hCont (Co,.slice El Az.length Em,Ap) _ ⟨hHeld,(rl_ Bb),(rq_ (Kd.R_mono Ac.1 (fun _ hk=>⟨hk.2,⟨hk.1.1,⟨hk.1.2.1,⟨hk.1.2.2.1,⟨hk.1.2.2.2.1,⟨hk.1.2.2.2.2.1,hk.1.2.2.2.2.2⟩⟩⟩⟩⟩⟩))),(rq_ (Kd.R_mono Ad.1 (fun _ hk=>⟨hk.2,⟨hk.1.1,⟨hk.1.2.1,⟨hk.1.2.2.1,⟨hk.1.2.2.2.1,⟨hk.1.2.2.2.2.1,hk.1.2.2.2.2.2⟩⟩⟩⟩⟩⟩))),(rq_ (Kd.R_mono Ae.1 (fun _ hk=>⟨hk.2,⟨hk.1.1,⟨hk.1.2.1,⟨hk.1.2.2.1,⟨hk.1.2.2.2.1,⟨hk.1.2.2.2.2.1,hk.1.2.2.2.2.2⟩⟩⟩⟩⟩⟩))),(rq_ (Kd.R_mono Ab.1 (fun _ hk=>⟨hk.2,⟨hk.1.1,⟨hk.1.2.1,⟨hk.1.2.2.1,⟨hk.1.2.2.2.1,⟨hk.1.2.2.2.2.1,hk.1.2.2.2.2.2⟩⟩⟩⟩⟩⟩))),(rq_ (Kd.R_mono Af.1 (fun _ hk=>⟨hk.2,⟨hk.1.1,⟨hk.1.2.1,⟨hk.1.2.2.1,⟨hk.1.2.2.2.1,⟨hk.1.2.2.2.2.1,hk.1.2.2.2.2.2⟩⟩⟩⟩⟩⟩))),(rq_ (Kd.R_mono Ag.1 (fun _ hk=>⟨hk.2,⟨hk.1.1,⟨hk.1.2.1,⟨hk.1.2.2.1,⟨hk.1.2.2.2.1,⟨hk.1.2.2.2.2.1,hk.1.2.2.2.2.2⟩⟩⟩⟩⟩⟩))),(rq_ (Kd.R_mono Ah.1 (fun _ hk=>⟨hk.2,⟨hk.1.1,⟨hk.1.2.1,⟨hk.1.2.2.1,⟨hk.1.2.2.2.1,⟨hk.1.2.2.2.2.1,hk.1.2.2.2.2.2⟩⟩⟩⟩⟩⟩))),(bl_ At),(bl_ Au),(bl_ Av),(bl_ Ao),(bl_ Aw),(bl_ Ax),(bl_ Ay),(bl_ A8),Cp.1,Cq.1,Bj.1,Bq.1,Bk.1,Br.1,Bl.1,Bs.1,Bh.1,Bt.1,Bm.1,Bu.1,Bn.1,Bv.1,Bo.1,Bw.1,bb_⟩)
   ·skip
    refine box_step ?hg (N:=23) ?hd (cs:=#[.int .i64 0,.slice none 0 0]) (t:=26) ?hr ?_;(case hd=>rfl);(case hg=>rfl);(case hr=>go_simp;try rfl)
    intro Ap hg F1 hbox hb
    have n0_:=rb_ Ac hb;have n1_:=rb_ Ad hb;have n2_:=rb_ Ae hb;have n3_:=rb_ Ab hb;have n4_:=rb_ Af hb;have n5_:=rb_ Ag hb;have n6_:=rb_ Ah hb;have n7_:=rb_ Bf hb;have n8_:=bz At hb;have n9_:=bz Au hb;have n10_:=bz Av hb;have n11_:=bz Ao hb;have n12_:=bz Aw hb;have n13_:=bz Ax hb;have n14_:=bz Ay hb;have n15_:=A_ (below_step bb_ hb);have n16_:=A_ (hbox);have n17_:=A_ (gw_ (w:=w) hg bb_);have n18_:=A_ (gw_ (w:=w) hg bb_);have n19_:=A_ (nl_ hg At);have n20_:=A_ (ng_ hg At);have n21_:=A_ (nl_ hg Au);have n22_:=A_ (ng_ hg Au);have n23_:=A_ (nl_ hg Av);have n24_:=A_ (ng_ hg Av);have n25_:=A_ (nl_ hg Ao);have n26_:=A_ (ng_ hg Ao);have n27_:=A_ (nl_ hg Aw);have n28_:=A_ (ng_ hg Aw);have n29_:=A_ (nl_ hg Ax);have n30_:=A_ (ng_ hg Ax);have n31_:=A_ (nl_ hg Ay);have n32_:=A_ (ng_ hg Ay);clear Ac;clear Ad;clear Ae;clear Ab;clear Af;clear Ag;clear Ah;clear Bf;clear At;clear Au;clear Av;clear Ao;clear Aw;clear Ax;clear Ay;clear HB;have Ac:=n0_;have Ad:=n1_;have Ae:=n2_;have Ab:=n3_;have Af:=n4_;have Ag:=n5_;have Ah:=n6_;have Bf:=n7_;have At:=n8_;have Au:=n9_;have Av:=n10_;have Ao:=n11_;have Aw:=n12_;have Ax:=n13_;have Ay:=n14_;have HB:=n15_;have A8:=n16_;have Cp:=n17_;have Cq:=n18_;have Bj:=n19_;have Bq:=n20_;have Bk:=n21_;have Br:=n22_;have Bl:=n23_;have Bs:=n24_;have Bh:=n25_;have Bt:=n26_;have Bm:=n27_;have Bu:=n28_;have Bn:=n29_;have Bv:=n30_;have Bo:=n31_;have Bw:=n32_;clear n0_ n1_ n2_ n3_ n4_ n5_ n6_ n7_ n8_ n9_ n10_ n11_ n12_ n13_ n14_ n15_ n16_ n17_ n18_ n19_ n20_ n21_ n22_ n23_ n24_ n25_ n26_ n27_ n28_ n29_ n30_ n31_ n32_;clear hb hbox hg;refine hK.out _ _ ⟨blk_cell Ao.1 0,blk_cell Ao.1 1⟩ (fun hHeld=>?_)
    clear hK K;refine norm_ (a':=?_) ?_ ?_
    rotate_left
    ·show Act.put _ (some 23) _ = _
     simp only [Act.put,L_,M_,N_,i64_w,i32_w]
     rfl
    refine one_ (i:=5) (N:=some 167) #[T,T,T,T,T,T,F,T,F] rfl rfl (one_of HT_.1 (by kernel_rfl)) (by decide) (fun K hK=>?_)
    refine Kd.R_append_rows_step (Kd.int .i64) (w0:=w) w.heap.size (by rfl) (.tmp 164) (.tmp 166) 24 3 (.int .i64 0) 8 rfl Tryd.underlying24 info3 rfl (by decide) (by omega) Co D0 Aa _ _ _ (fun k_=>some k_ ≠ (Ai : Value).ownBlock ∧ some k_ ≠ (Aj : Value).ownBlock ∧ some k_ ≠ (Ak : Value).ownBlock ∧ some k_ ≠ (.slice (some As) Aa.length Ar : Value).ownBlock ∧ some k_ ≠ (Al : Value).ownBlock ∧ some k_ ≠ (Am : Value).ownBlock ∧ some k_ ≠ (An : Value).ownBlock) (fun _=>False) rfl rfl ?aO ?aR (fun _ _ h=>h) (fun _ h=>h.elim) ?aF ?aB ?aS ?aL ?_
    (case aR=>exact cl_ (Kd.R_reads' Ab.1).2.2)
    (case aB=>exact bb_)
    (case aF=>exact (fun k_ hk=>⟨Kd.fresh' (Kd.R_lt (rl_ Ac)) k_ hk,Kd.fresh' (Kd.R_lt (rl_ Ad)) k_ hk,Kd.fresh' (Kd.R_lt (rl_ Ae)) k_ hk,Kd.fresh' (Kd.R_lt (rl_ Ab)) k_ hk,Kd.fresh' (Kd.R_lt (rl_ Af)) k_ hk,Kd.fresh' (Kd.R_lt (rl_ Ag)) k_ hk,Kd.fresh' (Kd.R_lt (rl_ Ah)) k_ hk⟩))
    (case aO=>exact (rq_ (Kd.R_mono Bf.1 (fun _ hk=>⟨hk.1.1.1.1.1.1.2,⟨hk.1.1.1.1.1.2,⟨hk.1.1.1.1.2,⟨hk.1.1.1.2,⟨hk.1.1.2,⟨hk.1.2,hk.2⟩⟩⟩⟩⟩⟩))))
    (case aS=>exact (below_size bb_))
    (case aL=>have:=Cz.1;omega)
    intro Cg F2 ho hb hg hat
    rw [← C1.1] at ho;have n0_:=A_ (Kd.R_after (ok:=(fun k_=>some k_ ≠ (Aj : Value).ownBlock ∧ some k_ ≠ (Ak : Value).ownBlock ∧ some k_ ≠ (.slice (some As) Aa.length Ar : Value).ownBlock ∧ some k_ ≠ (Al : Value).ownBlock ∧ some k_ ≠ (Am : Value).ownBlock ∧ some k_ ≠ (An : Value).ownBlock)) (rl_ Ac) hg hat);have n1_:=A_ (Kd.R_after (ok:=(fun k_=>some k_ ≠ (Ai : Value).ownBlock ∧ some k_ ≠ (Ak : Value).ownBlock ∧ some k_ ≠ (.slice (some As) Aa.length Ar : Value).ownBlock ∧ some k_ ≠ (Al : Value).ownBlock ∧ some k_ ≠ (Am : Value).ownBlock ∧ some k_ ≠ (An : Value).ownBlock)) (rl_ Ad) hg hat);have n2_:=A_ (Kd.R_after (ok:=(fun k_=>some k_ ≠ (Ai : Value).ownBlock ∧ some k_ ≠ (Aj : Value).ownBlock ∧ some k_ ≠ (.slice (some As) Aa.length Ar : Value).ownBlock ∧ some k_ ≠ (Al : Value).ownBlock ∧ some k_ ≠ (Am : Value).ownBlock ∧ some k_ ≠ (An : Value).ownBlock)) (rl_ Ae) hg hat);have n3_:=A_ (Kd.R_after (ok:=(fun k_=>some k_ ≠ (Ai : Value).ownBlock ∧ some k_ ≠ (Aj : Value).ownBlock ∧ some k_ ≠ (Ak : Value).ownBlock ∧ some k_ ≠ (Al : Value).ownBlock ∧ some k_ ≠ (Am : Value).ownBlock ∧ some k_ ≠ (An : Value).ownBlock)) (rl_ Ab) hg hat);have n4_:=A_ (Kd.R_after (ok:=(fun k_=>some k_ ≠ (Ai : Value).ownBlock ∧ some k_ ≠ (Aj : Value).ownBlock ∧ some k_ ≠ (Ak : Value).ownBlock ∧ some k_ ≠ (.slice (some As) Aa.length Ar : Value).ownBlock ∧ some k_ ≠ (Am : Value).ownBlock ∧ some k_ ≠ (An : Value).ownBlock)) (rl_ Af) hg hat);have n5_:=A_ (Kd.R_after (ok:=(fun k_=>some k_ ≠ (Ai : Value).ownBlock ∧ some k_ ≠ (Aj : Value).ownBlock ∧ some k_ ≠ (Ak : Value).ownBlock ∧ some k_ ≠ (.slice (some As) Aa.length Ar : Value).ownBlock ∧ some k_ ≠ (Al : Value).ownBlock ∧ some k_ ≠ (An : Value).ownBlock)) (rl_ Ag) hg hat);have n6_:=A_ (Kd.R_after (ok:=(fun k_=>some k_ ≠ (Ai : Value).ownBlock ∧ some k_ ≠ (Aj : Value).ownBlock ∧ some k_ ≠ (Ak : Value).ownBlock ∧ some k_ ≠ (.slice (some As) Aa.length Ar : Value).ownBlock ∧ some k_ ≠ (Al : Value).ownBlock ∧ some k_ ≠ (Am : Value).ownBlock)) (rl_ Ah) hg hat);have n7_:=A_ (blk_grown (g:=Bz) (o:=.cells #[.int .i64 Ch,Ai] 26 (0,0)) (bl_ At) hg (Kd.R_ne Bf.1 At.1 (by decide)));have n8_:=A_ (blk_grown (g:=B0) (o:=.cells #[.int .i64 Ci,Aj] 26 (0,0)) (bl_ Au) hg (Kd.R_ne Bf.1 Au.1 (by decide)));have n9_:=A_ (blk_grown (g:=B2) (o:=.cells #[.int .i64 Cj,Ak] 26 (0,0)) (bl_ Av) hg (Kd.R_ne Bf.1 Av.1 (by decide)));have n10_:=A_ (blk_grown (g:=Bp) (o:=.cells #[.int .i64 Bd,.slice (some As) Aa.length Ar] 26 (0,0)) (bl_ Ao) hg (Kd.R_ne Bf.1 Ao.1 (by decide)));have n11_:=A_ (blk_grown (g:=B4) (o:=.cells #[.int .i64 Ck,Al] 26 (0,0)) (bl_ Aw) hg (Kd.R_ne Bf.1 Aw.1 (by decide)));have n12_:=A_ (blk_grown (g:=B5) (o:=.cells #[.int .i64 Cl,Am] 26 (0,0)) (bl_ Ax) hg (Kd.R_ne Bf.1 Ax.1 (by decide)));have n13_:=A_ (blk_grown (g:=B6) (o:=.cells #[.int .i64 Cm,An] 26 (0,0)) (bl_ Ay) hg (Kd.R_ne Bf.1 Ay.1 (by decide)));have n14_:=A_ (blk_grown (g:=Ap) (o:=.cells #[.int .i64 0,.slice none 0 0] 26 (0,0)) (bl_ A8) hg (Kd.R_ne Bf.1 A8.1 (by decide)));have n15_:=A_ (hb);have n16_:=A_ (ho);clear Ac;clear Ad;clear Ae;clear Ab;clear Af;clear Ag;clear Ah;clear At;clear Au;clear Av;clear Ao;clear Aw;clear Ax;clear Ay;clear A8;clear HB;clear Bf;have Ac:=n0_;have Ad:=n1_;have Ae:=n2_;have Ab:=n3_;have Af:=n4_;have Ag:=n5_;have Ah:=n6_;have At:=n7_;have Au:=n8_;have Av:=n9_;have Ao:=n10_;have Aw:=n11_;have Ax:=n12_;have Ay:=n13_;have A8:=n14_;have HB:=n15_;have Bb:=n16_;clear n0_ n1_ n2_ n3_ n4_ n5_ n6_ n7_ n8_ n9_ n10_ n11_ n12_ n13_ n14_ n15_ n16_;clear ho hb hg hat;obtain ⟨C3,C4,Cu⟩:=Kd.R_slice Bb.1;(first|subst Cu|(injection Cu with f1_ f2_ f3_;have f4_:=f1_.symm;have f5_:=f3_.symm;clear f1_ f2_ f3_;subst f4_;subst f5_))
    refine hK.out _ _ ⟨blk_cell Ao.1 0,blk_cell Ao.1 1⟩ (fun hHeld=>?_)
    clear hK K;refine norm_ (a':=?_) ?_ ?_
    rotate_left
    ·show Act.put _ (some 167) _ = _
     simp only [Act.put,L_,M_,N_,i64_w,i32_w]
     rfl
    refine pu_ (i:=6) (N:=168) #[T,T,T,T,T,T,T,T,F] HT_.1 rfl rfl (fun _ _ _ h=>h) rfl (h:=?_)
    exact norm_ (by simp only [putAll,Act.put,L_,M_,N_]) (hCont (Co,.slice C3 Az.length C4,Ap) _ ⟨hHeld,(rl_ Bb),(rq_ (Kd.R_mono Ac.1 (fun _ hk=>⟨hk.2,⟨hk.1.1,⟨hk.1.2.1,⟨hk.1.2.2.1,⟨hk.1.2.2.2.1,⟨hk.1.2.2.2.2.1,hk.1.2.2.2.2.2⟩⟩⟩⟩⟩⟩))),(rq_ (Kd.R_mono Ad.1 (fun _ hk=>⟨hk.2,⟨hk.1.1,⟨hk.1.2.1,⟨hk.1.2.2.1,⟨hk.1.2.2.2.1,⟨hk.1.2.2.2.2.1,hk.1.2.2.2.2.2⟩⟩⟩⟩⟩⟩))),(rq_ (Kd.R_mono Ae.1 (fun _ hk=>⟨hk.2,⟨hk.1.1,⟨hk.1.2.1,⟨hk.1.2.2.1,⟨hk.1.2.2.2.1,⟨hk.1.2.2.2.2.1,hk.1.2.2.2.2.2⟩⟩⟩⟩⟩⟩))),(rq_ (Kd.R_mono Ab.1 (fun _ hk=>⟨hk.2,⟨hk.1.1,⟨hk.1.2.1,⟨hk.1.2.2.1,⟨hk.1.2.2.2.1,⟨hk.1.2.2.2.2.1,hk.1.2.2.2.2.2⟩⟩⟩⟩⟩⟩))),(rq_ (Kd.R_mono Af.1 (fun _ hk=>⟨hk.2,⟨hk.1.1,⟨hk.1.2.1,⟨hk.1.2.2.1,⟨hk.1.2.2.2.1,⟨hk.1.2.2.2.2.1,hk.1.2.2.2.2.2⟩⟩⟩⟩⟩⟩))),(rq_ (Kd.R_mono Ag.1 (fun _ hk=>⟨hk.2,⟨hk.1.1,⟨hk.1.2.1,⟨hk.1.2.2.1,⟨hk.1.2.2.2.1,⟨hk.1.2.2.2.2.1,hk.1.2.2.2.2.2⟩⟩⟩⟩⟩⟩))),(rq_ (Kd.R_mono Ah.1 (fun _ hk=>⟨hk.2,⟨hk.1.1,⟨hk.1.2.1,⟨hk.1.2.2.1,⟨hk.1.2.2.2.1,⟨hk.1.2.2.2.2.1,hk.1.2.2.2.2.2⟩⟩⟩⟩⟩⟩))),(bl_ At),(bl_ Au),(bl_ Av),(bl_ Ao),(bl_ Aw),(bl_ Ax),(bl_ Ay),(bl_ A8),Cp.1,Cq.1,Bj.1,Bq.1,Bk.1,Br.1,Bl.1,Bs.1,Bh.1,Bt.1,Bm.1,Bu.1,Bn.1,Bv.1,Bo.1,Bw.1,bb_⟩)
  ·skip
   refine box_step ?hg (N:=23) ?hd (cs:=#[.int .i64 0,.slice none 0 0]) (t:=26) ?hr ?_;(case hd=>rfl);(case hg=>rfl);(case hr=>go_simp;try rfl)
   intro Ap hg F0 hbox hb
   have n0_:=rb_ Ac hb;have n1_:=rb_ Ad hb;have n2_:=rb_ Ae hb;have n3_:=rb_ Ab hb;have n4_:=rb_ Af hb;have n5_:=rb_ Ag hb;have n6_:=rb_ Ah hb;have n7_:=bz At hb;have n8_:=bz Au hb;have n9_:=bz Av hb;have n10_:=bz Ao hb;have n11_:=bz Aw hb;have n12_:=bz Ax hb;have n13_:=bz Ay hb;have n14_:=A_ (below_step bb_ hb);have n15_:=A_ (hbox);have n16_:=A_ (gw_ (w:=w) hg bb_);have n17_:=A_ (gw_ (w:=w) hg bb_);have n18_:=A_ (nl_ hg At);have n19_:=A_ (ng_ hg At);have n20_:=A_ (nl_ hg Au);have n21_:=A_ (ng_ hg Au);have n22_:=A_ (nl_ hg Av);have n23_:=A_ (ng_ hg Av);have n24_:=A_ (nl_ hg Ao);have n25_:=A_ (ng_ hg Ao);have n26_:=A_ (nl_ hg Aw);have n27_:=A_ (ng_ hg Aw);have n28_:=A_ (nl_ hg Ax);have n29_:=A_ (ng_ hg Ax);have n30_:=A_ (nl_ hg Ay);have n31_:=A_ (ng_ hg Ay);clear Ac;clear Ad;clear Ae;clear Ab;clear Af;clear Ag;clear Ah;clear At;clear Au;clear Av;clear Ao;clear Aw;clear Ax;clear Ay;clear HB;have Ac:=n0_;have Ad:=n1_;have Ae:=n2_;have Ab:=n3_;have Af:=n4_;have Ag:=n5_;have Ah:=n6_;have At:=n7_;have Au:=n8_;have Av:=n9_;have Ao:=n10_;have Aw:=n11_;have Ax:=n12_;have Ay:=n13_;have HB:=n14_;have A8:=n15_;have Cp:=n16_;have Cq:=n17_;have Bj:=n18_;have Bq:=n19_;have Bk:=n20_;have Br:=n21_;have Bl:=n22_;have Bs:=n23_;have Bh:=n24_;have Bt:=n25_;have Bm:=n26_;have Bu:=n27_;have Bn:=n28_;have Bv:=n29_;have Bo:=n30_;have Bw:=n31_;clear n0_ n1_ n2_ n3_ n4_ n5_ n6_ n7_ n8_ n9_ n10_ n11_ n12_ n13_ n14_ n15_ n16_ n17_ n18_ n19_ n20_ n21_ n22_ n23_ n24_ n25_ n26_ n27_ n28_ n29_ n30_ n31_;clear hb hbox hg;refine hK.out _ _ ⟨blk_cell Ao.1 0,blk_cell Ao.1 1⟩ (fun hHeld=>?_)
   clear hK K;refine norm_ (a':=?_) ?_ ?_
   rotate_left
   ·show Act.put _ (some 23) _ = _
    simp only [Act.put,L_,M_,N_,i64_w,i32_w]
    rfl
   refine one_ (i:=2) (N:=some 164) #[T,T,T,T,T,F,F,T,F] rfl rfl (one_of HT_.1 (by kernel_rfl)) (by decide) (fun K hK=>?_)
   refine Kd.R_lit_step (Kd.int .i64) _ 3 ?hg (N:=164) ?hd (xs:=([] : List Int)) (inner:=[]) (ok:=fun _=>True) (okp:=fun _=>True) ?hr ?hp (fun _ hk=>hk) trivial (Below.refl _ _) (Nat.le_refl _) (by simp) ?_;(case hd=>rfl);(case hg=>rfl);(case hr=>go_simp;try rfl);(case hp=>exact (Reps.none _ _))
   intro Co Ml B8 hb hg_ hnew_
   clear hg_ hnew_;(first|rw [← Cw.1] at B8|(simp only [Int.reduceToNat] at B8;rw [← Cw.1] at B8))
   have n0_:=A_ (Kd.R_elder' (rl_ Ac) (Kd.R_base B8) hb);have n1_:=A_ (Kd.R_elder' (rl_ Ad) (Kd.R_base B8) hb);have n2_:=A_ (Kd.R_elder' (rl_ Ae) (Kd.R_base B8) hb);have n3_:=A_ (Kd.R_elder' (rl_ Ab) (Kd.R_base B8) hb);have n4_:=A_ (Kd.R_elder' (rl_ Af) (Kd.R_base B8) hb);have n5_:=A_ (Kd.R_elder' (rl_ Ag) (Kd.R_base B8) hb);have n6_:=A_ (Kd.R_elder' (rl_ Ah) (Kd.R_base B8) hb);have n7_:=A_ (Kd.R_lower (Kd.R_new' (Kd.R_new' (Kd.R_new' (Kd.R_new' (Kd.R_new' (Kd.R_new' (Kd.R_new' B8 (Kd.R_lt (rl_ Ac))) (Kd.R_lt (rl_ Ad))) (Kd.R_lt (rl_ Ae))) (Kd.R_lt (rl_ Ab))) (Kd.R_lt (rl_ Af))) (Kd.R_lt (rl_ Ag))) (Kd.R_lt (rl_ Ah))) (below_size bb_));have n8_:=bz At hb;have n9_:=bz Au hb;have n10_:=bz Av hb;have n11_:=bz Ao hb;have n12_:=bz Aw hb;have n13_:=bz Ax hb;have n14_:=bz Ay hb;have n15_:=bz A8 hb;have n16_:=A_ (below_step bb_ hb);clear Ac;clear Ad;clear Ae;clear Ab;clear Af;clear Ag;clear Ah;clear At;clear Au;clear Av;clear Ao;clear Aw;clear Ax;clear Ay;clear A8;clear HB;have Ac:=n0_;have Ad:=n1_;have Ae:=n2_;have Ab:=n3_;have Af:=n4_;have Ag:=n5_;have Ah:=n6_;have Bf:=n7_;have At:=n8_;have Au:=n9_;have Av:=n10_;have Ao:=n11_;have Aw:=n12_;have Ax:=n13_;have Ay:=n14_;have A8:=n15_;have HB:=n16_;clear n0_ n1_ n2_ n3_ n4_ n5_ n6_ n7_ n8_ n9_ n10_ n11_ n12_ n13_ n14_ n15_ n16_;clear hb B8;refine hK.out _ _ ⟨blk_cell Ao.1 0,blk_cell Ao.1 1⟩ (fun hHeld=>?_)
   clear hK K;refine norm_ (a':=?_) ?_ ?_
   rotate_left
   ·show Act.put _ (some 164) _ = _
    simp only [Act.put,L_,M_,N_,i64_w,i32_w]
    rfl
   refine one_ (i:=5) (N:=some 167) #[T,T,T,T,T,T,F,T,F] rfl rfl (one_of HT_.1 (by kernel_rfl)) (by decide) (fun K hK=>?_)
   refine Kd.R_append_rows_step (Kd.int .i64) (w0:=w) w.heap.size (by rfl) (.tmp 164) (.tmp 166) 24 3 (.int .i64 0) 8 rfl Tryd.underlying24 info3 rfl (by decide) (by omega) Co D0 Aa _ _ _ (fun k_=>some k_ ≠ (Ai : Value).ownBlock ∧ some k_ ≠ (Aj : Value).ownBlock ∧ some k_ ≠ (Ak : Value).ownBlock ∧ some k_ ≠ (.slice (some As) Aa.length Ar : Value).ownBlock ∧ some k_ ≠ (Al : Value).ownBlock ∧ some k_ ≠ (Am : Value).ownBlock ∧ some k_ ≠ (An : Value).ownBlock) (fun _=>False) rfl rfl ?aO ?aR (fun _ _ h=>h) (fun _ h=>h.elim) ?aF ?aB ?aS ?aL ?_
   (case aR=>exact cl_ (Kd.R_reads' Ab.1).2.2)
   (case aB=>exact bb_)
   (case aF=>exact (fun k_ hk=>⟨Kd.fresh' (Kd.R_lt (rl_ Ac)) k_ hk,Kd.fresh' (Kd.R_lt (rl_ Ad)) k_ hk,Kd.fresh' (Kd.R_lt (rl_ Ae)) k_ hk,Kd.fresh' (Kd.R_lt (rl_ Ab)) k_ hk,Kd.fresh' (Kd.R_lt (rl_ Af)) k_ hk,Kd.fresh' (Kd.R_lt (rl_ Ag)) k_ hk,Kd.fresh' (Kd.R_lt (rl_ Ah)) k_ hk⟩))
   (case aO=>exact (rq_ (Kd.R_mono Bf.1 (fun _ hk=>⟨hk.1.1.1.1.1.1.2,⟨hk.1.1.1.1.1.2,⟨hk.1.1.1.1.2,⟨hk.1.1.1.2,⟨hk.1.1.2,⟨hk.1.2,hk.2⟩⟩⟩⟩⟩⟩))))
   (case aS=>exact (below_size bb_))
   (case aL=>have:=Cz.1;omega)
   intro Cg F2 ho hb hg hat
   rw [← C1.1] at ho;have n0_:=A_ (Kd.R_after (ok:=(fun k_=>some k_ ≠ (Aj : Value).ownBlock ∧ some k_ ≠ (Ak : Value).ownBlock ∧ some k_ ≠ (.slice (some As) Aa.length Ar : Value).ownBlock ∧ some k_ ≠ (Al : Value).ownBlock ∧ some k_ ≠ (Am : Value).ownBlock ∧ some k_ ≠ (An : Value).ownBlock)) (rl_ Ac) hg hat);have n1_:=A_ (Kd.R_after (ok:=(fun k_=>some k_ ≠ (Ai : Value).ownBlock ∧ some k_ ≠ (Ak : Value).ownBlock ∧ some k_ ≠ (.slice (some As) Aa.length Ar : Value).ownBlock ∧ some k_ ≠ (Al : Value).ownBlock ∧ some k_ ≠ (Am : Value).ownBlock ∧ some k_ ≠ (An : Value).ownBlock)) (rl_ Ad) hg hat);have n2_:=A_ (Kd.R_after (ok:=(fun k_=>some k_ ≠ (Ai : Value).ownBlock ∧ some k_ ≠ (Aj : Value).ownBlock ∧ some k_ ≠ (.slice (some As) Aa.length Ar : Value).ownBlock ∧ some k_ ≠ (Al : Value).ownBlock ∧ some k_ ≠ (Am : Value).ownBlock ∧ some k_ ≠ (An : Value).ownBlock)) (rl_ Ae) hg hat);have n3_:=A_ (Kd.R_after (ok:=(fun k_=>some k_ ≠ (Ai : Value).ownBlock ∧ some k_ ≠ (Aj : Value).ownBlock ∧ some k_ ≠ (Ak : Value).ownBlock ∧ some k_ ≠ (Al : Value).ownBlock ∧ some k_ ≠ (Am : Value).ownBlock ∧ some k_ ≠ (An : Value).ownBlock)) (rl_ Ab) hg hat);have n4_:=A_ (Kd.R_after (ok:=(fun k_=>some k_ ≠ (Ai : Value).ownBlock ∧ some k_ ≠ (Aj : Value).ownBlock ∧ some k_ ≠ (Ak : Value).ownBlock ∧ some k_ ≠ (.slice (some As) Aa.length Ar : Value).ownBlock ∧ some k_ ≠ (Am : Value).ownBlock ∧ some k_ ≠ (An : Value).ownBlock)) (rl_ Af) hg hat);have n5_:=A_ (Kd.R_after (ok:=(fun k_=>some k_ ≠ (Ai : Value).ownBlock ∧ some k_ ≠ (Aj : Value).ownBlock ∧ some k_ ≠ (Ak : Value).ownBlock ∧ some k_ ≠ (.slice (some As) Aa.length Ar : Value).ownBlock ∧ some k_ ≠ (Al : Value).ownBlock ∧ some k_ ≠ (An : Value).ownBlock)) (rl_ Ag) hg hat);have n6_:=A_ (Kd.R_after (ok:=(fun k_=>some k_ ≠ (Ai : Value).ownBlock ∧ some k_ ≠ (Aj : Value).ownBlock ∧ some k_ ≠ (Ak : Value).ownBlock ∧ some k_ ≠ (.slice (some As) Aa.length Ar : Value).ownBlock ∧ some k_ ≠ (Al : Value).ownBlock ∧ some k_ ≠ (Am : Value).ownBlock)) (rl_ Ah) hg hat);have n7_:=A_ (blk_grown (g:=Bz) (o:=.cells #[.int .i64 Ch,Ai] 26 (0,0)) (bl_ At) hg (Kd.R_ne Bf.1 At.1 (by decide)));have n8_:=A_ (blk_grown (g:=B0) (o:=.cells #[.int .i64 Ci,Aj] 26 (0,0)) (bl_ Au) hg (Kd.R_ne Bf.1 Au.1 (by decide)));have n9_:=A_ (blk_grown (g:=B2) (o:=.cells #[.int .i64 Cj,Ak] 26 (0,0)) (bl_ Av) hg (Kd.R_ne Bf.1 Av.1 (by decide)));have n10_:=A_ (blk_grown (g:=Bp) (o:=.cells #[.int .i64 Bd,.slice (some As) Aa.length Ar] 26 (0,0)) (bl_ Ao) hg (Kd.R_ne Bf.1 Ao.1 (by decide)));have n11_:=A_ (blk_grown (g:=B4) (o:=.cells #[.int .i64 Ck,Al] 26 (0,0)) (bl_ Aw) hg (Kd.R_ne Bf.1 Aw.1 (by decide)));have n12_:=A_ (blk_grown (g:=B5) (o:=.cells #[.int .i64 Cl,Am] 26 (0,0)) (bl_ Ax) hg (Kd.R_ne Bf.1 Ax.1 (by decide)));have n13_:=A_ (blk_grown (g:=B6) (o:=.cells #[.int .i64 Cm,An] 26 (0,0)) (bl_ Ay) hg (Kd.R_ne Bf.1 Ay.1 (by decide)));have n14_:=A_ (blk_grown (g:=Ap) (o:=.cells #[.int .i64 0,.slice none 0 0] 26 (0,0)) (bl_ A8) hg (Kd.R_ne Bf.1 A8.1 (by decide)));have n15_:=A_ (hb);have n16_:=A_ (ho);clear Ac;clear Ad;clear Ae;clear Ab;clear Af;clear Ag;clear Ah;clear At;clear Au;clear Av;clear Ao;clear Aw;clear Ax;clear Ay;clear A8;clear HB;clear Bf;have Ac:=n0_;have Ad:=n1_;have Ae:=n2_;have Ab:=n3_;have Af:=n4_;have Ag:=n5_;have Ah:=n6_;have At:=n7_;have Au:=n8_;have Av:=n9_;have Ao:=n10_;have Aw:=n11_;have Ax:=n12_;have Ay:=n13_;have A8:=n14_;have HB:=n15_;have Bb:=n16_;clear n0_ n1_ n2_ n3_ n4_ n5_ n6_ n7_ n8_ n9_ n10_ n11_ n12_ n13_ n14_ n15_ n16_;clear ho hb hg hat;obtain ⟨C3,C4,Cu⟩:=Kd.R_slice Bb.1;(first|subst Cu|(injection Cu with f1_ f2_ f3_;have f4_:=f1_.symm;have f5_:=f3_.symm;clear f1_ f2_ f3_;subst f4_;subst f5_))
   refine hK.out _ _ ⟨blk_cell Ao.1 0,blk_cell Ao.1 1⟩ (fun hHeld=>?_)
   clear hK K;refine norm_ (a':=?_) ?_ ?_
   rotate_left
   ·show Act.put _ (some 167) _ = _
    simp only [Act.put,L_,M_,N_,i64_w,i32_w]
    rfl
   refine pu_ (i:=6) (N:=168) #[T,T,T,T,T,T,T,T,F] HT_.1 rfl rfl (fun _ _ _ h=>h) rfl (h:=?_)
   exact norm_ (by simp only [putAll,Act.put,L_,M_,N_]) (hCont (Co,.slice C3 Az.length C4,Ap) _ ⟨hHeld,(rl_ Bb),(rq_ (Kd.R_mono Ac.1 (fun _ hk=>⟨hk.2,⟨hk.1.1,⟨hk.1.2.1,⟨hk.1.2.2.1,⟨hk.1.2.2.2.1,⟨hk.1.2.2.2.2.1,hk.1.2.2.2.2.2⟩⟩⟩⟩⟩⟩))),(rq_ (Kd.R_mono Ad.1 (fun _ hk=>⟨hk.2,⟨hk.1.1,⟨hk.1.2.1,⟨hk.1.2.2.1,⟨hk.1.2.2.2.1,⟨hk.1.2.2.2.2.1,hk.1.2.2.2.2.2⟩⟩⟩⟩⟩⟩))),(rq_ (Kd.R_mono Ae.1 (fun _ hk=>⟨hk.2,⟨hk.1.1,⟨hk.1.2.1,⟨hk.1.2.2.1,⟨hk.1.2.2.2.1,⟨hk.1.2.2.2.2.1,hk.1.2.2.2.2.2⟩⟩⟩⟩⟩⟩))),(rq_ (Kd.R_mono Ab.1 (fun _ hk=>⟨hk.2,⟨hk.1.1,⟨hk.1.2.1,⟨hk.1.2.2.1,⟨hk.1.2.2.2.1,⟨hk.1.2.2.2.2.1,hk.1.2.2.2.2.2⟩⟩⟩⟩⟩⟩))),(rq_ (Kd.R_mono Af.1 (fun _ hk=>⟨hk.2,⟨hk.1.1,⟨hk.1.2.1,⟨hk.1.2.2.1,⟨hk.1.2.2.2.1,⟨hk.1.2.2.2.2.1,hk.1.2.2.2.2.2⟩⟩⟩⟩⟩⟩))),(rq_ (Kd.R_mono Ag.1 (fun _ hk=>⟨hk.2,⟨hk.1.1,⟨hk.1.2.1,⟨hk.1.2.2.1,⟨hk.1.2.2.2.1,⟨hk.1.2.2.2.2.1,hk.1.2.2.2.2.2⟩⟩⟩⟩⟩⟩))),(rq_ (Kd.R_mono Ah.1 (fun _ hk=>⟨hk.2,⟨hk.1.1,⟨hk.1.2.1,⟨hk.1.2.2.1,⟨hk.1.2.2.2.1,⟨hk.1.2.2.2.2.1,hk.1.2.2.2.2.2⟩⟩⟩⟩⟩⟩))),(bl_ At),(bl_ Au),(bl_ Av),(bl_ Ao),(bl_ Aw),(bl_ Ax),(bl_ Ay),(bl_ A8),Cp.1,Cq.1,Bj.1,Bq.1,Bk.1,Br.1,Bl.1,Bs.1,Bh.1,Bt.1,Bm.1,Bu.1,Bn.1,Bv.1,Bo.1,Bw.1,bb_⟩)
 rintro ⟨Co,Cg,Ap⟩ Bg ⟨hS_,h0_,h1_,h2_,h3_,h4_,h5_,h6_,h7_,h8_,h9_,h10_,h11_,h12_,h13_,h14_,h15_,h16_,h17_,h18_,h19_,h20_,h21_,h22_,h23_,h24_,h25_,h26_,h27_,h28_,h29_,h30_,h31_,h32_⟩
 have n0_ : Aside0 (Kd.R (Kd.int .i64) 3 Bg w.heap.size (fun k_=>some k_ ≠ (Ai : Value).ownBlock ∧ some k_ ≠ (Aj : Value).ownBlock ∧ some k_ ≠ (Ak : Value).ownBlock ∧ some k_ ≠ (.slice (some As) Aa.length Ar : Value).ownBlock ∧ some k_ ≠ (Al : Value).ownBlock ∧ some k_ ≠ (Am : Value).ownBlock ∧ some k_ ≠ (An : Value).ownBlock) Cg Az):=⟨h0_⟩;have n1_ : Aside0 (Kd.R (Kd.int .i64) 3 Bg w.heap.size (fun k_=>some k_ ≠ (Cg : Value).ownBlock ∧ some k_ ≠ (Aj : Value).ownBlock ∧ some k_ ≠ (Ak : Value).ownBlock ∧ some k_ ≠ (.slice (some As) Aa.length Ar : Value).ownBlock ∧ some k_ ≠ (Al : Value).ownBlock ∧ some k_ ≠ (Am : Value).ownBlock ∧ some k_ ≠ (An : Value).ownBlock) Ai Ca):=⟨h1_⟩;have n2_ : Aside0 (Kd.R (Kd.int .i64) 3 Bg w.heap.size (fun k_=>some k_ ≠ (Cg : Value).ownBlock ∧ some k_ ≠ (Ai : Value).ownBlock ∧ some k_ ≠ (Ak : Value).ownBlock ∧ some k_ ≠ (.slice (some As) Aa.length Ar : Value).ownBlock ∧ some k_ ≠ (Al : Value).ownBlock ∧ some k_ ≠ (Am : Value).ownBlock ∧ some k_ ≠ (An : Value).ownBlock) Aj Cb):=⟨h2_⟩;have n3_ : Aside0 (Kd.R (Kd.int .i64) 3 Bg w.heap.size (fun k_=>some k_ ≠ (Cg : Value).ownBlock ∧ some k_ ≠ (Ai : Value).ownBlock ∧ some k_ ≠ (Aj : Value).ownBlock ∧ some k_ ≠ (.slice (some As) Aa.length Ar : Value).ownBlock ∧ some k_ ≠ (Al : Value).ownBlock ∧ some k_ ≠ (Am : Value).ownBlock ∧ some k_ ≠ (An : Value).ownBlock) Ak Cc):=⟨h3_⟩;have n4_ : Aside0 (Kd.R (Kd.int .i64) 3 Bg w.heap.size (fun k_=>some k_ ≠ (Cg : Value).ownBlock ∧ some k_ ≠ (Ai : Value).ownBlock ∧ some k_ ≠ (Aj : Value).ownBlock ∧ some k_ ≠ (Ak : Value).ownBlock ∧ some k_ ≠ (Al : Value).ownBlock ∧ some k_ ≠ (Am : Value).ownBlock ∧ some k_ ≠ (An : Value).ownBlock) (.slice (some As) Aa.length Ar) Aa):=⟨h4_⟩;have n5_ : Aside0 (Kd.R (Kd.int .i64) 3 Bg w.heap.size (fun k_=>some k_ ≠ (Cg : Value).ownBlock ∧ some k_ ≠ (Ai : Value).ownBlock ∧ some k_ ≠ (Aj : Value).ownBlock ∧ some k_ ≠ (Ak : Value).ownBlock ∧ some k_ ≠ (.slice (some As) Aa.length Ar : Value).ownBlock ∧ some k_ ≠ (Am : Value).ownBlock ∧ some k_ ≠ (An : Value).ownBlock) Al Cd):=⟨h5_⟩;have n6_ : Aside0 (Kd.R (Kd.int .i64) 3 Bg w.heap.size (fun k_=>some k_ ≠ (Cg : Value).ownBlock ∧ some k_ ≠ (Ai : Value).ownBlock ∧ some k_ ≠ (Aj : Value).ownBlock ∧ some k_ ≠ (Ak : Value).ownBlock ∧ some k_ ≠ (.slice (some As) Aa.length Ar : Value).ownBlock ∧ some k_ ≠ (Al : Value).ownBlock ∧ some k_ ≠ (An : Value).ownBlock) Am Ce):=⟨h6_⟩;have n7_ : Aside0 (Kd.R (Kd.int .i64) 3 Bg w.heap.size (fun k_=>some k_ ≠ (Cg : Value).ownBlock ∧ some k_ ≠ (Ai : Value).ownBlock ∧ some k_ ≠ (Aj : Value).ownBlock ∧ some k_ ≠ (Ak : Value).ownBlock ∧ some k_ ≠ (.slice (some As) Aa.length Ar : Value).ownBlock ∧ some k_ ≠ (Al : Value).ownBlock ∧ some k_ ≠ (Am : Value).ownBlock) An Cf):=⟨h7_⟩;have n8_ : Aside0 (Bg.heap[Bz]? = some (.cells #[.int .i64 Ch,Ai] 26 (0,0))):=⟨h8_⟩;have n9_ : Aside0 (Bg.heap[B0]? = some (.cells #[.int .i64 Ci,Aj] 26 (0,0))):=⟨h9_⟩;have n10_ : Aside0 (Bg.heap[B2]? = some (.cells #[.int .i64 Cj,Ak] 26 (0,0))):=⟨h10_⟩;have n11_ : Aside0 (Bg.heap[Bp]? = some (.cells #[.int .i64 Bd,.slice (some As) Aa.length Ar] 26 (0,0))):=⟨h11_⟩;have n12_ : Aside0 (Bg.heap[B4]? = some (.cells #[.int .i64 Ck,Al] 26 (0,0))):=⟨h12_⟩;have n13_ : Aside0 (Bg.heap[B5]? = some (.cells #[.int .i64 Cl,Am] 26 (0,0))):=⟨h13_⟩;have n14_ : Aside0 (Bg.heap[B6]? = some (.cells #[.int .i64 Cm,An] 26 (0,0))):=⟨h14_⟩;have n15_ : Aside0 (Bg.heap[Ap]? = some (.cells #[.int .i64 0,.slice none 0 0] 26 (0,0))):=⟨h15_⟩;have n16_ : Aside0 (w.heap.size ≤ Ap):=⟨h16_⟩;have n17_ : Aside0 (w.heap.size ≤ Ap):=⟨h17_⟩;have n18_ : Aside0 (Bz ≠ Ap):=⟨h18_⟩;have n19_ : Aside0 (Ap ≠ Bz):=⟨h19_⟩;have n20_ : Aside0 (B0 ≠ Ap):=⟨h20_⟩;have n21_ : Aside0 (Ap ≠ B0):=⟨h21_⟩;have n22_ : Aside0 (B2 ≠ Ap):=⟨h22_⟩;have n23_ : Aside0 (Ap ≠ B2):=⟨h23_⟩;have n24_ : Aside0 (Bp ≠ Ap):=⟨h24_⟩;have n25_ : Aside0 (Ap ≠ Bp):=⟨h25_⟩;have n26_ : Aside0 (B4 ≠ Ap):=⟨h26_⟩;have n27_ : Aside0 (Ap ≠ B4):=⟨h27_⟩;have n28_ : Aside0 (B5 ≠ Ap):=⟨h28_⟩;have n29_ : Aside0 (Ap ≠ B5):=⟨h29_⟩;have n30_ : Aside0 (B6 ≠ Ap):=⟨h30_⟩;have n31_ : Aside0 (Ap ≠ B6):=⟨h31_⟩;have n32_ : Aside0 (Below w.heap.size w Bg):=⟨h32_⟩;clear Ac;clear Ad;clear Ae;clear Ab;clear Af;clear Ag;clear Ah;clear At;clear Au;clear Av;clear Ao;clear Aw;clear Ax;clear Ay;clear HB;clear h0_ h1_ h2_ h3_ h4_ h5_ h6_ h7_ h8_ h9_ h10_ h11_ h12_ h13_ h14_ h15_ h16_ h17_ h18_ h19_ h20_ h21_ h22_ h23_ h24_ h25_ h26_ h27_ h28_ h29_ h30_ h31_ h32_;have Bb:=n0_;have Ac:=n1_;have Ad:=n2_;have Ae:=n3_;have Ab:=n4_;have Af:=n5_;have Ag:=n6_;have Ah:=n7_;have At:=n8_;have Au:=n9_;have Av:=n10_;have Ao:=n11_;have Aw:=n12_;have Ax:=n13_;have Ay:=n14_;have A8:=n15_;have Cp:=n16_;have Cq:=n17_;have Bj:=n18_;have Bq:=n19_;have Bk:=n20_;have Br:=n21_;have Bl:=n22_;have Bs:=n23_;have Bh:=n24_;have Bt:=n25_;have Bm:=n26_;have Bu:=n27_;have Bn:=n28_;have Bv:=n29_;have Bo:=n30_;have Bw:=n31_;have HB:=n32_;clear n0_ n1_ n2_ n3_ n4_ n5_ n6_ n7_ n8_ n9_ n10_ n11_ n12_ n13_ n14_ n15_ n16_ n17_ n18_ n19_ n20_ n21_ n22_ n23_ n24_ n25_ n26_ n27_ n28_ n29_ n30_ n31_ n32_;have hHeld : Bg.cell? ⟨Bp,0,none⟩ = some (.int .i64 Bd) ∧ Bg.cell? ⟨Bp,1,none⟩ = some (.slice (some As) Aa.length Ar):=hS_;obtain ⟨Be,Ba,Ea⟩:=Kd.R_slice Bb.1;(first|subst Ea|(injection Ea with f1_ f2_ f3_;have f4_:=f1_.symm;have f5_:=f3_.symm;clear f1_ f2_ f3_;subst f4_;subst f5_))
 refine norm_ (a':=?_) ?_ ?_
 rotate_left;·simp only [putAll,Act.put,L_,M_,N_];rfl
 refine one_ (i:=8) (N:=none) #[T,T,T,T,T,T,T,T,T] rfl rfl (one_of HT_.1 (by kernel_rfl)) (by decide) (fun K hK=>?_)
 have Z : Bg.cell? ⟨Ap,0,none⟩ = some (.int .i64 0):=blk_cell A8.1 0;have Z:=blk_frozen A8.1 0;have Z:=Bj.1;have Z:=Bk.1;have Z:=Bl.1;have Z:=Bh.1;have Z:=Bm.1;have Z:=Bn.1;have Z:=Bo.1;have Z:=Bq.1;have Z:=Br.1;have Z:=Bs.1;have Z:=Bt.1;have Z:=Bu.1;have Z:=Bv.1;have Z:=Bw.1;have Z : Bg.cell? ⟨Ap,1,none⟩ = some (.slice none 0 0):=blk_cell A8.1 1;have Z:=blk_frozen A8.1 1;have Z:=Bj.1;have Z:=Bk.1;have Z:=Bl.1;have Z:=Bh.1;have Z:=Bm.1;have Z:=Bn.1;have Z:=Bo.1;have Z:=Bq.1;have Z:=Br.1;have Z:=Bs.1;have Z:=Bt.1;have Z:=Bu.1;have Z:=Bv.1;have Z:=Bw.1;refine skip_ (w1:=?_) (by rfl) rfl ?_ ?_
 rotate_left
 ·go_simp
  rfl
 refine hK.out _ _ ⟨((cell_far (p:=⟨Ap,_,none⟩) Bh.1 _).trans (((cell_far (p:=⟨Ap,_,none⟩) Bh.1 _).trans (hHeld.1)))),((cell_far (p:=⟨Ap,_,none⟩) Bh.1 _).trans (((cell_far (p:=⟨Ap,_,none⟩) Bh.1 _).trans (hHeld.2))))⟩ (fun hHeld=>?_)
 clear hK K;refine done_ (done_of HT_.1 (by kernel_rfl)) ?_
 try go_wp2
 have n0_ : Aside0 (Kd.R (Kd.int .i64) 3 ((Bg.setCell ⟨Ap,0,none⟩ (.int .i64 Bd)).setCell ⟨Ap,1,none⟩ (.slice Be Az.length Ba)) w.heap.size (fun k_=>some k_ ≠ (Aj : Value).ownBlock ∧ some k_ ≠ (Ak : Value).ownBlock ∧ some k_ ≠ (.slice (some As) Aa.length Ar : Value).ownBlock ∧ some k_ ≠ (Al : Value).ownBlock ∧ some k_ ≠ (Am : Value).ownBlock ∧ some k_ ≠ (An : Value).ownBlock ∧ some k_ ≠ (.slice Be Az.length Ba : Value).ownBlock) Ai Ca):=⟨rq_ (Kd.R_mono (Kd.R_far (p:=⟨Ap,1,none⟩) (Kd.R_far (p:=⟨Ap,0,none⟩) (Kd.R_types Ac.1 A8.1 (by decide)) (fun _ hk=>hk.2) (.int .i64 Bd)) (fun _ hk=>hk.2) (.slice Be Az.length Ba)) (fun _ hk=>⟨hk.1.2.1,⟨hk.1.2.2.1,⟨hk.1.2.2.2.1,⟨hk.1.2.2.2.2.1,⟨hk.1.2.2.2.2.2.1,⟨hk.1.2.2.2.2.2.2,hk.1.1⟩⟩⟩⟩⟩⟩))⟩;have n1_ : Aside0 (Kd.R (Kd.int .i64) 3 ((Bg.setCell ⟨Ap,0,none⟩ (.int .i64 Bd)).setCell ⟨Ap,1,none⟩ (.slice Be Az.length Ba)) w.heap.size (fun k_=>some k_ ≠ (Ai : Value).ownBlock ∧ some k_ ≠ (Ak : Value).ownBlock ∧ some k_ ≠ (.slice (some As) Aa.length Ar : Value).ownBlock ∧ some k_ ≠ (Al : Value).ownBlock ∧ some k_ ≠ (Am : Value).ownBlock ∧ some k_ ≠ (An : Value).ownBlock ∧ some k_ ≠ (.slice Be Az.length Ba : Value).ownBlock) Aj Cb):=⟨rq_ (Kd.R_mono (Kd.R_far (p:=⟨Ap,1,none⟩) (Kd.R_far (p:=⟨Ap,0,none⟩) (Kd.R_types Ad.1 A8.1 (by decide)) (fun _ hk=>hk.2) (.int .i64 Bd)) (fun _ hk=>hk.2) (.slice Be Az.length Ba)) (fun _ hk=>⟨hk.1.2.1,⟨hk.1.2.2.1,⟨hk.1.2.2.2.1,⟨hk.1.2.2.2.2.1,⟨hk.1.2.2.2.2.2.1,⟨hk.1.2.2.2.2.2.2,hk.1.1⟩⟩⟩⟩⟩⟩))⟩;have n2_ : Aside0 (Kd.R (Kd.int .i64) 3 ((Bg.setCell ⟨Ap,0,none⟩ (.int .i64 Bd)).setCell ⟨Ap,1,none⟩ (.slice Be Az.length Ba)) w.heap.size (fun k_=>some k_ ≠ (Ai : Value).ownBlock ∧ some k_ ≠ (Aj : Value).ownBlock ∧ some k_ ≠ (.slice (some As) Aa.length Ar : Value).ownBlock ∧ some k_ ≠ (Al : Value).ownBlock ∧ some k_ ≠ (Am : Value).ownBlock ∧ some k_ ≠ (An : Value).ownBlock ∧ some k_ ≠ (.slice Be Az.length Ba : Value).ownBlock) Ak Cc):=⟨rq_ (Kd.R_mono (Kd.R_far (p:=⟨Ap,1,none⟩) (Kd.R_far (p:=⟨Ap,0,none⟩) (Kd.R_types Ae.1 A8.1 (by decide)) (fun _ hk=>hk.2) (.int .i64 Bd)) (fun _ hk=>hk.2) (.slice Be Az.length Ba)) (fun _ hk=>⟨hk.1.2.1,⟨hk.1.2.2.1,⟨hk.1.2.2.2.1,⟨hk.1.2.2.2.2.1,⟨hk.1.2.2.2.2.2.1,⟨hk.1.2.2.2.2.2.2,hk.1.1⟩⟩⟩⟩⟩⟩))⟩;have n3_ : Aside0 (Kd.R (Kd.int .i64) 3 ((Bg.setCell ⟨Ap,0,none⟩ (.int .i64 Bd)).setCell ⟨Ap,1,none⟩ (.slice Be Az.length Ba)) w.heap.size (fun k_=>some k_ ≠ (Ai : Value).ownBlock ∧ some k_ ≠ (Aj : Value).ownBlock ∧ some k_ ≠ (Ak : Value).ownBlock ∧ some k_ ≠ (Al : Value).ownBlock ∧ some k_ ≠ (Am : Value).ownBlock ∧ some k_ ≠ (An : Value).ownBlock ∧ some k_ ≠ (.slice Be Az.length Ba : Value).ownBlock) (.slice (some As) Aa.length Ar) Aa):=⟨rq_ (Kd.R_mono (Kd.R_far (p:=⟨Ap,1,none⟩) (Kd.R_far (p:=⟨Ap,0,none⟩) (Kd.R_types Ab.1 A8.1 (by decide)) (fun _ hk=>hk.2) (.int .i64 Bd)) (fun _ hk=>hk.2) (.slice Be Az.length Ba)) (fun _ hk=>⟨hk.1.2.1,⟨hk.1.2.2.1,⟨hk.1.2.2.2.1,⟨hk.1.2.2.2.2.1,⟨hk.1.2.2.2.2.2.1,⟨hk.1.2.2.2.2.2.2,hk.1.1⟩⟩⟩⟩⟩⟩))⟩;have n4_ : Aside0 (Kd.R (Kd.int .i64) 3 ((Bg.setCell ⟨Ap,0,none⟩ (.int .i64 Bd)).setCell ⟨Ap,1,none⟩ (.slice Be Az.length Ba)) w.heap.size (fun k_=>some k_ ≠ (Ai : Value).ownBlock ∧ some k_ ≠ (Aj : Value).ownBlock ∧ some k_ ≠ (Ak : Value).ownBlock ∧ some k_ ≠ (.slice (some As) Aa.length Ar : Value).ownBlock ∧ some k_ ≠ (Am : Value).ownBlock ∧ some k_ ≠ (An : Value).ownBlock ∧ some k_ ≠ (.slice Be Az.length Ba : Value).ownBlock) Al Cd):=⟨rq_ (Kd.R_mono (Kd.R_far (p:=⟨Ap,1,none⟩) (Kd.R_far (p:=⟨Ap,0,none⟩) (Kd.R_types Af.1 A8.1 (by decide)) (fun _ hk=>hk.2) (.int .i64 Bd)) (fun _ hk=>hk.2) (.slice Be Az.length Ba)) (fun _ hk=>⟨hk.1.2.1,⟨hk.1.2.2.1,⟨hk.1.2.2.2.1,⟨hk.1.2.2.2.2.1,⟨hk.1.2.2.2.2.2.1,⟨hk.1.2.2.2.2.2.2,hk.1.1⟩⟩⟩⟩⟩⟩))⟩;have n5_ : Aside0 (Kd.R (Kd.int .i64) 3 ((Bg.setCell ⟨Ap,0,none⟩ (.int .i64 Bd)).setCell ⟨Ap,1,none⟩ (.slice Be Az.length Ba)) w.heap.size (fun k_=>some k_ ≠ (Ai : Value).ownBlock ∧ some k_ ≠ (Aj : Value).ownBlock ∧ some k_ ≠ (Ak : Value).ownBlock ∧ some k_ ≠ (.slice (some As) Aa.length Ar : Value).ownBlock ∧ some k_ ≠ (Al : Value).ownBlock ∧ some k_ ≠ (An : Value).ownBlock ∧ some k_ ≠ (.slice Be Az.length Ba : Value).ownBlock) Am Ce):=⟨rq_ (Kd.R_mono (Kd.R_far (p:=⟨Ap,1,none⟩) (Kd.R_far (p:=⟨Ap,0,none⟩) (Kd.R_types Ag.1 A8.1 (by decide)) (fun _ hk=>hk.2) (.int .i64 Bd)) (fun _ hk=>hk.2) (.slice Be Az.length Ba)) (fun _ hk=>⟨hk.1.2.1,⟨hk.1.2.2.1,⟨hk.1.2.2.2.1,⟨hk.1.2.2.2.2.1,⟨hk.1.2.2.2.2.2.1,⟨hk.1.2.2.2.2.2.2,hk.1.1⟩⟩⟩⟩⟩⟩))⟩;have n6_ : Aside0 (Kd.R (Kd.int .i64) 3 ((Bg.setCell ⟨Ap,0,none⟩ (.int .i64 Bd)).setCell ⟨Ap,1,none⟩ (.slice Be Az.length Ba)) w.heap.size (fun k_=>some k_ ≠ (Ai : Value).ownBlock ∧ some k_ ≠ (Aj : Value).ownBlock ∧ some k_ ≠ (Ak : Value).ownBlock ∧ some k_ ≠ (.slice (some As) Aa.length Ar : Value).ownBlock ∧ some k_ ≠ (Al : Value).ownBlock ∧ some k_ ≠ (Am : Value).ownBlock ∧ some k_ ≠ (.slice Be Az.length Ba : Value).ownBlock) An Cf):=⟨rq_ (Kd.R_mono (Kd.R_far (p:=⟨Ap,1,none⟩) (Kd.R_far (p:=⟨Ap,0,none⟩) (Kd.R_types Ah.1 A8.1 (by decide)) (fun _ hk=>hk.2) (.int .i64 Bd)) (fun _ hk=>hk.2) (.slice Be Az.length Ba)) (fun _ hk=>⟨hk.1.2.1,⟨hk.1.2.2.1,⟨hk.1.2.2.2.1,⟨hk.1.2.2.2.2.1,⟨hk.1.2.2.2.2.2.1,⟨hk.1.2.2.2.2.2.2,hk.1.1⟩⟩⟩⟩⟩⟩))⟩;have n7_ : Aside0 (Kd.R (Kd.int .i64) 3 ((Bg.setCell ⟨Ap,0,none⟩ (.int .i64 Bd)).setCell ⟨Ap,1,none⟩ (.slice Be Az.length Ba)) w.heap.size (fun k_=>some k_ ≠ (Ai : Value).ownBlock ∧ some k_ ≠ (Aj : Value).ownBlock ∧ some k_ ≠ (Ak : Value).ownBlock ∧ some k_ ≠ (.slice (some As) Aa.length Ar : Value).ownBlock ∧ some k_ ≠ (Al : Value).ownBlock ∧ some k_ ≠ (Am : Value).ownBlock ∧ some k_ ≠ (An : Value).ownBlock) (.slice Be Az.length Ba) Az):=⟨rq_ (Kd.R_mono (Kd.R_far (p:=⟨Ap,1,none⟩) (Kd.R_far (p:=⟨Ap,0,none⟩) (Kd.R_types Bb.1 A8.1 (by decide)) (fun _ hk=>hk.2) (.int .i64 Bd)) (fun _ hk=>hk.2) (.slice Be Az.length Ba)) (fun _ hk=>⟨hk.1.1,⟨hk.1.2.1,⟨hk.1.2.2.1,⟨hk.1.2.2.2.1,⟨hk.1.2.2.2.2.1,⟨hk.1.2.2.2.2.2.1,hk.1.2.2.2.2.2.2⟩⟩⟩⟩⟩⟩))⟩;have n8_ : Aside0 (((Bg.setCell ⟨Ap,0,none⟩ (.int .i64 Bd)).setCell ⟨Ap,1,none⟩ (.slice Be Az.length Ba)).heap[Bz]? = some (.cells #[.int .i64 Ch,Ai] 26 (0,0))):=⟨by (with_reducible repeat (first|refine blk_drewN ?_ _|refine blk_drew ?_|refine blk_alloc ?_ _));refine blk_far ?_ Bj.1 _;(with_reducible repeat (first|refine blk_drewN ?_ _|refine blk_drew ?_|refine blk_alloc ?_ _));refine blk_far ?_ Bj.1 _;(with_reducible repeat (first|refine blk_drewN ?_ _|refine blk_drew ?_|refine blk_alloc ?_ _));exact At.1⟩;have n9_ : Aside0 (((Bg.setCell ⟨Ap,0,none⟩ (.int .i64 Bd)).setCell ⟨Ap,1,none⟩ (.slice Be Az.length Ba)).heap[B0]? = some (.cells #[.int .i64 Ci,Aj] 26 (0,0))):=⟨by (with_reducible repeat (first|refine blk_drewN ?_ _|refine blk_drew ?_|refine blk_alloc ?_ _));refine blk_far ?_ Bk.1 _;(with_reducible repeat (first|refine blk_drewN ?_ _|refine blk_drew ?_|refine blk_alloc ?_ _));refine blk_far ?_ Bk.1 _;(with_reducible repeat (first|refine blk_drewN ?_ _|refine blk_drew ?_|refine blk_alloc ?_ _));exact Au.1⟩;have n10_ : Aside0 (((Bg.setCell ⟨Ap,0,none⟩ (.int .i64 Bd)).setCell ⟨Ap,1,none⟩ (.slice Be Az.length Ba)).heap[B2]? = some (.cells #[.int .i64 Cj,Ak] 26 (0,0))):=⟨by (with_reducible repeat (first|refine blk_drewN ?_ _|refine blk_drew ?_|refine blk_alloc ?_ _));refine blk_far ?_ Bl.1 _;(with_reducible repeat (first|refine blk_drewN ?_ _|refine blk_drew ?_|refine blk_alloc ?_ _));refine blk_far ?_ Bl.1 _;(with_reducible repeat (first|refine blk_drewN ?_ _|refine blk_drew ?_|refine blk_alloc ?_ _));exact Av.1⟩;have n11_ : Aside0 (((Bg.setCell ⟨Ap,0,none⟩ (.int .i64 Bd)).setCell ⟨Ap,1,none⟩ (.slice Be Az.length Ba)).heap[Bp]? = some (.cells #[.int .i64 Bd,.slice (some As) Aa.length Ar] 26 (0,0))):=⟨by (with_reducible repeat (first|refine blk_drewN ?_ _|refine blk_drew ?_|refine blk_alloc ?_ _));refine blk_far ?_ Bh.1 _;(with_reducible repeat (first|refine blk_drewN ?_ _|refine blk_drew ?_|refine blk_alloc ?_ _));refine blk_far ?_ Bh.1 _;(with_reducible repeat (first|refine blk_drewN ?_ _|refine blk_drew ?_|refine blk_alloc ?_ _));exact Ao.1⟩;have n12_ : Aside0 (((Bg.setCell ⟨Ap,0,none⟩ (.int .i64 Bd)).setCell ⟨Ap,1,none⟩ (.slice Be Az.length Ba)).heap[B4]? = some (.cells #[.int .i64 Ck,Al] 26 (0,0))):=⟨by (with_reducible repeat (first|refine blk_drewN ?_ _|refine blk_drew ?_|refine blk_alloc ?_ _));refine blk_far ?_ Bm.1 _;(with_reducible repeat (first|refine blk_drewN ?_ _|refine blk_drew ?_|refine blk_alloc ?_ _));refine blk_far ?_ Bm.1 _;(with_reducible repeat (first|refine blk_drewN ?_ _|refine blk_drew ?_|refine blk_alloc ?_ _));exact Aw.1⟩;have n13_ : Aside0 (((Bg.setCell ⟨Ap,0,none⟩ (.int .i64 Bd)).setCell ⟨Ap,1,none⟩ (.slice Be Az.length Ba)).heap[B5]? = some (.cells #[.int .i64 Cl,Am] 26 (0,0))):=⟨by (with_reducible repeat (first|refine blk_drewN ?_ _|refine blk_drew ?_|refine blk_alloc ?_ _));refine blk_far ?_ Bn.1 _;(with_reducible repeat (first|refine blk_drewN ?_ _|refine blk_drew ?_|refine blk_alloc ?_ _));refine blk_far ?_ Bn.1 _;(with_reducible repeat (first|refine blk_drewN ?_ _|refine blk_drew ?_|refine blk_alloc ?_ _));exact Ax.1⟩;have n14_ : Aside0 (((Bg.setCell ⟨Ap,0,none⟩ (.int .i64 Bd)).setCell ⟨Ap,1,none⟩ (.slice Be Az.length Ba)).heap[B6]? = some (.cells #[.int .i64 Cm,An] 26 (0,0))):=⟨by (with_reducible repeat (first|refine blk_drewN ?_ _|refine blk_drew ?_|refine blk_alloc ?_ _));refine blk_far ?_ Bo.1 _;(with_reducible repeat (first|refine blk_drewN ?_ _|refine blk_drew ?_|refine blk_alloc ?_ _));refine blk_far ?_ Bo.1 _;(with_reducible repeat (first|refine blk_drewN ?_ _|refine blk_drew ?_|refine blk_alloc ?_ _));exact Ay.1⟩;have n15_ : Aside0 (((Bg.setCell ⟨Ap,0,none⟩ (.int .i64 Bd)).setCell ⟨Ap,1,none⟩ (.slice Be Az.length Ba)).heap[Ap]? = some (.cells #[.int .i64 Bd,.slice Be Az.length Ba] 26 (0,0))):=⟨by (with_reducible repeat (first|refine blk_drewN ?_ _|refine blk_drew ?_|refine blk_alloc ?_ _));refine blk_put (cs:=#[.int .i64 Bd,.slice none 0 0]) ?_ 1 _ rfl;(with_reducible repeat (first|refine blk_drewN ?_ _|refine blk_drew ?_|refine blk_alloc ?_ _));refine blk_put (cs:=#[.int .i64 0,.slice none 0 0]) ?_ 0 _ rfl;(with_reducible repeat (first|refine blk_drewN ?_ _|refine blk_drew ?_|refine blk_alloc ?_ _));exact A8.1⟩;have n16_ : Aside0 (Below w.heap.size w ((Bg.setCell ⟨Ap,0,none⟩ (.int .i64 Bd)).setCell ⟨Ap,1,none⟩ (.slice Be Az.length Ba))):=⟨bb_⟩;(try clear Ac);(try clear Ad);(try clear Ae);(try clear Ab);(try clear Af);(try clear Ag);(try clear Ah);(try clear Bb);(try clear At);(try clear Au);(try clear Av);(try clear Ao);(try clear Aw);(try clear Ax);(try clear Ay);(try clear A8);(try clear HB);generalize ((Bg.setCell ⟨Ap,0,none⟩ (.int .i64 Bd)).setCell ⟨Ap,1,none⟩ (.slice Be Az.length Ba)) = F3 at n0_ n1_ n2_ n3_ n4_ n5_ n6_ n7_ n8_ n9_ n10_ n11_ n12_ n13_ n14_ n15_ n16_ ⊢
 have Ac:=n0_;have Ad:=n1_;have Ae:=n2_;have Ab:=n3_;have Af:=n4_;have Ag:=n5_;have Ah:=n6_;have Bb:=n7_;have At:=n8_;have Au:=n9_;have Av:=n10_;have Ao:=n11_;have Aw:=n12_;have Ax:=n13_;have Ay:=n14_;have A8:=n15_;have HB:=n16_;clear n0_ n1_ n2_ n3_ n4_ n5_ n6_ n7_ n8_ n9_ n10_ n11_ n12_ n13_ n14_ n15_ n16_;have n0_:=A_ (Kd.R_drew Ac.1);have n1_:=A_ (Kd.R_drew Ad.1);have n2_:=A_ (Kd.R_drew Ae.1);have n3_:=A_ (Kd.R_drew Ab.1);have n4_:=A_ (Kd.R_drew Af.1);have n5_:=A_ (Kd.R_drew Ag.1);have n6_:=A_ (Kd.R_drew Ah.1);have n7_:=A_ (Kd.R_drew Bb.1);have n8_:=A_ (blk_drew At.1);have n9_:=A_ (blk_drew Au.1);have n10_:=A_ (blk_drew Av.1);have n11_:=A_ (blk_drew Ao.1);have n12_:=A_ (blk_drew Aw.1);have n13_:=A_ (blk_drew Ax.1);have n14_:=A_ (blk_drew Ay.1);have n15_:=A_ (blk_drew A8.1);have n16_:=A_ (below_drew1 HB.1);clear Ac;clear Ad;clear Ae;clear Ab;clear Af;clear Ag;clear Ah;clear Bb;clear At;clear Au;clear Av;clear Ao;clear Aw;clear Ax;clear Ay;clear A8;clear HB;have Ac:=n0_;have Ad:=n1_;have Ae:=n2_;have Ab:=n3_;have Af:=n4_;have Ag:=n5_;have Ah:=n6_;have Bb:=n7_;have At:=n8_;have Au:=n9_;have Av:=n10_;have Ao:=n11_;have Aw:=n12_;have Ax:=n13_;have Ay:=n14_;have A8:=n15_;have HB:=n16_;clear n0_ n1_ n2_ n3_ n4_ n5_ n6_ n7_ n8_ n9_ n10_ n11_ n12_ n13_ n14_ n15_ n16_;have D3 : 0 ≤ (Aq : Int):=of_decide_eq_true (by first|(with_reducible assumption)|assumption);have D4 : Aq < (Az.length : Int):=of_decide_eq_true (by first|(with_reducible assumption)|assumption);obtain ⟨Ja,F4,Cv⟩:=Kd.at_int (Kd.R_reads' Bb.1).2.2 Aq D3 D4;cases F4
 replace D3:=eq_true D3;replace D4:=eq_true D4;have D5 : 0 ≤ (Aq : Int):=of_decide_eq_true (by first|(with_reducible assumption)|assumption);have D6 : (Aq : Int) < ((Az.length : Int) : Int):=of_decide_eq_true (by first|(with_reducible assumption)|assumption);obtain ⟨Bc,Jb,Eb,Ec,En,Jc,Ed⟩:=Kd.R_form Bb.1 (by omega);(first|cases Eb|(injection Eb with ea_ en_ ec_;(first|subst ea_|(injection ea_ with ea_;subst ea_));subst ec_;clear en_))
 have Eo:=A_ Ec;have Ep:=A_ Ed;clear Ec En Ed;(first|simp only [add_plain] at Cv|skip)
 obtain ⟨Ef,Eg⟩:=Kd.R_celln 0 Bb.1 (Aq : Int) D5 D6;replace D5:=eq_true D5;replace D6:=eq_true D6;have C5:=Kd.R_putn Bb.1 (Aq : Int) (wrap64 ((rd Az Aq) - (Bi)));rw [← Ej.1] at C5;have Ee:=A_ C5;clear C5;refine start_ (n:=10) (S:=fun w'=>w'.cell? ⟨Ap,0,none⟩ = some (.int .i64 Bd) ∧ w'.cell? ⟨Ap,1,none⟩ = some (.slice (some ⟨Bc,0,none⟩) Az.length Ba) ∧ w'.cell? ⟨Bc,(Aq).toNat,none⟩ = some (.int .i64 (rd Az Aq))) (ds:=[9]) #[F,F,F,F,F,F,F,F,F,F] (by kernel_rfl) rfl rfl ⟨blk_cell A8.1 0,blk_cell A8.1 1,Cv⟩ (fun hHeld=>?_);refine with_tabW Aab.tab40 Aab.bits40 (fun HT_ HW_=>?_)
 generalize F3.drew = Bx at Ac Ad Ae Ab Af Ag Ah Bb At Au Av Ao Aw Ax Ay A8 HB Ep Ee Eg Ef Cv hHeld ⊢
 refine pu_ (i:=0) (N:=169) #[T,F,F,F,F,F,F,F,F,F] HT_.1 rfl rfl (fun _ _ _ h=>h) rfl (h:=?_)
 refine pu_ (i:=2) (N:=171) #[T,F,T,F,F,F,F,F,F,F] HT_.1 rfl rfl (fun _ _ _ h=>h) rfl (h:=?_)
 refine pu_ (i:=5) (N:=174) #[T,F,T,F,F,T,F,F,F,F] HT_.1 rfl rfl (fun _ _ _ h=>h) rfl (h:=?_)
 refine pu_ (i:=6) (N:=175) #[T,F,T,F,F,T,T,F,F,F] HT_.1 rfl rfl (fun _ _ _ h=>h) rfl (h:=?_)
 refine take_ (i:=1) (N:=some 170) (v:=?_) (a':=?_) #[T,T,T,F,F,T,T,F,F,F] rfl rfl (take_ofW HT_.1 HW_.1 (by kernel_rfl)) (fun _ _ _ h=>h) (Or.inl ⟨by rfl,?_⟩) hHeld ?_ ?_
 rotate_left
 ·rintro w' ⟨s0,s1,s2⟩
  go_simp
  with_reducible rfl
 rotate_left;·simp only [Act.put,L_,M_,N_,i64_w,i32_w];rfl
 refine pu_ (i:=3) (N:=172) #[T,T,T,T,F,T,T,F,F,F] HT_.1 rfl rfl (fun _ _ _ h=>h) rfl (h:=?_)
 refine take_ (i:=4) (N:=some 173) (v:=?_) (a':=?_) #[T,T,T,T,T,T,T,F,F,F] rfl rfl (take_ofW HT_.1 HW_.1 (by kernel_rfl)) (fun _ _ _ h=>h) (Or.inl ⟨by rfl,?_⟩) hHeld ?_ ?_
 rotate_left
 ·rintro w' ⟨s0,s1,s2⟩
  go_simp
  with_reducible rfl
 rotate_left;·simp only [Act.put,L_,M_,N_,i64_w,i32_w];rfl
 refine pu_ (i:=7) (N:=176) #[T,T,T,T,T,T,T,T,F,F] HT_.1 rfl rfl (fun _ _ _ h=>h) rfl (h:=?_)
 refine pu_ (i:=8) (N:=177) #[T,T,T,T,T,T,T,T,T,F] HT_.1 rfl rfl (fun _ _ _ h=>h) rfl (h:=?_)
 refine last_ (i:=9) (N:=none) #[T,T,T,T,T,T,T,T,T,T] rfl rfl (one_of HT_.1 (by kernel_rfl)) (by decide) (fun K hK=>?_)
 refine skip_ (w1:=?_) (by rfl) rfl ?_ ?_
 rotate_left
 ·go_simp
  rfl
 refine hK.out _ _ ?_
 clear hK K;refine done_ (done_of HT_.1 (by kernel_rfl)) ?_
 have n0_ : Aside0 (Kd.R (Kd.int .i64) 3 (Bx.setCell ⟨Bc,(Aq : Int).toNat,none⟩ (.int .i64 (wrap64 ((rd Az Aq) - (Bi))))) w.heap.size (fun k_=>some k_ ≠ (Aj : Value).ownBlock ∧ some k_ ≠ (Ak : Value).ownBlock ∧ some k_ ≠ (.slice (some As) Aa.length Ar : Value).ownBlock ∧ some k_ ≠ (Al : Value).ownBlock ∧ some k_ ≠ (Am : Value).ownBlock ∧ some k_ ≠ (An : Value).ownBlock ∧ some k_ ≠ (.slice (some ⟨Bc,0,none⟩) Az.length Ba : Value).ownBlock) Ai Ca):=⟨rq_ (Kd.R_mono (Kd.R_far (p:=⟨Bc,(Aq : Int).toNat,none⟩) (Kd.R_mono Ac.1 (fun k_ hk=>(⟨hk,fun e_=>hk.2.2.2.2.2.2 (by rw [e_];rfl)⟩ : _ ∧ k_ ≠ Bc))) (fun _ hk=>hk.2) (.int .i64 (wrap64 ((rd Az Aq) - (Bi))))) (fun _ hk=>⟨hk.1.1,⟨hk.1.2.1,⟨hk.1.2.2.1,⟨hk.1.2.2.2.1,⟨hk.1.2.2.2.2.1,⟨hk.1.2.2.2.2.2.1,hk.1.2.2.2.2.2.2⟩⟩⟩⟩⟩⟩))⟩;have n1_ : Aside0 (Kd.R (Kd.int .i64) 3 (Bx.setCell ⟨Bc,(Aq : Int).toNat,none⟩ (.int .i64 (wrap64 ((rd Az Aq) - (Bi))))) w.heap.size (fun k_=>some k_ ≠ (Ai : Value).ownBlock ∧ some k_ ≠ (Ak : Value).ownBlock ∧ some k_ ≠ (.slice (some As) Aa.length Ar : Value).ownBlock ∧ some k_ ≠ (Al : Value).ownBlock ∧ some k_ ≠ (Am : Value).ownBlock ∧ some k_ ≠ (An : Value).ownBlock ∧ some k_ ≠ (.slice (some ⟨Bc,0,none⟩) Az.length Ba : Value).ownBlock) Aj Cb):=⟨rq_ (Kd.R_mono (Kd.R_far (p:=⟨Bc,(Aq : Int).toNat,none⟩) (Kd.R_mono Ad.1 (fun k_ hk=>(⟨hk,fun e_=>hk.2.2.2.2.2.2 (by rw [e_];rfl)⟩ : _ ∧ k_ ≠ Bc))) (fun _ hk=>hk.2) (.int .i64 (wrap64 ((rd Az Aq) - (Bi))))) (fun _ hk=>⟨hk.1.1,⟨hk.1.2.1,⟨hk.1.2.2.1,⟨hk.1.2.2.2.1,⟨hk.1.2.2.2.2.1,⟨hk.1.2.2.2.2.2.1,hk.1.2.2.2.2.2.2⟩⟩⟩⟩⟩⟩))⟩;have n2_ : Aside0 (Kd.R (Kd.int .i64) 3 (Bx.setCell ⟨Bc,(Aq : Int).toNat,none⟩ (.int .i64 (wrap64 ((rd Az Aq) - (Bi))))) w.heap.size (fun k_=>some k_ ≠ (Ai : Value).ownBlock ∧ some k_ ≠ (Aj : Value).ownBlock ∧ some k_ ≠ (.slice (some As) Aa.length Ar : Value).ownBlock ∧ some k_ ≠ (Al : Value).ownBlock ∧ some k_ ≠ (Am : Value).ownBlock ∧ some k_ ≠ (An : Value).ownBlock ∧ some k_ ≠ (.slice (some ⟨Bc,0,none⟩) Az.length Ba : Value).ownBlock) Ak Cc):=⟨rq_ (Kd.R_mono (Kd.R_far (p:=⟨Bc,(Aq : Int).toNat,none⟩) (Kd.R_mono Ae.1 (fun k_ hk=>(⟨hk,fun e_=>hk.2.2.2.2.2.2 (by rw [e_];rfl)⟩ : _ ∧ k_ ≠ Bc))) (fun _ hk=>hk.2) (.int .i64 (wrap64 ((rd Az Aq) - (Bi))))) (fun _ hk=>⟨hk.1.1,⟨hk.1.2.1,⟨hk.1.2.2.1,⟨hk.1.2.2.2.1,⟨hk.1.2.2.2.2.1,⟨hk.1.2.2.2.2.2.1,hk.1.2.2.2.2.2.2⟩⟩⟩⟩⟩⟩))⟩;have n3_ : Aside0 (Kd.R (Kd.int .i64) 3 (Bx.setCell ⟨Bc,(Aq : Int).toNat,none⟩ (.int .i64 (wrap64 ((rd Az Aq) - (Bi))))) w.heap.size (fun k_=>some k_ ≠ (Ai : Value).ownBlock ∧ some k_ ≠ (Aj : Value).ownBlock ∧ some k_ ≠ (Ak : Value).ownBlock ∧ some k_ ≠ (Al : Value).ownBlock ∧ some k_ ≠ (Am : Value).ownBlock ∧ some k_ ≠ (An : Value).ownBlock ∧ some k_ ≠ (.slice (some ⟨Bc,0,none⟩) Az.length Ba : Value).ownBlock) (.slice (some As) Aa.length Ar) Aa):=⟨rq_ (Kd.R_mono (Kd.R_far (p:=⟨Bc,(Aq : Int).toNat,none⟩) (Kd.R_mono Ab.1 (fun k_ hk=>(⟨hk,fun e_=>hk.2.2.2.2.2.2 (by rw [e_];rfl)⟩ : _ ∧ k_ ≠ Bc))) (fun _ hk=>hk.2) (.int .i64 (wrap64 ((rd Az Aq) - (Bi))))) (fun _ hk=>⟨hk.1.1,⟨hk.1.2.1,⟨hk.1.2.2.1,⟨hk.1.2.2.2.1,⟨hk.1.2.2.2.2.1,⟨hk.1.2.2.2.2.2.1,hk.1.2.2.2.2.2.2⟩⟩⟩⟩⟩⟩))⟩;have n4_ : Aside0 (Kd.R (Kd.int .i64) 3 (Bx.setCell ⟨Bc,(Aq : Int).toNat,none⟩ (.int .i64 (wrap64 ((rd Az Aq) - (Bi))))) w.heap.size (fun k_=>some k_ ≠ (Ai : Value).ownBlock ∧ some k_ ≠ (Aj : Value).ownBlock ∧ some k_ ≠ (Ak : Value).ownBlock ∧ some k_ ≠ (.slice (some As) Aa.length Ar : Value).ownBlock ∧ some k_ ≠ (Am : Value).ownBlock ∧ some k_ ≠ (An : Value).ownBlock ∧ some k_ ≠ (.slice (some ⟨Bc,0,none⟩) Az.length Ba : Value).ownBlock) Al Cd):=⟨rq_ (Kd.R_mono (Kd.R_far (p:=⟨Bc,(Aq : Int).toNat,none⟩) (Kd.R_mono Af.1 (fun k_ hk=>(⟨hk,fun e_=>hk.2.2.2.2.2.2 (by rw [e_];rfl)⟩ : _ ∧ k_ ≠ Bc))) (fun _ hk=>hk.2) (.int .i64 (wrap64 ((rd Az Aq) - (Bi))))) (fun _ hk=>⟨hk.1.1,⟨hk.1.2.1,⟨hk.1.2.2.1,⟨hk.1.2.2.2.1,⟨hk.1.2.2.2.2.1,⟨hk.1.2.2.2.2.2.1,hk.1.2.2.2.2.2.2⟩⟩⟩⟩⟩⟩))⟩;have n5_ : Aside0 (Kd.R (Kd.int .i64) 3 (Bx.setCell ⟨Bc,(Aq : Int).toNat,none⟩ (.int .i64 (wrap64 ((rd Az Aq) - (Bi))))) w.heap.size (fun k_=>some k_ ≠ (Ai : Value).ownBlock ∧ some k_ ≠ (Aj : Value).ownBlock ∧ some k_ ≠ (Ak : Value).ownBlock ∧ some k_ ≠ (.slice (some As) Aa.length Ar : Value).ownBlock ∧ some k_ ≠ (Al : Value).ownBlock ∧ some k_ ≠ (An : Value).ownBlock ∧ some k_ ≠ (.slice (some ⟨Bc,0,none⟩) Az.length Ba : Value).ownBlock) Am Ce):=⟨rq_ (Kd.R_mono (Kd.R_far (p:=⟨Bc,(Aq : Int).toNat,none⟩) (Kd.R_mono Ag.1 (fun k_ hk=>(⟨hk,fun e_=>hk.2.2.2.2.2.2 (by rw [e_];rfl)⟩ : _ ∧ k_ ≠ Bc))) (fun _ hk=>hk.2) (.int .i64 (wrap64 ((rd Az Aq) - (Bi))))) (fun _ hk=>⟨hk.1.1,⟨hk.1.2.1,⟨hk.1.2.2.1,⟨hk.1.2.2.2.1,⟨hk.1.2.2.2.2.1,⟨hk.1.2.2.2.2.2.1,hk.1.2.2.2.2.2.2⟩⟩⟩⟩⟩⟩))⟩;have n6_ : Aside0 (Kd.R (Kd.int .i64) 3 (Bx.setCell ⟨Bc,(Aq : Int).toNat,none⟩ (.int .i64 (wrap64 ((rd Az Aq) - (Bi))))) w.heap.size (fun k_=>some k_ ≠ (Ai : Value).ownBlock ∧ some k_ ≠ (Aj : Value).ownBlock ∧ some k_ ≠ (Ak : Value).ownBlock ∧ some k_ ≠ (.slice (some As) Aa.length Ar : Value).ownBlock ∧ some k_ ≠ (Al : Value).ownBlock ∧ some k_ ≠ (Am : Value).ownBlock ∧ some k_ ≠ (.slice (some ⟨Bc,0,none⟩) Az.length Ba : Value).ownBlock) An Cf):=⟨rq_ (Kd.R_mono (Kd.R_far (p:=⟨Bc,(Aq : Int).toNat,none⟩) (Kd.R_mono Ah.1 (fun k_ hk=>(⟨hk,fun e_=>hk.2.2.2.2.2.2 (by rw [e_];rfl)⟩ : _ ∧ k_ ≠ Bc))) (fun _ hk=>hk.2) (.int .i64 (wrap64 ((rd Az Aq) - (Bi))))) (fun _ hk=>⟨hk.1.1,⟨hk.1.2.1,⟨hk.1.2.2.1,⟨hk.1.2.2.2.1,⟨hk.1.2.2.2.2.1,⟨hk.1.2.2.2.2.2.1,hk.1.2.2.2.2.2.2⟩⟩⟩⟩⟩⟩))⟩;have n7_ : Aside0 (Kd.R (Kd.int .i64) 3 (Bx.setCell ⟨Bc,(Aq : Int).toNat,none⟩ (.int .i64 (wrap64 ((rd Az Aq) - (Bi))))) w.heap.size (fun k_=>some k_ ≠ (Ai : Value).ownBlock ∧ some k_ ≠ (Aj : Value).ownBlock ∧ some k_ ≠ (Ak : Value).ownBlock ∧ some k_ ≠ (.slice (some As) Aa.length Ar : Value).ownBlock ∧ some k_ ≠ (Al : Value).ownBlock ∧ some k_ ≠ (Am : Value).ownBlock ∧ some k_ ≠ (An : Value).ownBlock) (.slice (some ⟨Bc,0,none⟩) Az.length Ba) C0):=⟨rl_ Ee⟩;have n8_ : Aside0 ((Bx.setCell ⟨Bc,(Aq : Int).toNat,none⟩ (.int .i64 (wrap64 ((rd Az Aq) - (Bi))))).heap[Bz]? = some (.cells #[.int .i64 Ch,Ai] 26 (0,0))):=⟨by (with_reducible repeat (first|refine blk_drewN ?_ _|refine blk_drew ?_|refine blk_alloc ?_ _));refine blk_far ?_ (by have h_:=Kd.R_ne Bb.1 At.1 (by decide);intro e_;exact h_ (by rw [e_];rfl)) _;(with_reducible repeat (first|refine blk_drewN ?_ _|refine blk_drew ?_|refine blk_alloc ?_ _));exact At.1⟩;have n9_ : Aside0 ((Bx.setCell ⟨Bc,(Aq : Int).toNat,none⟩ (.int .i64 (wrap64 ((rd Az Aq) - (Bi))))).heap[B0]? = some (.cells #[.int .i64 Ci,Aj] 26 (0,0))):=⟨by (with_reducible repeat (first|refine blk_drewN ?_ _|refine blk_drew ?_|refine blk_alloc ?_ _));refine blk_far ?_ (by have h_:=Kd.R_ne Bb.1 Au.1 (by decide);intro e_;exact h_ (by rw [e_];rfl)) _;(with_reducible repeat (first|refine blk_drewN ?_ _|refine blk_drew ?_|refine blk_alloc ?_ _));exact Au.1⟩;have n10_ : Aside0 ((Bx.setCell ⟨Bc,(Aq : Int).toNat,none⟩ (.int .i64 (wrap64 ((rd Az Aq) - (Bi))))).heap[B2]? = some (.cells #[.int .i64 Cj,Ak] 26 (0,0))):=⟨by (with_reducible repeat (first|refine blk_drewN ?_ _|refine blk_drew ?_|refine blk_alloc ?_ _));refine blk_far ?_ (by have h_:=Kd.R_ne Bb.1 Av.1 (by decide);intro e_;exact h_ (by rw [e_];rfl)) _;(with_reducible repeat (first|refine blk_drewN ?_ _|refine blk_drew ?_|refine blk_alloc ?_ _));exact Av.1⟩;have n11_ : Aside0 ((Bx.setCell ⟨Bc,(Aq : Int).toNat,none⟩ (.int .i64 (wrap64 ((rd Az Aq) - (Bi))))).heap[Bp]? = some (.cells #[.int .i64 Bd,.slice (some As) Aa.length Ar] 26 (0,0))):=⟨by (with_reducible repeat (first|refine blk_drewN ?_ _|refine blk_drew ?_|refine blk_alloc ?_ _));refine blk_far ?_ (by have h_:=Kd.R_ne Bb.1 Ao.1 (by decide);intro e_;exact h_ (by rw [e_];rfl)) _;(with_reducible repeat (first|refine blk_drewN ?_ _|refine blk_drew ?_|refine blk_alloc ?_ _));exact Ao.1⟩;have n12_ : Aside0 ((Bx.setCell ⟨Bc,(Aq : Int).toNat,none⟩ (.int .i64 (wrap64 ((rd Az Aq) - (Bi))))).heap[B4]? = some (.cells #[.int .i64 Ck,Al] 26 (0,0))):=⟨by (with_reducible repeat (first|refine blk_drewN ?_ _|refine blk_drew ?_|refine blk_alloc ?_ _));refine blk_far ?_ (by have h_:=Kd.R_ne Bb.1 Aw.1 (by decide);intro e_;exact h_ (by rw [e_];rfl)) _;(with_reducible repeat (first|refine blk_drewN ?_ _|refine blk_drew ?_|refine blk_alloc ?_ _));exact Aw.1⟩;have n13_ : Aside0 ((Bx.setCell ⟨Bc,(Aq : Int).toNat,none⟩ (.int .i64 (wrap64 ((rd Az Aq) - (Bi))))).heap[B5]? = some (.cells #[.int .i64 Cl,Am] 26 (0,0))):=⟨by (with_reducible repeat (first|refine blk_drewN ?_ _|refine blk_drew ?_|refine blk_alloc ?_ _));refine blk_far ?_ (by have h_:=Kd.R_ne Bb.1 Ax.1 (by decide);intro e_;exact h_ (by rw [e_];rfl)) _;(with_reducible repeat (first|refine blk_drewN ?_ _|refine blk_drew ?_|refine blk_alloc ?_ _));exact Ax.1⟩;have n14_ : Aside0 ((Bx.setCell ⟨Bc,(Aq : Int).toNat,none⟩ (.int .i64 (wrap64 ((rd Az Aq) - (Bi))))).heap[B6]? = some (.cells #[.int .i64 Cm,An] 26 (0,0))):=⟨by (with_reducible repeat (first|refine blk_drewN ?_ _|refine blk_drew ?_|refine blk_alloc ?_ _));refine blk_far ?_ (by have h_:=Kd.R_ne Bb.1 Ay.1 (by decide);intro e_;exact h_ (by rw [e_];rfl)) _;(with_reducible repeat (first|refine blk_drewN ?_ _|refine blk_drew ?_|refine blk_alloc ?_ _));exact Ay.1⟩;have n15_ : Aside0 ((Bx.setCell ⟨Bc,(Aq : Int).toNat,none⟩ (.int .i64 (wrap64 ((rd Az Aq) - (Bi))))).heap[Ap]? = some (.cells #[.int .i64 Bd,.slice (some ⟨Bc,0,none⟩) Az.length Ba] 26 (0,0))):=⟨by (with_reducible repeat (first|refine blk_drewN ?_ _|refine blk_drew ?_|refine blk_alloc ?_ _));refine blk_far ?_ (by have h_:=Kd.R_ne Bb.1 A8.1 (by decide);intro e_;exact h_ (by rw [e_];rfl)) _;(with_reducible repeat (first|refine blk_drewN ?_ _|refine blk_drew ?_|refine blk_alloc ?_ _));exact A8.1⟩;have n16_ : Aside0 (Below w.heap.size w (Bx.setCell ⟨Bc,(Aq : Int).toNat,none⟩ (.int .i64 (wrap64 ((rd Az Aq) - (Bi)))))):=⟨by repeat (first|(with_reducible first|exact HB.1|apply below_alloc|apply pw_below_drewN|apply below_drew1|refine below_set ?_ Eo.1|refine below_set ?_ (Aside0.out (by assumption)))|exact HB.1)⟩;(try clear Ac);(try clear Ad);(try clear Ae);(try clear Ab);(try clear Af);(try clear Ag);(try clear Ah);(try clear Bb);(try clear At);(try clear Au);(try clear Av);(try clear Ao);(try clear Aw);(try clear Ax);(try clear Ay);(try clear A8);(try clear HB);generalize (Bx.setCell ⟨Bc,(Aq : Int).toNat,none⟩ (.int .i64 (wrap64 ((rd Az Aq) - (Bi))))) = Mm at n0_ n1_ n2_ n3_ n4_ n5_ n6_ n7_ n8_ n9_ n10_ n11_ n12_ n13_ n14_ n15_ n16_ ⊢
 have Ac:=n0_;have Ad:=n1_;have Ae:=n2_;have Ab:=n3_;have Af:=n4_;have Ag:=n5_;have Ah:=n6_;have Bb:=n7_;have At:=n8_;have Au:=n9_;have Av:=n10_;have Ao:=n11_;have Aw:=n12_;have Ax:=n13_;have Ay:=n14_;have A8:=n15_;have HB:=n16_;clear n0_ n1_ n2_ n3_ n4_ n5_ n6_ n7_ n8_ n9_ n10_ n11_ n12_ n13_ n14_ n15_ n16_;have Z:=Bq.1;have Z:=Bj.1;have Z:=Br.1;have Z:=Bk.1;have Z:=Bs.1;have Z:=Bl.1;have Z:=Bt.1;have Z:=Bh.1;have Z:=Bu.1;have Z:=Bm.1;have Z:=Bv.1;have Z:=Bn.1;have Z:=Bw.1;have Z:=Bo.1;obtain ⟨Z,Z,Z,Z⟩:=o2_ A8.1;try go_wp2_with (first|((with_reducible refine gate_callee (f:=11) rfl ?_);refine goesL_ (some 180) rfl rfl Tryd.func11 (by kernel_rfl) rfl #[.agg #[.int .i64 Bd,.slice (some ⟨Bc,0,none⟩) C0.length Ba]] rfl (by (try simp only [P_,Q_,R_]);first|done|(rw [show C0.length = Az.length from (Kd.R_reads' Bb.1).1.symm] <;> rfl)|rfl|(simp only [S_,U_];rfl)) ?_;(with_reducible refine (Aal.calls k7 Bd _ _ C0 Ei C2 true _ ?side1 ?side2 Fw.1).mono ?_);(case side1=>exact cl_ (Kd.R_reads' Bb.1).2.2);(case side2=>rw [show C0.length = Az.length from (Kd.R_reads' Bb.1).1.symm];exact (Kd.R_reads' Bb.1).2.1);rintro e Mn ⟨Mo,rfl,ho0,hb⟩;refine ⟨_,rfl,?_⟩;have n0_:=A_ (Kd.R_elder' (rl_ Ac) (Kd.R_base ho0) hb);have n1_:=A_ (Kd.R_elder' (rl_ Ad) (Kd.R_base ho0) hb);have n2_:=A_ (Kd.R_elder' (rl_ Ae) (Kd.R_base ho0) hb);have n3_:=A_ (Kd.R_elder' (rl_ Ab) (Kd.R_base ho0) hb);have n4_:=A_ (Kd.R_elder' (rl_ Af) (Kd.R_base ho0) hb);have n5_:=A_ (Kd.R_elder' (rl_ Ag) (Kd.R_base ho0) hb);have n6_:=A_ (Kd.R_elder' (rl_ Ah) (Kd.R_base ho0) hb);have n7_:=A_ (Kd.R_elder' (rl_ Bb) (Kd.R_base ho0) hb);have n8_:=A_ (Kd.R_lower (Kd.R_new' (Kd.R_new' (Kd.R_new' (Kd.R_new' (Kd.R_new' (Kd.R_new' (Kd.R_new' (Kd.R_new' ho0 (Kd.R_lt (rl_ Ac))) (Kd.R_lt (rl_ Ad))) (Kd.R_lt (rl_ Ae))) (Kd.R_lt (rl_ Ab))) (Kd.R_lt (rl_ Af))) (Kd.R_lt (rl_ Ag))) (Kd.R_lt (rl_ Ah))) (Kd.R_lt (rl_ Bb))) (below_size bb_));have n9_:=bz At hb;have n10_:=bz Au hb;have n11_:=bz Av hb;have n12_:=bz Ao hb;have n13_:=bz Aw hb;have n14_:=bz Ax hb;have n15_:=bz Ay hb;have n16_:=bz A8 hb;have n17_:=A_ (below_step bb_ hb);clear Ac;clear Ad;clear Ae;clear Ab;clear Af;clear Ag;clear Ah;clear Bb;clear At;clear Au;clear Av;clear Ao;clear Aw;clear Ax;clear Ay;clear A8;clear HB;have Ac:=n0_;have Ad:=n1_;have Ae:=n2_;have Ab:=n3_;have Af:=n4_;have Ag:=n5_;have Ah:=n6_;have Bb:=n7_;have Cn:=n8_;have At:=n9_;have Au:=n10_;have Av:=n11_;have Ao:=n12_;have Aw:=n13_;have Ax:=n14_;have Ay:=n15_;have A8:=n16_;have HB:=n17_;clear n0_ n1_ n2_ n3_ n4_ n5_ n6_ n7_ n8_ n9_ n10_ n11_ n12_ n13_ n14_ n15_ n16_ n17_;(try clear hb);(try clear hb2);(try clear hk);(try clear hi);(try clear ho0))|((with_reducible refine gate_dst (N:=24) rfl ?_);refine box_event ?hg (N:=24) ?hd (cs:=#[.int .i64 0,.slice none 0 0]) (t:=26) ?hr ?_;(case hd=>rfl);(case hg=>rfl);(case hr=>go_simp;try rfl);intro Cx hg Mp hbox hb;have n0_:=rb_ Ac hb;have n1_:=rb_ Ad hb;have n2_:=rb_ Ae hb;have n3_:=rb_ Ab hb;have n4_:=rb_ Af hb;have n5_:=rb_ Ag hb;have n6_:=rb_ Ah hb;have n7_:=rb_ Bb hb;have n8_:=rb_ Cn hb;have n9_:=bz At hb;have n10_:=bz Au hb;have n11_:=bz Av hb;have n12_:=bz Ao hb;have n13_:=bz Aw hb;have n14_:=bz Ax hb;have n15_:=bz Ay hb;have n16_:=bz A8 hb;have n17_:=A_ (below_step bb_ hb);have n18_:=A_ (hbox);have n19_:=A_ (gw_ (w:=w) hg bb_);have n20_:=A_ (gw_ (w:=w) hg bb_);have n21_:=A_ (nl_ hg At);have n22_:=A_ (ng_ hg At);have n23_:=A_ (nl_ hg Au);have n24_:=A_ (ng_ hg Au);have n25_:=A_ (nl_ hg Av);have n26_:=A_ (ng_ hg Av);have n27_:=A_ (nl_ hg Ao);have n28_:=A_ (ng_ hg Ao);have n29_:=A_ (nl_ hg Aw);have n30_:=A_ (ng_ hg Aw);have n31_:=A_ (nl_ hg Ax);have n32_:=A_ (ng_ hg Ax);have n33_:=A_ (nl_ hg Ay);have n34_:=A_ (ng_ hg Ay);have n35_:=A_ (nl_ hg A8);have n36_:=A_ (ng_ hg A8);clear Ac;clear Ad;clear Ae;clear Ab;clear Af;clear Ag;clear Ah;clear Bb;clear Cn;clear At;clear Au;clear Av;clear Ao;clear Aw;clear Ax;clear Ay;clear A8;clear HB;have Ac:=n0_;have Ad:=n1_;have Ae:=n2_;have Ab:=n3_;have Af:=n4_;have Ag:=n5_;have Ah:=n6_;have Bb:=n7_;have Cn:=n8_;have At:=n9_;have Au:=n10_;have Av:=n11_;have Ao:=n12_;have Aw:=n13_;have Ax:=n14_;have Ay:=n15_;have A8:=n16_;have HB:=n17_;have C6:=n18_;have Jd:=n19_;have Je:=n20_;have Dk:=n21_;have Dl:=n22_;have Dm:=n23_;have Dn:=n24_;have Do:=n25_;have Dp:=n26_;have Dq:=n27_;have Dr:=n28_;have Ds:=n29_;have Dt:=n30_;have Du:=n31_;have Dv:=n32_;have Dw:=n33_;have Dx:=n34_;have Dy:=n35_;have Dz:=n36_;clear n0_ n1_ n2_ n3_ n4_ n5_ n6_ n7_ n8_ n9_ n10_ n11_ n12_ n13_ n14_ n15_ n16_ n17_ n18_ n19_ n20_ n21_ n22_ n23_ n24_ n25_ n26_ n27_ n28_ n29_ n30_ n31_ n32_ n33_ n34_ n35_ n36_;clear hb hbox hg;have Z:=Dl.1;have Z:=Dk.1;have Z:=Dn.1;have Z:=Dm.1;have Z:=Dp.1;have Z:=Do.1;have Z:=Dr.1;have Z:=Dq.1;have Z:=Dt.1;have Z:=Ds.1;have Z:=Dv.1;have Z:=Du.1;have Z:=Dx.1;have Z:=Dw.1;have Z:=Dz.1;have Z:=Dy.1;obtain ⟨Z,Z,Z,Z⟩:=o2_ C6.1;obtain ⟨Jf,Er,Es⟩:=Kd.R_slice Cn.1;subst Es;have D7 : 0 ≤ (Aq : Int):=of_decide_eq_true (by first|(with_reducible assumption)|assumption);have D8 : Aq < (C2.length : Int):=of_decide_eq_true (by first|(with_reducible assumption)|assumption);obtain ⟨C7,F5,Cr⟩:=Kd.at_int (Kd.R_reads' Cn.1).2.2 Aq D7 D8;cases F5;have Cs : C7.block ≠ Cx:=Kd.own_blk (Kd.R_ne Cn.1 C6.1 (by decide));have Ct : C7.block ≠ Cx:=Kd.own_blk (Kd.R_ne Cn.1 C6.1 (by decide));replace Cr:=(cell_far (p:=⟨Cx,0,none⟩) (by first|(rw [add_block];exact Cs)|(show (Addr.add _ _).block ≠ _;rw [add_block];exact Cs)|exact Cs) (.int .i64 Ei)).trans Cr;replace Cr:=(cell_far (p:=⟨Cx,1,none⟩) (by first|(rw [add_block];exact Ct)|(show (Addr.add _ _).block ≠ _;rw [add_block];exact Ct)|exact Ct) (.slice (some C7) C2.length Er)).trans Cr;clear Cs;clear Ct;replace D7:=eq_true D7;replace D8:=eq_true D8)|(go_at_call 17;(with_reducible refine (Aa8.calls (rd C2 Aq) Cy true _ Fx.1).mono ?_);rintro e w' ⟨rfl,⟨nd,rfl⟩⟩))
 go_ret
 exact ⟨by first|rfl|(simp [errW_none,errW_some] <;> rfl)|(simp only [← Eh];first|rfl|(simp [errW_none,errW_some] <;> rfl))|(simp [*,errW_none,errW_some] <;> rfl),bb_⟩
end Go.Proofs.YtfjpilcmjabikaaDoor.P

