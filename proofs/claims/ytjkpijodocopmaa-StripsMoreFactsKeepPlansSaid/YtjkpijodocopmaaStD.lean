/- The law of steps answers true. -/
import Derived.Test.YtjkpijodocopmaaStC
section
/- The law of steps answers true. -/
namespace Hm
open Go
set_option maxRecDepth 100000
set_option maxHeartbeats 4000000
set_option linter.unusedSimpArgs false
set_option linter.unusedVariables false
theorem in_true {op : Int} {n : Nat} (h : 0 ≤ op ∧ op < n) : Fc Go.Proofs.Try.prog 16 [.int .i64 op, .int .i64 0, .int .i64 ((n : Int) - 1)] (.bool true) := by
  have := f_R1_In op 0 ((n : Int) - 1)
  rwa [show (decide (0 ≤ op) && decide (op ≤ (n : Int) - 1)) = true from by simp; omega] at this
theorem in_false {op : Int} {n : Nat} (h : ¬ (0 ≤ op ∧ op < n)) : Fc Go.Proofs.Try.prog 16 [.int .i64 op, .int .i64 0, .int .i64 ((n : Int) - 1)] (.bool false) := by
  have := f_R1_In op 0 ((n : Int) - 1)
  rwa [show (decide (0 ≤ op) && decide (op ≤ (n : Int) - 1)) = false from by
    cases h : (decide (0 ≤ op) && decide (op ≤ (n : Int) - 1)) with
    | false => rfl
    | true => simp at h; omega] at this
def c_L1_StripsMatchesSpec : Cmd :=
  (.seq
   (.ops [
   .op (some 3) none (.box 192196 4 (.t 0)),
   .op (some 6) none (.mov (.c (.bool false)))])
   (.cut
   (.seq
   (.ops [
   .op (some 20) none (.load true 4 (.t 3)),
   .op (some 21) none (.mov (.t 1)),
   .op (some 22) none (.call .f (.c (.fn 9 [])) [.t 20, .t 21]),
   .op (some 7) none (.alloc 192450 (.agg [.int .i64 (0), .int .i64 (0)])),
   .op none none (.store 2 (.t 7) (.t 22))])
   (.cut
   (.seq
   (.seq
   (.ops [
   .op (some 23) none (.call .f (.c (.fn 10 [])) []),
   .op (some 24) none (.not (.t 23)),
   .op (some 25) none (.mov (.t 24)),
   .op (some 26) (some (25, false)) (.load true 4 (.t 3)),
   .op (some 27) (some (25, false)) (.call .f (.c (.fn 11 [])) [.t 26]),
   .op (some 28) (some (25, false)) (.load true 4 (.t 3)),
   .op (some 29) (some (25, false)) (.call .f (.c (.fn 12 [])) [.t 28]),
   .op (some 30) (some (25, false)) (.bin .neq true [.i, .i] (.t 27) (.t 29)),
   .op (some 31) none (.pick (.t 25) (.c (.bool true)) (.t 30))])
   (.cut
   (.cond (.t 31)
   (.seq
   (.ops [
   .op (some 6) none (.mov (.c (.bool false)))])
   .ret)
   .skip)))
   (.cut
   (.seq
   (.ops [
   .op (some 33) none (.load true 4 (.t 3)),
   .op (some 34) none (.mov (.t 1)),
   .op (some 35) none (.call .f (.c (.fn 13 [])) [.t 33, .t 34]),
   .op (some 32) none (.mov (.t 35)),
   .op (some 36) none (.extract (.t 32) 0),
   .op (some 37) none (.extract (.t 32) 1),
   .op (some 9) none (.alloc 192578 (.agg [.int .i64 (0), .int .i64 (0)])),
   .op (some 8) none (.mov (.t 36)),
   .op none none (.store 2 (.t 9) (.t 37))])
   (.cut
   (.seq
   (.ops [
   .op (some 10) none (.newVec 192641)])
   (.cut
   (.seq
   (.seq
   (.ops [
   .op (some 11) none (.mov (.c (.int .i64 (0))))])
   (.cut
   (.block 0
   (.loop
   (.seq
   (.seq
   (.ops [
   .op (some 38) none (.mov (.t 11)),
   .op (some 39) none (.faddr 3 (.t 3)),
   .op (some 40) none (.load false 1 (.t 39)),
   .op (some 41) none (.len false (.t 40)),
   .op (some 42) none (.bin .lss false [] (.t 38) (.t 41)),
   .op (some 43) none (.mov (.t 42)),
   .op (some 44) (some (43, true)) (.faddr 0 (.t 7)),
   .op (some 45) (some (43, true)) (.load false 1 (.t 44)),
   .op (some 46) (some (43, true)) (.bin .eql false [.i] (.t 45) (.c (.int .i64 (0)))),
   .op (some 47) none (.pick (.t 43) (.t 46) (.c (.bool false)))])
   (.cut
   (.cond (.t 47)
   .skip
   (.exit 0))))
   (.cut
   (.seq
   (.block 1
   (.seq
   (.ops [
   .op (some 50) none (.load true 4 (.t 3)),
   .op (some 51) none (.mov (.t 1)),
   .op (some 52) none (.mov (.t 11)),
   .op (some 53) none (.call .f (.c (.fn 14 [])) [.t 50, .t 51, .t 52])])
   (.cut
   (.cond (.t 53)
   (.ops [
   .op (some 54) none (.mov (.t 10)),
   .op (some 55) none (.mov (.t 11)),
   .op (some 56) none (.bsl 1 [.t 55]),
   .op (some 57) none (.append 1 8 (.t 54) (.t 56)),
   .op (some 10) none (.mov (.t 57))])
   .skip))))
   (.cut
   (.ops [
   .op (some 48) none (.mov (.t 11)),
   .op (some 49) none (.bin .add false [] (.t 48) (.c (.int .i64 (1)))),
   .op (some 11) none (.mov (.t 49))])))))))))
   (.cut
   (.seq
   (.seq
   (.ops [
   .op (some 58) none (.load true 2 (.t 9)),
   .op (some 59) none (.load true 2 (.t 7)),
   .op (some 60) none (.bin .neq true [.i, .i] (.t 58) (.t 59)),
   .op (some 61) none (.mov (.t 60)),
   .op (some 62) (some (61, false)) (.mov (.t 8)),
   .op (some 63) (some (61, false)) (.mov (.t 10)),
   .op (some 64) (some (61, false)) (.call .f (.c (.fn 15 [])) [.t 62, .t 63]),
   .op (some 65) (some (61, false)) (.not (.t 64)),
   .op (some 66) none (.pick (.t 61) (.c (.bool true)) (.t 65))])
   (.cut
   (.cond (.t 66)
   (.seq
   (.ops [
   .op (some 6) none (.mov (.c (.bool false)))])
   .ret)
   .skip)))
   (.cut
   (.seq
   (.seq
   (.ops [
   .op (some 67) none (.faddr 0 (.t 7)),
   .op (some 68) none (.load false 1 (.t 67)),
   .op (some 69) none (.bin .eql false [.i] (.t 68) (.c (.int .i64 (0)))),
   .op (some 70) none (.mov (.t 69)),
   .op (some 71) (some (70, true)) (.mov (.t 2)),
   .op (some 72) (some (70, true)) (.faddr 3 (.t 3)),
   .op (some 73) (some (70, true)) (.load false 1 (.t 72)),
   .op (some 74) (some (70, true)) (.len false (.t 73)),
   .op (some 75) (some (70, true)) (.bin .sub false [] (.t 74) (.c (.int .i64 (1)))),
   .op (some 76) (some (70, true)) (.call .f (.c (.fn 16 [])) [.t 71, .c (.int .i64 (0)), .t 75]),
   .op (some 77) (some (70, true)) (.not (.t 76)),
   .op (some 78) none (.pick (.t 70) (.t 77) (.c (.bool false)))])
   (.cut
   (.cond (.t 78)
   (.ops [
   .op (some 79) none (.call .f (.c (.fn 17 [])) [.c (.int .i64 (3)), .c (.int .i64 (-6))]),
   .op none none (.store 2 (.t 7) (.t 79))])
   .skip)))
   (.cut
   (.seq
   (.ops [
   .op (some 80) none (.load true 2 (.t 7)),
   .op (some 12) none (.alloc 192770 (.agg [.int .i64 (0), .int .i64 (0)])),
   .op none none (.store 2 (.t 12) (.t 80))])
   (.cut
   (.seq
   (.seq
   (.ops [
   .op (some 81) none (.faddr 0 (.t 12)),
   .op (some 82) none (.load false 1 (.t 81)),
   .op (some 83) none (.bin .eql false [.i] (.t 82) (.c (.int .i64 (0)))),
   .op (some 84) none (.mov (.t 83)),
   .op (some 85) (some (84, true)) (.load true 4 (.t 3)),
   .op (some 86) (some (84, true)) (.mov (.t 1)),
   .op (some 87) (some (84, true)) (.mov (.t 2)),
   .op (some 88) (some (84, true)) (.call .f (.c (.fn 14 [])) [.t 85, .t 86, .t 87]),
   .op (some 89) (some (84, true)) (.not (.t 88)),
   .op (some 90) none (.pick (.t 84) (.t 89) (.c (.bool false)))])
   (.cut
   (.cond (.t 90)
   (.ops [
   .op (some 91) none (.mov (.t 2)),
   .op (some 92) none (.call .f (.c (.fn 17 [])) [.c (.int .i64 (11)), .t 91]),
   .op none none (.store 2 (.t 12) (.t 92))])
   .skip)))
   (.cut
   (.seq
   (.ops [
   .op (some 94) none (.load true 4 (.t 3)),
   .op (some 95) none (.mov (.t 1)),
   .op (some 96) none (.mov (.t 2)),
   .op (some 97) none (.call .f (.c (.fn 18 [])) [.t 94, .t 95, .t 96]),
   .op (some 93) none (.mov (.t 97)),
   .op (some 98) none (.extract (.t 93) 0),
   .op (some 99) none (.extract (.t 93) 1),
   .op (some 14) none (.alloc 192898 (.agg [.int .i64 (0), .int .i64 (0)])),
   .op (some 13) none (.mov (.t 98)),
   .op none none (.store 2 (.t 14) (.t 99))])
   (.cut
   (.seq
   (.seq
   (.ops [
   .op (some 100) none (.load true 2 (.t 14)),
   .op (some 101) none (.load true 2 (.t 12)),
   .op (some 102) none (.bin .neq true [.i, .i] (.t 100) (.t 101)),
   .op (some 103) none (.mov (.t 102)),
   .op (some 104) (some (103, false)) (.faddr 0 (.t 12)),
   .op (some 105) (some (103, false)) (.load false 1 (.t 104)),
   .op (some 106) (some (103, false)) (.bin .neq false [.i] (.t 105) (.c (.int .i64 (0)))),
   .op (some 107) (some (103, false)) (.mov (.t 106)),
   .op (some 108) (some (107, true)) (.mov (.t 13)),
   .op (some 109) (some (107, true)) (.len false (.t 108)),
   .op (some 110) (some (107, true)) (.bin .gtr false [] (.t 109) (.c (.int .i64 (0)))),
   .op (some 111) (some (103, false)) (.pick (.t 107) (.t 110) (.c (.bool false))),
   .op (some 112) none (.pick (.t 103) (.c (.bool true)) (.t 111)),
   .op (some 113) none (.mov (.t 112)),
   .op (some 114) (some (113, false)) (.faddr 0 (.t 12)),
   .op (some 115) (some (113, false)) (.load false 1 (.t 114)),
   .op (some 116) (some (113, false)) (.bin .eql false [.i] (.t 115) (.c (.int .i64 (0)))),
   .op (some 117) (some (113, false)) (.mov (.t 116)),
   .op (some 118) (some (117, true)) (.mov (.t 13)),
   .op (some 119) (some (117, true)) (.load true 4 (.t 3)),
   .op (some 120) (some (117, true)) (.mov (.t 1)),
   .op (some 121) (some (117, true)) (.mov (.t 2)),
   .op (some 122) (some (117, true)) (.call .f (.c (.fn 19 [])) [.t 119, .t 120, .t 121]),
   .op (some 123) (some (117, true)) (.call .f (.c (.fn 15 [])) [.t 118, .t 122]),
   .op (some 124) (some (117, true)) (.not (.t 123)),
   .op (some 125) (some (113, false)) (.pick (.t 117) (.t 124) (.c (.bool false))),
   .op (some 126) none (.pick (.t 113) (.c (.bool true)) (.t 125))])
   (.cut
   (.cond (.t 126)
   (.seq
   (.ops [
   .op (some 6) none (.mov (.c (.bool false)))])
   .ret)
   .skip)))
   (.cut
   (.seq
   (.ops [
   .op (some 128) none (.load true 4 (.t 3)),
   .op (some 129) none (.mov (.t 1)),
   .op (some 130) none (.mov (.t 2)),
   .op (some 131) none (.call .f (.c (.fn 20 [])) [.t 128, .t 129, .t 130]),
   .op (some 127) none (.mov (.t 131)),
   .op (some 132) none (.extract (.t 127) 0),
   .op (some 133) none (.extract (.t 127) 1),
   .op (some 134) none (.extract (.t 127) 2),
   .op (some 17) none (.alloc 193090 (.agg [.int .i64 (0), .int .i64 (0)])),
   .op (some 15) none (.mov (.t 132)),
   .op (some 16) none (.mov (.t 133)),
   .op none none (.store 2 (.t 17) (.t 134))])
   (.cut
   (.seq
   (.seq
   (.ops [
   .op (some 135) none (.faddr 0 (.t 7)),
   .op (some 136) none (.load false 1 (.t 135)),
   .op (some 137) none (.bin .neq false [.i] (.t 136) (.c (.int .i64 (0)))),
   .op (some 138) none (.mov (.t 137)),
   .op (some 139) (some (138, false)) (.mov (.t 1)),
   .op (some 140) (some (138, false)) (.faddr 3 (.t 3)),
   .op (some 141) (some (138, false)) (.load false 1 (.t 140)),
   .op (some 142) (some (138, false)) (.mov (.t 2)),
   .op (some 143) (some (138, false)) (.iaddr 4 (.t 141) (.t 142)),
   .op (some 144) (some (138, false)) (.faddr 2 (.t 143)),
   .op (some 145) (some (138, false)) (.load false 1 (.t 144)),
   .op (some 146) (some (138, false)) (.call .f (.c (.fn 21 [])) [.t 139, .t 145]),
   .op (some 147) (some (138, false)) (.not (.t 146)),
   .op (some 148) none (.pick (.t 138) (.c (.bool true)) (.t 147))])
   (.cut
   (.cond (.t 148)
   (.seq
   (.ops [
   .op (some 149) none (.load true 2 (.t 17)),
   .op (some 150) none (.load true 2 (.t 7)),
   .op (some 151) none (.bin .eql true [.i, .i] (.t 149) (.t 150)),
   .op (some 152) none (.mov (.t 151)),
   .op (some 153) (some (152, true)) (.mov (.t 16)),
   .op (some 154) (some (152, true)) (.not (.t 153)),
   .op (some 155) none (.pick (.t 152) (.t 154) (.c (.bool false))),
   .op (some 156) none (.mov (.t 155)),
   .op (some 157) (some (156, true)) (.mov (.t 15)),
   .op (some 158) (some (156, true)) (.len false (.t 157)),
   .op (some 159) (some (156, true)) (.bin .eql false [.i] (.t 158) (.c (.int .i64 (0)))),
   .op (some 160) none (.pick (.t 156) (.t 159) (.c (.bool false))),
   .op (some 6) none (.mov (.t 160))])
   .ret)
   .skip)))
   (.cut
   (.seq
   (.ops [
   .op (some 18) none (.newVec 193153)])
   (.cut
   (.seq
   (.seq
   (.ops [
   .op (some 19) none (.mov (.c (.int .i64 (0))))])
   (.cut
   (.block 2
   (.loop
   (.seq
   (.seq
   (.ops [
   .op (some 161) none (.mov (.t 19)),
   .op (some 162) none (.faddr 0 (.t 3)),
   .op (some 163) none (.load false 1 (.t 162)),
   .op (some 164) none (.bin .lss false [] (.t 161) (.t 163))])
   (.cut
   (.cond (.t 164)
   .skip
   (.exit 2))))
   (.cut
   (.seq
   (.block 3
   (.seq
   (.ops [
   .op (some 167) none (.faddr 3 (.t 3)),
   .op (some 168) none (.load false 1 (.t 167)),
   .op (some 169) none (.mov (.t 2)),
   .op (some 170) none (.iaddr 4 (.t 168) (.t 169)),
   .op (some 171) none (.faddr 0 (.t 170)),
   .op (some 172) none (.load false 1 (.t 171)),
   .op (some 173) none (.mov (.t 19)),
   .op (some 174) none (.call .f (.c (.fn 22 [])) [.t 172, .t 173]),
   .op (some 175) none (.mov (.t 174)),
   .op (some 176) (some (175, false)) (.mov (.t 1)),
   .op (some 177) (some (175, false)) (.mov (.t 19)),
   .op (some 178) (some (175, false)) (.call .f (.c (.fn 22 [])) [.t 176, .t 177]),
   .op (some 179) (some (175, false)) (.mov (.t 178)),
   .op (some 180) (some (179, true)) (.faddr 3 (.t 3)),
   .op (some 181) (some (179, true)) (.load false 1 (.t 180)),
   .op (some 182) (some (179, true)) (.mov (.t 2)),
   .op (some 183) (some (179, true)) (.iaddr 4 (.t 181) (.t 182)),
   .op (some 184) (some (179, true)) (.faddr 1 (.t 183)),
   .op (some 185) (some (179, true)) (.load false 1 (.t 184)),
   .op (some 186) (some (179, true)) (.mov (.t 19)),
   .op (some 187) (some (179, true)) (.call .f (.c (.fn 22 [])) [.t 185, .t 186]),
   .op (some 188) (some (179, true)) (.not (.t 187)),
   .op (some 189) (some (175, false)) (.pick (.t 179) (.t 188) (.c (.bool false))),
   .op (some 190) none (.pick (.t 175) (.c (.bool true)) (.t 189))])
   (.cut
   (.cond (.t 190)
   (.ops [
   .op (some 191) none (.mov (.t 18)),
   .op (some 192) none (.mov (.t 19)),
   .op (some 193) none (.bsl 1 [.t 192]),
   .op (some 194) none (.append 1 8 (.t 191) (.t 193)),
   .op (some 18) none (.mov (.t 194))])
   .skip))))
   (.cut
   (.ops [
   .op (some 165) none (.mov (.t 19)),
   .op (some 166) none (.bin .add false [] (.t 165) (.c (.int .i64 (1)))),
   .op (some 19) none (.mov (.t 166))])))))))))
   (.cut
   (.seq
   (.ops [
   .op (some 195) none (.load true 2 (.t 17)),
   .op (some 196) none (.load true 2 (.t 7)),
   .op (some 197) none (.bin .eql true [.i, .i] (.t 195) (.t 196)),
   .op (some 198) none (.mov (.t 197)),
   .op (some 199) (some (198, true)) (.mov (.t 16)),
   .op (some 200) none (.pick (.t 198) (.t 199) (.c (.bool false))),
   .op (some 201) none (.mov (.t 200)),
   .op (some 202) (some (201, true)) (.mov (.t 15)),
   .op (some 203) (some (201, true)) (.mov (.t 18)),
   .op (some 204) (some (201, true)) (.call .f (.c (.fn 15 [])) [.t 202, .t 203]),
   .op (some 205) none (.pick (.t 201) (.t 204) (.c (.bool false))),
   .op (some 6) none (.mov (.t 205))])
   .ret)))))))))))))))))))))))))))))))))
def r_L1_StripsMatchesSpec : List RVar := [.tmp 6]
def n_L1_StripsMatchesSpec : Nat := 206
theorem k_L1_StripsMatchesSpec : chkFn Go.Proofs.Try.prog 3 n_L1_StripsMatchesSpec r_L1_StripsMatchesSpec c_L1_StripsMatchesSpec = true := by kernel_rfl
theorem f_L1_StripsMatchesSpec_bad (t : STask) (ho : SkOk t) (s : List Int) (hs : s.length ≤ 140737488355328) (op : Int) (hb : stFault t s ≠ okF) : Fc Go.Proofs.Try.prog 3 [skV t, .sl .p (s.map i64V), .int .i64 op] (.bool true) := by
  have hT := f_L1_acts
  have hF := f_R1_StateFault t ho s hs
  have hV := f_strips_Validate t ho
  have hW := f_R1_TaskFault t ho
  have h1 := f_strips_Applicable_bad t ho s hs hb
  have h2 := f_strips_Apply_bad t ho s hs op hb
  have h3 := f_strips_Regress_bad t ho s hs op hb
  have h4 := f_Ints_same [] (by decide)
  have hne : (stFault t s).code ≠ 0 := fun h => hb ((stFault_iff t s).1 h)
  clear hb
  generalize stFault t s = F at *
  refine Fn.step mixed k_L1_StripsMatchesSpec ?_
  repeat' (first | refine i_len rfl ?_ | refine i_s rfl ?_ | refine i_lenm rfl rfl rfl ?_ | refine c_seq ?_ | refine c_cut0 ?_ | refine c_ops ?_ | refine i_nil ?_ | refine e_seq ?_ | refine e_block ?_ | refine c_block ?_ | refine c_skip ?_ | refine c_ret ?_ | refine c_exit ?_ | refine e_exit rfl ?_ | refine i_s0 rfl ?_ | refine c_leaf ?_ | refine i_gt rfl ?_ | refine i_gf rfl ?_ | refine i_gd rfl ?_ | refine c_t rfl ?_ | refine c_f rfl ?_ | refine i_conv rfl (by simp only [InR, List.length_map]; omega) ?_ | refine i_add rfl rfl (by simp only [InR, List.length_map]; omega) ?_ | refine i_sub rfl rfl (by simp only [InR, List.length_map]; omega) ?_ | refine i_ixm rfl rfl (by assumption) ?_ | refine i_iai rfl rfl (by omega) (by assumption) rfl ?_ | refine i_iam rfl rfl (by assumption) rfl ?_ | refine i_tk rfl rfl (by omega) ?_ | refine i_stb rfl ?_ | refine i_alloc rfl ?_ | refine i_box rfl rfl ?_ | refine i_nv rfl ?_ | refine c_node ?_ ?_ | refine i_g rfl (fun h => ?_) (fun h => ?_) | refine c_cond rfl (fun h => ?_) (fun h => ?_) | refine i_f rfl rfl (hF) rfl ?_ | refine i_f rfl rfl (hT) rfl ?_ | refine i_f rfl rfl (hV) rfl ?_ | refine i_f rfl rfl (hW) rfl ?_)
  all_goals first | (exfalso; clear hF hT hV hW h1 h2 h3 h4 ho; simp at *; done) | skip
  clear hF hV hW
  repeat' (first | refine i_len rfl ?_ | refine i_s rfl ?_ | refine i_lenm rfl rfl rfl ?_ | refine c_seq ?_ | refine c_cut0 ?_ | refine c_ops ?_ | refine i_nil ?_ | refine e_seq ?_ | refine e_block ?_ | refine c_block ?_ | refine c_skip ?_ | refine c_ret ?_ | refine c_exit ?_ | refine e_exit rfl ?_ | refine i_s0 rfl ?_ | refine c_leaf ?_ | refine i_gt rfl ?_ | refine i_gf rfl ?_ | refine i_gd rfl ?_ | refine c_t rfl ?_ | refine c_f rfl ?_ | refine i_conv rfl (by simp only [InR, List.length_map]; omega) ?_ | refine i_add rfl rfl (by simp only [InR, List.length_map]; omega) ?_ | refine i_sub rfl rfl (by simp only [InR, List.length_map]; omega) ?_ | refine i_ixm rfl rfl (by assumption) ?_ | refine i_iai rfl rfl (by omega) (by assumption) rfl ?_ | refine i_iam rfl rfl (by assumption) rfl ?_ | refine i_tk rfl rfl (by omega) ?_ | refine i_stb rfl ?_ | refine i_alloc rfl ?_ | refine i_box rfl rfl ?_ | refine i_nv rfl ?_ | refine c_node ?_ ?_ | refine i_g rfl (fun h => ?_) (fun h => ?_) | refine c_cond rfl (fun h => ?_) (fun h => ?_) | refine i_f rfl rfl (h1) rfl ?_)
  refine c_for 0 (fun k => [(1, .sl .p (s.map i64V)), (2, .int .i64 op), (3, .bptr 192196 0), (7, .bptr 192450 0), (8, .sl .p []), (9, .bptr 192578 0), (10, .sl (.own 192641) []), (11, .int .i64 k)]) (fun _ => [(192196, .box (skV t)), (192450, .box (ftV F)), (192578, .box (ftV F)), (192641, .vec 0)]) (fun _ => True) trivial ⟨by repeat (first | exact trivial | refine ⟨rfl, ?_⟩), by repeat (first | exact trivial | refine ⟨rfl, ?_⟩), rfl⟩ fun k hk _ => ?_
  have hk0 : k = 0 := by omega
  subst hk0
  repeat' (first | refine i_len rfl ?_ | refine i_s rfl ?_ | refine i_lenm rfl rfl rfl ?_ | refine c_seq ?_ | refine c_cut0 ?_ | refine c_ops ?_ | refine i_nil ?_ | refine e_seq ?_ | refine e_block ?_ | refine c_block ?_ | refine c_skip ?_ | refine c_ret ?_ | refine c_exit ?_ | refine e_exit rfl ?_ | refine i_s0 rfl ?_ | refine c_leaf ?_ | refine i_gt rfl ?_ | refine i_gf rfl ?_ | refine i_gd rfl ?_ | refine c_t rfl ?_ | refine c_f rfl ?_ | refine i_conv rfl (by simp only [InR, List.length_map]; omega) ?_ | refine i_add rfl rfl (by simp only [InR, List.length_map]; omega) ?_ | refine i_sub rfl rfl (by simp only [InR, List.length_map]; omega) ?_ | refine i_ixm rfl rfl (by assumption) ?_ | refine i_iai rfl rfl (by omega) (by assumption) rfl ?_ | refine i_iam rfl rfl (by assumption) rfl ?_ | refine i_tk rfl rfl (by omega) ?_ | refine i_stb rfl ?_ | refine i_alloc rfl ?_ | refine i_box rfl rfl ?_ | refine i_nv rfl ?_ | refine c_node ?_ ?_ | refine i_g rfl (fun h => ?_) (fun h => ?_) | refine c_cond rfl (fun h => ?_) (fun h => ?_) | refine i_f rfl rfl (h2) rfl ?_ | refine i_f rfl rfl (h3) rfl ?_ | refine i_f rfl rfl (h4) rfl ?_)
  all_goals first
    | exact e_ret ⟨rfl, _, rfl, rfl⟩
    | (exfalso; clear hT h1 h2 h3 h4 ho; simp at *; done)
    | (exfalso; clear hT h1 h2 h3 h4 ho; simp at *; omega)
    | trace_state
end Hm
end
