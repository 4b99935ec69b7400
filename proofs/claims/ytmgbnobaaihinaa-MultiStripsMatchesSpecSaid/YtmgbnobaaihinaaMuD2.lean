/- The law of translations of multi-valued tasks answers true. -/
import Derived.Test.YtmgbnobaaihinaaMuD
section
/- The law of translations of multi-valued tasks answers true. -/
namespace Hm
open Go
set_option maxRecDepth 100000
set_option maxHeartbeats 4000000
set_option linter.unusedSimpArgs false
set_option linter.unusedVariables false
theorem set_leM {t : STask} (hv : SV t) {l : List Int} (h : IsSet t.facts l) : l.length ≤ 24 := by
  have := isSet_len h hv.f0
  have := hv.f1
  omega
def c_L1_MultiStripsMatchesSpec : Cmd :=
  (.seq
   (.ops [
   .op (some 1) none (.box 320068 4 (.t 0)),
   .op (some 2) none (.mov (.c (.bool false)))])
   (.cut
   (.seq
   (.ops [
   .op (some 15) none (.load true 4 (.t 1)),
   .op (some 16) none (.call .f (.c (.fn 8 [])) [.t 15]),
   .op (some 3) none (.alloc 320194 (.agg [.int .i64 (0), .int .i64 (0)])),
   .op none none (.store 2 (.t 3) (.t 16))])
   (.cut
   (.seq
   (.ops [
   .op (some 4) none (.mov (.c (.int .i64 (0))))])
   (.cut
   (.seq
   (.seq
   (.ops [
   .op (some 5) none (.mov (.c (.int .i64 (0))))])
   (.cut
   (.block 0
   (.loop
   (.seq
   (.seq
   (.ops [
   .op (some 17) none (.mov (.t 5)),
   .op (some 18) none (.faddr 0 (.t 1)),
   .op (some 19) none (.load false 1 (.t 18)),
   .op (some 20) none (.len false (.t 19)),
   .op (some 21) none (.bin .lss false [] (.t 17) (.t 20)),
   .op (some 22) none (.mov (.t 21)),
   .op (some 23) (some (22, true)) (.faddr 0 (.t 3)),
   .op (some 24) (some (22, true)) (.load false 1 (.t 23)),
   .op (some 25) (some (22, true)) (.bin .eql false [.i] (.t 24) (.c (.int .i64 (0)))),
   .op (some 26) none (.pick (.t 22) (.t 25) (.c (.bool false)))])
   (.cut
   (.cond (.t 26)
   .skip
   (.exit 0))))
   (.cut
   (.seq
   (.block 1
   (.ops [
   .op (some 29) none (.mov (.t 4)),
   .op (some 30) none (.faddr 0 (.t 1)),
   .op (some 31) none (.load false 1 (.t 30)),
   .op (some 32) none (.mov (.t 5)),
   .op (some 33) none (.iaddr 1 (.t 31) (.t 32)),
   .op (some 34) none (.load false 1 (.t 33)),
   .op (some 35) none (.bin .add false [] (.t 29) (.t 34)),
   .op (some 4) none (.mov (.t 35))]))
   (.cut
   (.ops [
   .op (some 27) none (.mov (.t 5)),
   .op (some 28) none (.bin .add false [] (.t 27) (.c (.int .i64 (1)))),
   .op (some 5) none (.mov (.t 28))])))))))))
   (.cut
   (.seq
   (.seq
   (.ops [
   .op (some 36) none (.mov (.t 4)),
   .op (some 37) none (.bin .gtr false [] (.t 36) (.c (.int .i64 (24))))])
   (.cut
   (.cond (.t 37)
   (.ops [
   .op (some 38) none (.call .f (.c (.fn 12 [])) [.c (.int .i64 (10)), .c (.int .i64 (-8))]),
   .op none none (.store 2 (.t 3) (.t 38))])
   .skip)))
   (.cut
   (.seq
   (.ops [
   .op (some 40) none (.load true 4 (.t 1)),
   .op (some 41) none (.call .f (.c (.fn 23 [])) [.t 40]),
   .op (some 39) none (.mov (.t 41)),
   .op (some 42) none (.extract (.t 39) 0),
   .op (some 43) none (.extract (.t 39) 1),
   .op (some 6) none (.alloc 320388 (.agg [.int .i64 (0), .sl .nil [], .sl .nil [], .sl .nil []])),
   .op (some 7) none (.alloc 320450 (.agg [.int .i64 (0), .int .i64 (0)])),
   .op none none (.store 4 (.t 6) (.t 42)),
   .op none none (.store 2 (.t 7) (.t 43))])
   (.cut
   (.seq
   (.seq
   (.ops [
   .op (some 44) none (.call .f (.c (.fn 9 [])) []),
   .op (some 45) none (.not (.t 44)),
   .op (some 46) none (.mov (.t 45)),
   .op (some 47) (some (46, false)) (.load true 2 (.t 7)),
   .op (some 48) (some (46, false)) (.load true 2 (.t 3)),
   .op (some 49) (some (46, false)) (.bin .neq true [.i, .i] (.t 47) (.t 48)),
   .op (some 50) none (.pick (.t 46) (.c (.bool true)) (.t 49)),
   .op (some 51) none (.mov (.t 50)),
   .op (some 52) (some (51, false)) (.faddr 0 (.t 3)),
   .op (some 53) (some (51, false)) (.load false 1 (.t 52)),
   .op (some 54) (some (51, false)) (.bin .neq false [.i] (.t 53) (.c (.int .i64 (0)))),
   .op (some 55) none (.pick (.t 51) (.c (.bool true)) (.t 54))])
   (.cut
   (.cond (.t 55)
   (.seq
   (.ops [
   .op (some 56) none (.call .f (.c (.fn 9 [])) []),
   .op (some 57) none (.mov (.t 56)),
   .op (some 58) (some (57, true)) (.load true 2 (.t 7)),
   .op (some 59) (some (57, true)) (.load true 2 (.t 3)),
   .op (some 60) (some (57, true)) (.bin .eql true [.i, .i] (.t 58) (.t 59)),
   .op (some 61) none (.pick (.t 57) (.t 60) (.c (.bool false))),
   .op (some 62) none (.mov (.t 61)),
   .op (some 63) (some (62, true)) (.faddr 0 (.t 6)),
   .op (some 64) (some (62, true)) (.load false 1 (.t 63)),
   .op (some 65) (some (62, true)) (.bin .eql false [.i] (.t 64) (.c (.int .i64 (0)))),
   .op (some 66) none (.pick (.t 62) (.t 65) (.c (.bool false))),
   .op (some 2) none (.mov (.t 66))])
   .ret)
   .skip)))
   (.cut
   (.seq
   (.seq
   (.ops [
   .op (some 67) none (.faddr 0 (.t 6)),
   .op (some 68) none (.load false 1 (.t 67)),
   .op (some 69) none (.mov (.t 4)),
   .op (some 70) none (.bin .neq false [.i] (.t 68) (.t 69)),
   .op (some 71) none (.mov (.t 70)),
   .op (some 72) (some (71, false)) (.faddr 3 (.t 6)),
   .op (some 73) (some (71, false)) (.load false 1 (.t 72)),
   .op (some 74) (some (71, false)) (.len false (.t 73)),
   .op (some 75) (some (71, false)) (.faddr 3 (.t 1)),
   .op (some 76) (some (71, false)) (.load false 1 (.t 75)),
   .op (some 77) (some (71, false)) (.len false (.t 76)),
   .op (some 78) (some (71, false)) (.bin .neq false [.i] (.t 74) (.t 77)),
   .op (some 79) none (.pick (.t 71) (.c (.bool true)) (.t 78))])
   (.cut
   (.cond (.t 79)
   (.seq
   (.ops [
   .op (some 2) none (.mov (.c (.bool false)))])
   .ret)
   .skip)))
   (.cut
   (.seq
   (.ops [
   .op (some 8) none (.mov (.c (.int .i64 (0))))])
   (.cut
   (.seq
   (.seq
   (.ops [
   .op (some 9) none (.mov (.c (.int .i64 (0))))])
   (.cut
   (.block 2
   (.loop
   (.seq
   (.seq
   (.ops [
   .op (some 80) none (.mov (.t 9)),
   .op (some 81) none (.faddr 0 (.t 1)),
   .op (some 82) none (.load false 1 (.t 81)),
   .op (some 83) none (.len false (.t 82)),
   .op (some 84) none (.bin .lss false [] (.t 80) (.t 83))])
   (.cut
   (.cond (.t 84)
   .skip
   (.exit 2))))
   (.cut
   (.seq
   (.block 3
   (.seq
   (.seq
   (.ops [
   .op (some 10) none (.mov (.c (.int .i64 (0))))])
   (.cut
   (.block 4
   (.loop
   (.seq
   (.seq
   (.ops [
   .op (some 87) none (.mov (.t 10)),
   .op (some 88) none (.faddr 0 (.t 1)),
   .op (some 89) none (.load false 1 (.t 88)),
   .op (some 90) none (.mov (.t 9)),
   .op (some 91) none (.iaddr 1 (.t 89) (.t 90)),
   .op (some 92) none (.load false 1 (.t 91)),
   .op (some 93) none (.bin .lss false [] (.t 87) (.t 92))])
   (.cut
   (.cond (.t 93)
   .skip
   (.exit 4))))
   (.cut
   (.seq
   (.block 5
   (.seq
   (.ops [
   .op (some 96) none (.mov (.t 8)),
   .op (some 97) none (.mov (.t 10)),
   .op (some 98) none (.bin .add false [] (.t 96) (.t 97)),
   .op (some 11) none (.mov (.t 98))])
   (.cut
   (.seq
   (.seq
   (.ops [
   .op (some 99) none (.faddr 1 (.t 6)),
   .op (some 100) none (.load false 1 (.t 99)),
   .op (some 101) none (.mov (.t 11)),
   .op (some 102) none (.call .f (.c (.fn 24 [])) [.t 100, .t 101]),
   .op (some 103) none (.faddr 1 (.t 1)),
   .op (some 104) none (.load false 1 (.t 103)),
   .op (some 105) none (.mov (.t 9)),
   .op (some 106) none (.iaddr 1 (.t 104) (.t 105)),
   .op (some 107) none (.load false 1 (.t 106)),
   .op (some 108) none (.mov (.t 10)),
   .op (some 109) none (.bin .eql false [.i] (.t 107) (.t 108)),
   .op (some 110) none (.bin .neq false [.b] (.t 102) (.t 109)),
   .op (some 111) none (.mov (.t 110)),
   .op (some 112) (some (111, false)) (.faddr 2 (.t 6)),
   .op (some 113) (some (111, false)) (.load false 1 (.t 112)),
   .op (some 114) (some (111, false)) (.mov (.t 11)),
   .op (some 115) (some (111, false)) (.call .f (.c (.fn 24 [])) [.t 113, .t 114]),
   .op (some 116) (some (111, false)) (.faddr 2 (.t 1)),
   .op (some 117) (some (111, false)) (.load false 1 (.t 116)),
   .op (some 118) (some (111, false)) (.mov (.t 9)),
   .op (some 119) (some (111, false)) (.mov (.t 10)),
   .op (some 120) (some (111, false)) (.call .f (.c (.fn 25 [])) [.t 117, .t 118, .t 119]),
   .op (some 121) (some (111, false)) (.bin .neq false [.b] (.t 115) (.t 120)),
   .op (some 122) none (.pick (.t 111) (.c (.bool true)) (.t 121))])
   (.cut
   (.cond (.t 122)
   (.seq
   (.ops [
   .op (some 2) none (.mov (.c (.bool false)))])
   .ret)
   .skip)))
   (.cut
   (.seq
   (.ops [
   .op (some 12) none (.mov (.c (.int .i64 (0))))])
   (.cut
   (.block 6
   (.loop
   (.seq
   (.seq
   (.ops [
   .op (some 123) none (.mov (.t 12)),
   .op (some 124) none (.faddr 3 (.t 1)),
   .op (some 125) none (.load false 1 (.t 124)),
   .op (some 126) none (.len false (.t 125)),
   .op (some 127) none (.bin .lss false [] (.t 123) (.t 126))])
   (.cut
   (.cond (.t 127)
   .skip
   (.exit 6))))
   (.cut
   (.seq
   (.block 7
   (.seq
   (.ops [
   .op (some 130) none (.faddr 3 (.t 6)),
   .op (some 131) none (.load false 1 (.t 130)),
   .op (some 132) none (.mov (.t 12)),
   .op (some 133) none (.iaddr 4 (.t 131) (.t 132)),
   .op (some 134) none (.load true 4 (.t 133)),
   .op (some 13) none (.alloc 320836 (.agg [.sl .nil [], .sl .nil [], .sl .nil [], .int .i64 (0)])),
   .op none none (.store 4 (.t 13) (.t 134))])
   (.cut
   (.seq
   (.ops [
   .op (some 135) none (.faddr 3 (.t 1)),
   .op (some 136) none (.load false 1 (.t 135)),
   .op (some 137) none (.mov (.t 12)),
   .op (some 138) none (.iaddr 3 (.t 136) (.t 137)),
   .op (some 139) none (.load true 3 (.t 138)),
   .op (some 14) none (.alloc 320899 (.agg [.sl .nil [], .sl .nil [], .int .i64 (0)])),
   .op none none (.store 3 (.t 14) (.t 139))])
   (.cut
   (.seq
   (.ops [
   .op (some 140) none (.faddr 3 (.t 13)),
   .op (some 141) none (.load false 1 (.t 140)),
   .op (some 142) none (.faddr 2 (.t 14)),
   .op (some 143) none (.load false 1 (.t 142)),
   .op (some 144) none (.bin .neq false [.i] (.t 141) (.t 143)),
   .op (some 145) none (.mov (.t 144)),
   .op (some 146) (some (145, false)) (.faddr 0 (.t 13)),
   .op (some 147) (some (145, false)) (.load false 1 (.t 146)),
   .op (some 148) (some (145, false)) (.mov (.t 11)),
   .op (some 149) (some (145, false)) (.call .f (.c (.fn 24 [])) [.t 147, .t 148]),
   .op (some 150) (some (145, false)) (.faddr 0 (.t 14)),
   .op (some 151) (some (145, false)) (.load false 1 (.t 150)),
   .op (some 152) (some (145, false)) (.mov (.t 9)),
   .op (some 153) (some (145, false)) (.mov (.t 10)),
   .op (some 154) (some (145, false)) (.call .f (.c (.fn 25 [])) [.t 151, .t 152, .t 153]),
   .op (some 155) (some (145, false)) (.bin .neq false [.b] (.t 149) (.t 154)),
   .op (some 156) none (.pick (.t 145) (.c (.bool true)) (.t 155)),
   .op (some 157) none (.mov (.t 156)),
   .op (some 158) (some (157, false)) (.faddr 1 (.t 13)),
   .op (some 159) (some (157, false)) (.load false 1 (.t 158)),
   .op (some 160) (some (157, false)) (.mov (.t 11)),
   .op (some 161) (some (157, false)) (.call .f (.c (.fn 24 [])) [.t 159, .t 160]),
   .op (some 162) (some (157, false)) (.faddr 1 (.t 14)),
   .op (some 163) (some (157, false)) (.load false 1 (.t 162)),
   .op (some 164) (some (157, false)) (.mov (.t 9)),
   .op (some 165) (some (157, false)) (.mov (.t 10)),
   .op (some 166) (some (157, false)) (.call .f (.c (.fn 25 [])) [.t 163, .t 164, .t 165]),
   .op (some 167) (some (157, false)) (.bin .neq false [.b] (.t 161) (.t 166)),
   .op (some 168) none (.pick (.t 157) (.c (.bool true)) (.t 167)),
   .op (some 169) none (.mov (.t 168)),
   .op (some 170) (some (169, false)) (.faddr 2 (.t 13)),
   .op (some 171) (some (169, false)) (.load false 1 (.t 170)),
   .op (some 172) (some (169, false)) (.mov (.t 11)),
   .op (some 173) (some (169, false)) (.call .f (.c (.fn 24 [])) [.t 171, .t 172]),
   .op (some 174) (some (169, false)) (.faddr 1 (.t 14)),
   .op (some 175) (some (169, false)) (.load false 1 (.t 174)),
   .op (some 176) (some (169, false)) (.mov (.t 9)),
   .op (some 177) (some (169, false)) (.call .f (.c (.fn 26 [])) [.t 175, .t 176]),
   .op (some 178) (some (169, false)) (.mov (.t 177)),
   .op (some 179) (some (178, true)) (.faddr 1 (.t 14)),
   .op (some 180) (some (178, true)) (.load false 1 (.t 179)),
   .op (some 181) (some (178, true)) (.mov (.t 9)),
   .op (some 182) (some (178, true)) (.mov (.t 10)),
   .op (some 183) (some (178, true)) (.call .f (.c (.fn 25 [])) [.t 180, .t 181, .t 182]),
   .op (some 184) (some (178, true)) (.not (.t 183)),
   .op (some 185) (some (169, false)) (.pick (.t 178) (.t 184) (.c (.bool false))),
   .op (some 186) (some (169, false)) (.bin .neq false [.b] (.t 173) (.t 185)),
   .op (some 187) none (.pick (.t 169) (.c (.bool true)) (.t 186))])
   (.cut
   (.cond (.t 187)
   (.seq
   (.ops [
   .op (some 2) none (.mov (.c (.bool false)))])
   .ret)
   .skip))))))))
   (.cut
   (.ops [
   .op (some 128) none (.mov (.t 12)),
   .op (some 129) none (.bin .add false [] (.t 128) (.c (.int .i64 (1)))),
   .op (some 12) none (.mov (.t 129))]))))))))))))))
   (.cut
   (.ops [
   .op (some 94) none (.mov (.t 10)),
   .op (some 95) none (.bin .add false [] (.t 94) (.c (.int .i64 (1)))),
   .op (some 10) none (.mov (.t 95))])))))))))
   (.cut
   (.ops [
   .op (some 188) none (.mov (.t 8)),
   .op (some 189) none (.faddr 0 (.t 1)),
   .op (some 190) none (.load false 1 (.t 189)),
   .op (some 191) none (.mov (.t 9)),
   .op (some 192) none (.iaddr 1 (.t 190) (.t 191)),
   .op (some 193) none (.load false 1 (.t 192)),
   .op (some 194) none (.bin .add false [] (.t 188) (.t 193)),
   .op (some 8) none (.mov (.t 194))]))))
   (.cut
   (.ops [
   .op (some 85) none (.mov (.t 9)),
   .op (some 86) none (.bin .add false [] (.t 85) (.c (.int .i64 (1)))),
   .op (some 9) none (.mov (.t 86))])))))))))
   (.cut
   (.seq
   (.ops [
   .op (some 195) none (.load true 4 (.t 6)),
   .op (some 196) none (.call .f (.c (.fn 27 [])) [.t 195]),
   .op (some 197) none (.build [.int .i64 (0), .int .i64 (0)] []),
   .op (some 198) none (.bin .eql true [.i, .i] (.t 196) (.t 197)),
   .op (some 2) none (.mov (.t 198))])
   .ret)))))))))))))))))))))
def r_L1_MultiStripsMatchesSpec : List RVar := [.tmp 2]
def n_L1_MultiStripsMatchesSpec : Nat := 199
theorem k_L1_MultiStripsMatchesSpec : chkFn Go.Proofs.Try.prog 5 n_L1_MultiStripsMatchesSpec r_L1_MultiStripsMatchesSpec c_L1_MultiStripsMatchesSpec = true := by kernel_rfl
theorem f_L1_MultiStripsMatchesSpec_bad (m : MTask) (ho : MOk m) (hb : mFault m ≠ okF) : Fc Go.Proofs.Try.prog 5 [mtV m] (.bool true) := by
  have hF := f_R1_MultiFault m ho
  have hT := f_L1_turns
  have hS := f_multi_Strips_bad m ho hb
  have hne : (mFault m).code ≠ 0 := fun h => hb ((mFault_iff m).1 h)
  clear hb
  generalize mFault m = F at *
  refine Fn.step mixed k_L1_MultiStripsMatchesSpec ?_
  repeat' (first | refine i_len rfl ?_ | refine i_s rfl ?_ | refine i_lenm rfl rfl rfl ?_ | refine c_seq ?_ | refine c_cut0 ?_ | refine c_ops ?_ | refine i_nil ?_ | refine e_seq ?_ | refine e_block ?_ | refine c_block ?_ | refine c_skip ?_ | refine c_ret ?_ | refine c_exit ?_ | refine e_exit rfl ?_ | refine i_s0 rfl ?_ | refine c_leaf ?_ | refine i_gt rfl ?_ | refine i_gf rfl ?_ | refine i_gd rfl ?_ | refine c_t rfl ?_ | refine c_f rfl ?_ | refine i_conv rfl (by simp only [InR, List.length_map]; omega) ?_ | refine i_add rfl rfl (by simp only [InR, List.length_map]; omega) ?_ | refine i_sub rfl rfl (by simp only [InR, List.length_map]; omega) ?_ | refine i_ixm rfl rfl (by assumption) ?_ | refine i_iai rfl rfl (by omega) (by assumption) rfl ?_ | refine i_iam rfl rfl (by assumption) rfl ?_ | refine i_tk rfl rfl (by omega) ?_ | refine i_stb rfl ?_ | refine i_alloc rfl ?_ | refine i_box rfl rfl ?_ | refine i_nv rfl ?_ | refine c_node ?_ ?_ | refine i_g rfl (fun h => ?_) (fun h => ?_) | refine c_cond rfl (fun h => ?_) (fun h => ?_) | refine i_f rfl rfl (hF) rfl ?_)
  refine c_for 0 (fun k => [(1, .bptr 320068 0), (3, .bptr 320194 0), (4, .int .i64 0), (5, .int .i64 k)]) (fun _ => [(320068, .box (mtV m)), (320194, .box (ftV F))]) (fun _ => True) trivial ⟨by repeat (first | exact trivial | refine ⟨rfl, ?_⟩), by repeat (first | exact trivial | refine ⟨rfl, ?_⟩), rfl⟩ fun k hk _ => ?_
  have hk0 : k = 0 := by omega
  subst hk0
  repeat' (first | refine i_len rfl ?_ | refine i_s rfl ?_ | refine i_lenm rfl rfl rfl ?_ | refine c_seq ?_ | refine c_cut0 ?_ | refine c_ops ?_ | refine i_nil ?_ | refine e_seq ?_ | refine e_block ?_ | refine c_block ?_ | refine c_skip ?_ | refine c_ret ?_ | refine c_exit ?_ | refine e_exit rfl ?_ | refine i_s0 rfl ?_ | refine c_leaf ?_ | refine i_gt rfl ?_ | refine i_gf rfl ?_ | refine i_gd rfl ?_ | refine c_t rfl ?_ | refine c_f rfl ?_ | refine i_conv rfl (by simp only [InR, List.length_map]; omega) ?_ | refine i_add rfl rfl (by simp only [InR, List.length_map]; omega) ?_ | refine i_sub rfl rfl (by simp only [InR, List.length_map]; omega) ?_ | refine i_ixm rfl rfl (by assumption) ?_ | refine i_iai rfl rfl (by omega) (by assumption) rfl ?_ | refine i_iam rfl rfl (by assumption) rfl ?_ | refine i_tk rfl rfl (by omega) ?_ | refine i_stb rfl ?_ | refine i_alloc rfl ?_ | refine i_box rfl rfl ?_ | refine i_nv rfl ?_ | refine c_node ?_ ?_ | refine i_g rfl (fun h => ?_) (fun h => ?_) | refine c_cond rfl (fun h => ?_) (fun h => ?_) | refine i_f rfl rfl (hS) rfl ?_ | refine i_f rfl rfl (hT) rfl ?_)
  all_goals first
    | (exfalso; clear hF hT hS ho; simp at *; done)
    | (exfalso; clear hF hT hS ho; simp at *; omega)
    | (refine e_ret ⟨rfl, _, rfl, congrArg V.bool ?_⟩; first | rfl | (simp; done))
theorem f_L1_MultiStripsMatchesSpec_ok (m : MTask) (ho : MOk m) (hb : mFault m = okF) : Fc Go.Proofs.Try.prog 5 [mtV m] (.bool true) := by
  have hF := f_R1_MultiFault m ho
  rw [hb] at hF
  have hT := f_L1_turns
  have hv := mFault_ok hb
  have hl8 := hv.len
  refine Fn.step mixed k_L1_MultiStripsMatchesSpec ?_
  repeat' (first | refine i_len rfl ?_ | refine i_s rfl ?_ | refine i_lenm rfl rfl rfl ?_ | refine c_seq ?_ | refine c_cut0 ?_ | refine c_ops ?_ | refine i_nil ?_ | refine e_seq ?_ | refine e_block ?_ | refine c_block ?_ | refine c_skip ?_ | refine c_ret ?_ | refine c_exit ?_ | refine e_exit rfl ?_ | refine i_s0 rfl ?_ | refine c_leaf ?_ | refine i_gt rfl ?_ | refine i_gf rfl ?_ | refine i_gd rfl ?_ | refine c_t rfl ?_ | refine c_f rfl ?_ | refine i_conv rfl (by simp only [InR, List.length_map]; omega) ?_ | refine i_add rfl rfl (by simp only [InR, List.length_map]; omega) ?_ | refine i_sub rfl rfl (by simp only [InR, List.length_map]; omega) ?_ | refine i_ixm rfl rfl (by assumption) ?_ | refine i_iai rfl rfl (by omega) (by assumption) rfl ?_ | refine i_iam rfl rfl (by assumption) rfl ?_ | refine i_tk rfl rfl (by omega) ?_ | refine i_stb rfl ?_ | refine i_alloc rfl ?_ | refine i_box rfl rfl ?_ | refine i_nv rfl ?_ | refine c_node ?_ ?_ | refine i_g rfl (fun h => ?_) (fun h => ?_) | refine c_cond rfl (fun h => ?_) (fun h => ?_) | refine i_f rfl rfl (hF) rfl ?_)
  refine c_for m.sizes.length (fun k => [(1, .bptr 320068 0), (3, .bptr 320194 0), (4, .int .i64 (sumL (m.sizes.take k))), (5, .int .i64 k)]) (fun _ => [(320068, .box (mtV m)), (320194, .box (ftV okF))]) (fun _ => True) trivial ⟨by repeat (first | exact trivial | refine ⟨rfl, ?_⟩), by repeat (first | exact trivial | refine ⟨rfl, ?_⟩), rfl⟩ fun k hk _ => ?_
  clear hF
  repeat (first | refine i_len rfl ?_ | refine i_s rfl ?_ | refine i_lenm rfl rfl rfl ?_ | refine c_seq ?_ | refine c_cut0 ?_ | refine c_ops ?_ | refine i_nil ?_ | refine e_seq ?_ | refine e_block ?_ | refine c_block ?_ | refine c_skip ?_ | refine c_ret ?_ | refine c_exit ?_ | refine e_exit rfl ?_ | refine i_s0 rfl ?_ | refine c_leaf ?_ | refine i_gt rfl ?_ | refine i_gf rfl ?_ | refine i_gd rfl ?_ | refine c_t rfl ?_ | refine c_f rfl ?_ | refine i_conv rfl (by simp only [InR, List.length_map]; omega) ?_ | refine i_add rfl rfl (by simp only [InR, List.length_map]; omega) ?_ | refine i_sub rfl rfl (by simp only [InR, List.length_map]; omega) ?_ | refine i_ixm rfl rfl (by assumption) ?_ | refine i_iai rfl rfl (by omega) (by assumption) rfl ?_ | refine i_iam rfl rfl (by assumption) rfl ?_ | refine i_tk rfl rfl (by omega) ?_ | refine i_stb rfl ?_ | refine i_alloc rfl ?_ | refine i_box rfl rfl ?_ | refine i_nv rfl ?_)
  refine i_g rfl (fun h => ?_) (fun h => ?_)
  · have hlt : k < m.sizes.length := by simpa using h
    obtain ⟨z, hz⟩ := get_some hlt
    have hzr := hv.rng z (mem_get hz)
    have hsr := sumL_range (m.sizes.take k) fun z hz => hv.rng z (List.mem_of_mem_take hz)
    have htl : (m.sizes.take k).length ≤ 8 := by simp; omega
    have e : sumL (m.sizes.take (k + 1)) = sumL (m.sizes.take k) + z := by rw [take_succ_get hz, sumL_snoc]
    clear h hT
    repeat (first | refine i_len rfl ?_ | refine i_s rfl ?_ | refine i_lenm rfl rfl rfl ?_ | refine c_seq ?_ | refine c_cut0 ?_ | refine c_ops ?_ | refine i_nil ?_ | refine e_seq ?_ | refine e_block ?_ | refine c_block ?_ | refine c_skip ?_ | refine c_ret ?_ | refine c_exit ?_ | refine e_exit rfl ?_ | refine i_s0 rfl ?_ | refine c_leaf ?_ | refine i_gt rfl ?_ | refine i_gf rfl ?_ | refine i_gd rfl ?_ | refine c_t rfl ?_ | refine c_f rfl ?_ | refine i_conv rfl (by simp only [InR, List.length_map]; omega) ?_ | refine i_add rfl rfl (by simp only [InR, List.length_map]; omega) ?_ | refine i_sub rfl rfl (by simp only [InR, List.length_map]; omega) ?_ | refine i_ixm rfl rfl (by assumption) ?_ | refine i_iai rfl rfl (by omega) (by assumption) rfl ?_ | refine i_iam rfl rfl (by assumption) rfl ?_ | refine i_tk rfl rfl (by omega) ?_ | refine i_stb rfl ?_ | refine i_alloc rfl ?_ | refine i_box rfl rfl ?_ | refine i_nv rfl ?_)
    refine e_for hlt trivial ⟨⟨rfl, rfl, ?_, rfl, trivial⟩, ⟨rfl, rfl, trivial⟩, rfl⟩
    rw [e]; rfl
  have hge : k = m.sizes.length := by have : ¬ k < m.sizes.length := by simpa using h
                                      omega
  subst hge
  rw [List.take_length]
  clear h hk
  by_cases hbig : sumL m.sizes > 24
  · have hS := f_multi_Strips_big m ho hb hbig
    have hbI : (sumL m.sizes : Int) > 24 := hbig
    repeat' (first | refine i_len rfl ?_ | refine i_s rfl ?_ | refine i_lenm rfl rfl rfl ?_ | refine c_seq ?_ | refine c_cut0 ?_ | refine c_ops ?_ | refine i_nil ?_ | refine e_seq ?_ | refine e_block ?_ | refine c_block ?_ | refine c_skip ?_ | refine c_ret ?_ | refine c_exit ?_ | refine e_exit rfl ?_ | refine i_s0 rfl ?_ | refine c_leaf ?_ | refine i_gt rfl ?_ | refine i_gf rfl ?_ | refine i_gd rfl ?_ | refine c_t rfl ?_ | refine c_f rfl ?_ | refine i_conv rfl (by simp only [InR, List.length_map]; omega) ?_ | refine i_add rfl rfl (by simp only [InR, List.length_map]; omega) ?_ | refine i_sub rfl rfl (by simp only [InR, List.length_map]; omega) ?_ | refine i_ixm rfl rfl (by assumption) ?_ | refine i_iai rfl rfl (by omega) (by assumption) rfl ?_ | refine i_iam rfl rfl (by assumption) rfl ?_ | refine i_tk rfl rfl (by omega) ?_ | refine i_stb rfl ?_ | refine i_alloc rfl ?_ | refine i_box rfl rfl ?_ | refine i_nv rfl ?_ | refine c_node ?_ ?_ | refine i_g rfl (fun h => ?_) (fun h => ?_) | refine c_cond rfl (fun h => ?_) (fun h => ?_) | refine i_f rfl rfl (hS) rfl ?_ | refine i_f rfl rfl (hT) rfl ?_ | refine i_f rfl rfl (f_R1_At _ _) rfl ?_)
    all_goals first
      | (exfalso; clear hT hS ho hb hv; simp at *; omega)
      | (refine e_ret ⟨rfl, _, rfl, congrArg V.bool ?_⟩; first | rfl | (simp; done))
  have hsm : sumL m.sizes ≤ 24 := by omega
  have hS := f_multi_Strips_ok m ho hb hsm
  have hsv := mStrips_sv hv hsm
  have hTf : (mStrips m).facts = sumL m.sizes := rfl
  have hTl : (mStrips m).ops.length = m.ops.length := by simp [mStrips]
  have hV := f_strips_Validate (mStrips m) ⟨by have := set_leM hsv hsv.init; omega, by have := set_leM hsv hsv.goal; omega, by have := hsv.opl; omega, fun o ho => by
    have h := hsv.op o ho
    exact ⟨by have := set_leM hsv h.pre; omega, by have := set_leM hsv h.add; omega, by have := set_leM hsv h.del; omega⟩⟩
  rw [sFault_of hsv] at hV
  have hTi : ∀ (v : Nat) (x y : Int), VX m.sizes v x → m.init[v]? = some y → decide (fv m.sizes v x ∈ (mStrips m).init) = (y == x) := fun v x y h1 h2 => has_init hv h1 h2
  have hTg : ∀ (v : Nat) (x : Int), VX m.sizes v x → decide (fv m.sizes v x ∈ (mStrips m).goal) = asgB m.goal v x := fun v x h1 => has_map hv.rng hv.goal h1
  have hTo : ∀ (i : Nat) (q : MOp), m.ops[i]? = some q → ∃ o, (mStrips m).ops[i]? = some o ∧ o.cost = q.cost ∧ ∀ (v : Nat) (x : Int), VX m.sizes v x →
      decide (fv m.sizes v x ∈ o.pre) = asgB q.pre v x ∧ decide (fv m.sizes v x ∈ o.add) = asgB q.post v x ∧ decide (fv m.sizes v x ∈ o.del) = (setsB q.post v && !asgB q.post v x) := fun i q hq => by
    obtain ⟨p1, p2, p3, p4⟩ := hv.op q (mem_get hq)
    exact ⟨opT (baseFrom 0 m.sizes) m.sizes q, by simp [mStrips, hq], rfl, fun v x h => ⟨has_map hv.rng p1 h, has_map hv.rng p2 h, has_dels hv.rng p2 h⟩⟩
  have hil : m.init.length = m.sizes.length := stB_len hv.init
  generalize mStrips m = T at *
  have hni : ¬ sumL m.sizes > 24 := hbig
  have hEv : (ftV okF) = .agg [.int .i64 0, .int .i64 0] := rfl
  repeat' (first | refine i_len rfl ?_ | refine i_s rfl ?_ | refine i_lenm rfl rfl rfl ?_ | refine c_seq ?_ | refine c_cut0 ?_ | refine c_ops ?_ | refine i_nil ?_ | refine e_seq ?_ | refine e_block ?_ | refine c_block ?_ | refine c_skip ?_ | refine c_ret ?_ | refine c_exit ?_ | refine e_exit rfl ?_ | refine i_s0 rfl ?_ | refine c_leaf ?_ | refine i_gt rfl ?_ | refine i_gf rfl ?_ | refine i_gd rfl ?_ | refine c_t rfl ?_ | refine c_f rfl ?_ | refine i_conv rfl (by simp only [InR, List.length_map]; omega) ?_ | refine i_add rfl rfl (by simp only [InR, List.length_map]; omega) ?_ | refine i_sub rfl rfl (by simp only [InR, List.length_map]; omega) ?_ | refine i_ixm rfl rfl (by assumption) ?_ | refine i_iai rfl rfl (by omega) (by assumption) rfl ?_ | refine i_iam rfl rfl (by assumption) rfl ?_ | refine i_tk rfl rfl (by omega) ?_ | refine i_stb rfl ?_ | refine i_alloc rfl ?_ | refine i_box rfl rfl ?_ | refine i_nv rfl ?_ | refine c_node ?_ ?_ | refine i_g rfl (fun h => ?_) (fun h => ?_) | refine c_cond rfl (fun h => ?_) (fun h => ?_) | refine i_f rfl rfl (hS) rfl ?_ | refine i_f rfl rfl (hT) rfl ?_)
  all_goals first | (exfalso; clear hT hS hV hTi hTg hTo ho hb hv hsv; simp at *; omega) | (exfalso; clear hT hS hV hTi hTg hTo ho hb hv hsv; simp at *; contradiction) | skip
  clear hS hT
  refine c_for m.sizes.length (fun k => [(1, .bptr 320068 0), (6, .bptr 320388 0), (8, .int .i64 (sumL (m.sizes.take k))), (9, .int .i64 k)]) (fun _ => [(320068, .box (mtV m)), (320388, .box (skV T))]) (fun _ => True) trivial ⟨by repeat (first | exact trivial | refine ⟨rfl, ?_⟩), by repeat (first | exact trivial | refine ⟨rfl, ?_⟩), rfl⟩ fun v hv1 _ => ?_
  repeat (first | refine i_len rfl ?_ | refine i_s rfl ?_ | refine i_lenm rfl rfl rfl ?_ | refine c_seq ?_ | refine c_cut0 ?_ | refine c_ops ?_ | refine i_nil ?_ | refine e_seq ?_ | refine e_block ?_ | refine c_block ?_ | refine c_skip ?_ | refine c_ret ?_ | refine c_exit ?_ | refine e_exit rfl ?_ | refine i_s0 rfl ?_ | refine c_leaf ?_ | refine i_gt rfl ?_ | refine i_gf rfl ?_ | refine i_gd rfl ?_ | refine c_t rfl ?_ | refine c_f rfl ?_ | refine i_conv rfl (by simp only [InR, List.length_map]; omega) ?_ | refine i_add rfl rfl (by simp only [InR, List.length_map]; omega) ?_ | refine i_sub rfl rfl (by simp only [InR, List.length_map]; omega) ?_ | refine i_ixm rfl rfl (by assumption) ?_ | refine i_iai rfl rfl (by omega) (by assumption) rfl ?_ | refine i_iam rfl rfl (by assumption) rfl ?_ | refine i_tk rfl rfl (by omega) ?_ | refine i_stb rfl ?_ | refine i_alloc rfl ?_ | refine i_box rfl rfl ?_ | refine i_nv rfl ?_)
  refine c_cond rfl (fun h => ?_) (fun h => ?_)
  · have hvl : v < m.sizes.length := by simpa using h
    obtain ⟨z, hz⟩ := get_some hvl
    have hzr := hv.rng z (mem_get hz)
    have hsr := sumL_range (m.sizes.take v) fun z hz => hv.rng z (List.mem_of_mem_take hz)
    have htl : (m.sizes.take v).length ≤ 8 := by simp; omega
    have e : sumL (m.sizes.take (v + 1)) = sumL (m.sizes.take v) + z := by rw [take_succ_get hz, sumL_snoc]
    obtain ⟨y, hy⟩ := get_some (l := m.init) (k := v) (by omega)
    clear h
    repeat (first | refine i_len rfl ?_ | refine i_s rfl ?_ | refine i_lenm rfl rfl rfl ?_ | refine c_seq ?_ | refine c_cut0 ?_ | refine c_ops ?_ | refine i_nil ?_ | refine e_seq ?_ | refine e_block ?_ | refine c_block ?_ | refine c_skip ?_ | refine c_ret ?_ | refine c_exit ?_ | refine e_exit rfl ?_ | refine i_s0 rfl ?_ | refine c_leaf ?_ | refine i_gt rfl ?_ | refine i_gf rfl ?_ | refine i_gd rfl ?_ | refine c_t rfl ?_ | refine c_f rfl ?_ | refine i_conv rfl (by simp only [InR, List.length_map]; omega) ?_ | refine i_add rfl rfl (by simp only [InR, List.length_map]; omega) ?_ | refine i_sub rfl rfl (by simp only [InR, List.length_map]; omega) ?_ | refine i_ixm rfl rfl (by assumption) ?_ | refine i_iai rfl rfl (by omega) (by assumption) rfl ?_ | refine i_iam rfl rfl (by assumption) rfl ?_ | refine i_tk rfl rfl (by omega) ?_ | refine i_stb rfl ?_ | refine i_alloc rfl ?_ | refine i_box rfl rfl ?_ | refine i_nv rfl ?_)
    refine c_for z.toNat (fun x => [(1, .bptr 320068 0), (6, .bptr 320388 0), (8, .int .i64 (sumL (m.sizes.take v))), (9, .int .i64 v), (10, .int .i64 x)]) (fun _ => [(320068, .box (mtV m)), (320388, .box (skV T))]) (fun _ => True) trivial ⟨by repeat (first | exact trivial | refine ⟨rfl, ?_⟩), by repeat (first | exact trivial | refine ⟨rfl, ?_⟩), rfl⟩ fun x hx1 _ => ?_
    repeat (first | refine i_len rfl ?_ | refine i_s rfl ?_ | refine i_lenm rfl rfl rfl ?_ | refine c_seq ?_ | refine c_cut0 ?_ | refine c_ops ?_ | refine i_nil ?_ | refine e_seq ?_ | refine e_block ?_ | refine c_block ?_ | refine c_skip ?_ | refine c_ret ?_ | refine c_exit ?_ | refine e_exit rfl ?_ | refine i_s0 rfl ?_ | refine c_leaf ?_ | refine i_gt rfl ?_ | refine i_gf rfl ?_ | refine i_gd rfl ?_ | refine c_t rfl ?_ | refine c_f rfl ?_ | refine i_conv rfl (by simp only [InR, List.length_map]; omega) ?_ | refine i_add rfl rfl (by simp only [InR, List.length_map]; omega) ?_ | refine i_sub rfl rfl (by simp only [InR, List.length_map]; omega) ?_ | refine i_ixm rfl rfl (by assumption) ?_ | refine i_iai rfl rfl (by omega) (by assumption) rfl ?_ | refine i_iam rfl rfl (by assumption) rfl ?_ | refine i_tk rfl rfl (by omega) ?_ | refine i_stb rfl ?_ | refine i_alloc rfl ?_ | refine i_box rfl rfl ?_ | refine i_nv rfl ?_)
    refine c_cond rfl (fun h => ?_) (fun h => ?_)
    · have hxl : (x : Int) < z := by simpa using h
      have hvx : VX m.sizes v x := ⟨z, hz, by omega, hxl⟩
      have hi := hTi v x y hvx hy
      have hg := hTg v x hvx
      have hH1 := f_R1_Has T.init (fv m.sizes v x) (by have := set_leM hsv hsv.init; omega)
      have hH2 := f_R1_Has T.goal (fv m.sizes v x) (by have := set_leM hsv hsv.goal; omega)
      have hA := f_L1_assigned m.goal v x ho.2.2.1
      rw [hi] at hH1
      rw [hg] at hH2
      clear h
      unfold fv at hH1 hH2
      repeat' (first | refine i_len rfl ?_ | refine i_s rfl ?_ | refine i_lenm rfl rfl rfl ?_ | refine c_seq ?_ | refine c_cut0 ?_ | refine c_ops ?_ | refine i_nil ?_ | refine e_seq ?_ | refine e_block ?_ | refine c_block ?_ | refine c_skip ?_ | refine c_ret ?_ | refine c_exit ?_ | refine e_exit rfl ?_ | refine i_s0 rfl ?_ | refine c_leaf ?_ | refine i_gt rfl ?_ | refine i_gf rfl ?_ | refine i_gd rfl ?_ | refine c_t rfl ?_ | refine c_f rfl ?_ | refine i_conv rfl (by simp only [InR, List.length_map]; omega) ?_ | refine i_add rfl rfl (by simp only [InR, List.length_map]; omega) ?_ | refine i_sub rfl rfl (by simp only [InR, List.length_map]; omega) ?_ | refine i_ixm rfl rfl (by assumption) ?_ | refine i_iai rfl rfl (by omega) (by assumption) rfl ?_ | refine i_iam rfl rfl (by assumption) rfl ?_ | refine i_tk rfl rfl (by omega) ?_ | refine i_stb rfl ?_ | refine i_alloc rfl ?_ | refine i_box rfl rfl ?_ | refine i_nv rfl ?_ | refine c_node ?_ ?_ | refine i_g rfl (fun h => ?_) (fun h => ?_) | refine c_cond rfl (fun h => ?_) (fun h => ?_) | refine i_f rfl rfl (hH1) rfl ?_ | refine i_f rfl rfl (hH2) rfl ?_ | refine i_f rfl rfl (hA) rfl ?_)
      all_goals first | (exfalso; clear hH1 hH2 hA hi hg hTi hTg hTo ho hb hv hsv; simp at *; done) | skip
      clear hH1 hH2 hA hi hg
      refine c_for m.ops.length (fun k => [(1, .bptr 320068 0), (6, .bptr 320388 0), (8, .int .i64 (sumL (m.sizes.take v))), (9, .int .i64 v), (10, .int .i64 x), (11, .int .i64 (sumL (m.sizes.take v) + x)), (12, .int .i64 k)]) (fun _ => [(320068, .box (mtV m)), (320388, .box (skV T))]) (fun _ => True) trivial ⟨by repeat (first | exact trivial | refine ⟨rfl, ?_⟩), by repeat (first | exact trivial | refine ⟨rfl, ?_⟩), rfl⟩ fun i hi1 _ => ?_
      repeat (first | refine i_len rfl ?_ | refine i_s rfl ?_ | refine i_lenm rfl rfl rfl ?_ | refine c_seq ?_ | refine c_cut0 ?_ | refine c_ops ?_ | refine i_nil ?_ | refine e_seq ?_ | refine e_block ?_ | refine c_block ?_ | refine c_skip ?_ | refine c_ret ?_ | refine c_exit ?_ | refine e_exit rfl ?_ | refine i_s0 rfl ?_ | refine c_leaf ?_ | refine i_gt rfl ?_ | refine i_gf rfl ?_ | refine i_gd rfl ?_ | refine c_t rfl ?_ | refine c_f rfl ?_ | refine i_conv rfl (by simp only [InR, List.length_map]; omega) ?_ | refine i_add rfl rfl (by simp only [InR, List.length_map]; omega) ?_ | refine i_sub rfl rfl (by simp only [InR, List.length_map]; omega) ?_ | refine i_ixm rfl rfl (by assumption) ?_ | refine i_iai rfl rfl (by omega) (by assumption) rfl ?_ | refine i_iam rfl rfl (by assumption) rfl ?_ | refine i_tk rfl rfl (by omega) ?_ | refine i_stb rfl ?_ | refine i_alloc rfl ?_ | refine i_box rfl rfl ?_ | refine i_nv rfl ?_)
      refine c_cond rfl (fun h => ?_) (fun h => ?_)
      · have hil2 : i < m.ops.length := by simpa using h
        obtain ⟨q, hq⟩ := get_some hil2
        obtain ⟨o, hoi, hoc, hof⟩ := hTo i q hq
        obtain ⟨e1, e2, e3⟩ := hof v x hvx
        have hso := hsv.op o (mem_get hoi)
        have hqo := ho.2.2.2.2 q (mem_get hq)
        have hol := hv.opl
        have hH1 := f_R1_Has o.pre (fv m.sizes v x) (by have := set_leM hsv hso.pre; omega)
        have hH2 := f_R1_Has o.add (fv m.sizes v x) (by have := set_leM hsv hso.add; omega)
        have hH3 := f_R1_Has o.del (fv m.sizes v x) (by have := set_leM hsv hso.del; omega)
        have hA1 := f_L1_assigned q.pre v x hqo.1
        have hA2 := f_L1_assigned q.post v x hqo.2
        have hS1 := f_L1_sets q.post v hqo.2
        rw [e1] at hH1
        rw [e2] at hH2
        rw [e3] at hH3
        unfold fv at hH1 hH2 hH3
        clear h hTo hof e1 e2 e3
        repeat' (first | refine i_len rfl ?_ | refine i_s rfl ?_ | refine i_lenm rfl rfl rfl ?_ | refine c_seq ?_ | refine c_cut0 ?_ | refine c_ops ?_ | refine i_nil ?_ | refine e_seq ?_ | refine e_block ?_ | refine c_block ?_ | refine c_skip ?_ | refine c_ret ?_ | refine c_exit ?_ | refine e_exit rfl ?_ | refine i_s0 rfl ?_ | refine c_leaf ?_ | refine i_gt rfl ?_ | refine i_gf rfl ?_ | refine i_gd rfl ?_ | refine c_t rfl ?_ | refine c_f rfl ?_ | refine i_conv rfl (by simp only [InR, List.length_map]; omega) ?_ | refine i_add rfl rfl (by simp only [InR, List.length_map]; omega) ?_ | refine i_sub rfl rfl (by simp only [InR, List.length_map]; omega) ?_ | refine i_ixm rfl rfl (by assumption) ?_ | refine i_iai rfl rfl (by omega) (by assumption) rfl ?_ | refine i_iam rfl rfl (by assumption) rfl ?_ | refine i_tk rfl rfl (by omega) ?_ | refine i_stb rfl ?_ | refine i_alloc rfl ?_ | refine i_box rfl rfl ?_ | refine i_nv rfl ?_ | refine c_node ?_ ?_ | refine i_g rfl (fun h => ?_) (fun h => ?_) | refine c_cond rfl (fun h => ?_) (fun h => ?_) | refine i_f rfl rfl (hH1) rfl ?_ | refine i_f rfl rfl (hH2) rfl ?_ | refine i_f rfl rfl (hH3) rfl ?_ | refine i_f rfl rfl (hA1) rfl ?_ | refine i_f rfl rfl (hA2) rfl ?_ | refine i_f rfl rfl (hS1) rfl ?_)
        all_goals clear hH1 hH2 hH3 hA1 hA2 hS1 hTi hTg hV hso hqo
        all_goals first
          | exact e_for hil2 trivial ⟨by repeat (first | exact trivial | refine ⟨rfl, ?_⟩), by repeat (first | exact trivial | refine ⟨rfl, ?_⟩), rfl⟩
          | (exfalso; clear ho hb hv hsv; simp_all; done)
      · have hge : ¬ i < m.ops.length := by simpa using h
        clear h
        have hxn : x < z.toNat := by omega
        repeat' (first | refine i_len rfl ?_ | refine i_s rfl ?_ | refine i_lenm rfl rfl rfl ?_ | refine c_seq ?_ | refine c_cut0 ?_ | refine c_ops ?_ | refine i_nil ?_ | refine e_seq ?_ | refine e_block ?_ | refine c_block ?_ | refine c_skip ?_ | refine c_ret ?_ | refine c_exit ?_ | refine e_exit rfl ?_ | refine i_s0 rfl ?_ | refine c_leaf ?_ | refine i_gt rfl ?_ | refine i_gf rfl ?_ | refine i_gd rfl ?_ | refine c_t rfl ?_ | refine c_f rfl ?_ | refine i_conv rfl (by simp only [InR, List.length_map]; omega) ?_ | refine i_add rfl rfl (by simp only [InR, List.length_map]; omega) ?_ | refine i_sub rfl rfl (by simp only [InR, List.length_map]; omega) ?_ | refine i_ixm rfl rfl (by assumption) ?_ | refine i_iai rfl rfl (by omega) (by assumption) rfl ?_ | refine i_iam rfl rfl (by assumption) rfl ?_ | refine i_tk rfl rfl (by omega) ?_ | refine i_stb rfl ?_ | refine i_alloc rfl ?_ | refine i_box rfl rfl ?_ | refine i_nv rfl ?_ | refine c_node ?_ ?_ | refine i_g rfl (fun h => ?_) (fun h => ?_) | refine c_cond rfl (fun h => ?_) (fun h => ?_))
        exact e_for hxn trivial ⟨by repeat (first | exact trivial | refine ⟨rfl, ?_⟩), by repeat (first | exact trivial | refine ⟨rfl, ?_⟩), rfl⟩
    · have hge : ¬ (x : Int) < z := by simpa using h
      clear h
      repeat (first | refine i_len rfl ?_ | refine i_s rfl ?_ | refine i_lenm rfl rfl rfl ?_ | refine c_seq ?_ | refine c_cut0 ?_ | refine c_ops ?_ | refine i_nil ?_ | refine e_seq ?_ | refine e_block ?_ | refine c_block ?_ | refine c_skip ?_ | refine c_ret ?_ | refine c_exit ?_ | refine e_exit rfl ?_ | refine i_s0 rfl ?_ | refine c_leaf ?_ | refine i_gt rfl ?_ | refine i_gf rfl ?_ | refine i_gd rfl ?_ | refine c_t rfl ?_ | refine c_f rfl ?_ | refine i_conv rfl (by simp only [InR, List.length_map]; omega) ?_ | refine i_add rfl rfl (by simp only [InR, List.length_map]; omega) ?_ | refine i_sub rfl rfl (by simp only [InR, List.length_map]; omega) ?_ | refine i_ixm rfl rfl (by assumption) ?_ | refine i_iai rfl rfl (by omega) (by assumption) rfl ?_ | refine i_iam rfl rfl (by assumption) rfl ?_ | refine i_tk rfl rfl (by omega) ?_ | refine i_stb rfl ?_ | refine i_alloc rfl ?_ | refine i_box rfl rfl ?_ | refine i_nv rfl ?_)
      refine e_for hvl trivial ⟨⟨rfl, rfl, ?_, rfl, trivial⟩, ⟨rfl, rfl, trivial⟩, rfl⟩
      rw [e]; rfl
  · have hge : ¬ v < m.sizes.length := by simpa using h
    clear h
    repeat' (first | refine i_len rfl ?_ | refine i_s rfl ?_ | refine i_lenm rfl rfl rfl ?_ | refine c_seq ?_ | refine c_cut0 ?_ | refine c_ops ?_ | refine i_nil ?_ | refine e_seq ?_ | refine e_block ?_ | refine c_block ?_ | refine c_skip ?_ | refine c_ret ?_ | refine c_exit ?_ | refine e_exit rfl ?_ | refine i_s0 rfl ?_ | refine c_leaf ?_ | refine i_gt rfl ?_ | refine i_gf rfl ?_ | refine i_gd rfl ?_ | refine c_t rfl ?_ | refine c_f rfl ?_ | refine i_conv rfl (by simp only [InR, List.length_map]; omega) ?_ | refine i_add rfl rfl (by simp only [InR, List.length_map]; omega) ?_ | refine i_sub rfl rfl (by simp only [InR, List.length_map]; omega) ?_ | refine i_ixm rfl rfl (by assumption) ?_ | refine i_iai rfl rfl (by omega) (by assumption) rfl ?_ | refine i_iam rfl rfl (by assumption) rfl ?_ | refine i_tk rfl rfl (by omega) ?_ | refine i_stb rfl ?_ | refine i_alloc rfl ?_ | refine i_box rfl rfl ?_ | refine i_nv rfl ?_ | refine c_node ?_ ?_ | refine i_g rfl (fun h => ?_) (fun h => ?_) | refine c_cond rfl (fun h => ?_) (fun h => ?_) | refine i_f rfl rfl (hV) rfl ?_)
    exact e_ret ⟨rfl, _, rfl, rfl⟩
theorem f_L1_MultiStripsMatchesSpec (m : MTask) (ho : MOk m) : Fc Go.Proofs.Try.prog 5 [mtV m] (.bool true) := by
  by_cases hb : mFault m = okF
  · exact f_L1_MultiStripsMatchesSpec_ok m ho hb
  · exact f_L1_MultiStripsMatchesSpec_bad m ho hb
end Hm
end
