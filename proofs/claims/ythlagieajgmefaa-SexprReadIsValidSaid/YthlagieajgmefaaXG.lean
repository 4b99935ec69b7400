/- The laws on reading what was printed, and on what is read. -/
import Derived.Test.YthlagieajgmefaaXE
import Derived.Test.YthlagieajgmefaaXF
section
/- The laws on reading what was printed, and on what is read. -/
namespace Hm
open Go
set_option maxRecDepth 100000
set_option maxHeartbeats 4000000
set_option linter.unusedSimpArgs false
set_option linter.unusedVariables false
def c_L1_SexprTextsRoundTrip : Cmd :=
  (.seq
   (.ops [
   .op (some 2) none (.mov (.c (.bool false)))])
   (.cut
   (.seq
   (.ops [
   .op (some 8) none (.mov (.t 0)),
   .op (some 9) none (.call .f (.c (.fn 10 [])) [.t 8]),
   .op (some 7) none (.mov (.t 9)),
   .op (some 10) none (.extract (.t 7) 0),
   .op (some 11) none (.extract (.t 7) 1),
   .op (some 4) none (.alloc 320258 (.agg [.int .i64 (0), .int .i64 (0)])),
   .op (some 3) none (.mov (.t 10)),
   .op none none (.store 2 (.t 4) (.t 11))])
   (.cut
   (.seq
   (.seq
   (.ops [
   .op (some 12) none (.call .f (.c (.fn 8 [])) []),
   .op (some 13) none (.not (.t 12)),
   .op (some 14) none (.mov (.t 13)),
   .op (some 15) (some (14, false)) (.faddr 0 (.t 4)),
   .op (some 16) (some (14, false)) (.load false 1 (.t 15)),
   .op (some 17) (some (14, false)) (.bin .neq false [.i] (.t 16) (.c (.int .i64 (0)))),
   .op (some 18) none (.pick (.t 14) (.c (.bool true)) (.t 17)),
   .op (some 19) none (.mov (.t 18)),
   .op (some 20) (some (19, false)) (.mov (.t 3)),
   .op (some 21) (some (19, false)) (.len true (.t 20)),
   .op (some 22) (some (19, false)) (.bin .gtr false [] (.t 21) (.c (.int .i64 (4096)))),
   .op (some 23) none (.pick (.t 19) (.c (.bool true)) (.t 22))])
   (.cut
   (.cond (.t 23)
   (.seq
   (.ops [
   .op (some 24) none (.call .f (.c (.fn 8 [])) []),
   .op (some 25) none (.mov (.t 24)),
   .op (some 26) (some (25, true)) (.faddr 0 (.t 4)),
   .op (some 27) (some (25, true)) (.load false 1 (.t 26)),
   .op (some 28) (some (25, true)) (.bin .eql false [.i] (.t 27) (.c (.int .i64 (0)))),
   .op (some 29) (some (25, true)) (.mov (.t 28)),
   .op (some 30) (some (29, false)) (.mov (.t 3)),
   .op (some 31) (some (29, false)) (.bin .eql false [.s] (.t 30) (.c (.str []))),
   .op (some 32) (some (25, true)) (.pick (.t 29) (.c (.bool true)) (.t 31)),
   .op (some 33) none (.pick (.t 25) (.t 32) (.c (.bool false))),
   .op (some 2) none (.mov (.t 33))])
   .ret)
   .skip)))
   (.cut
   (.seq
   (.ops [
   .op (some 35) none (.mov (.t 3)),
   .op (some 36) none (.call .f (.c (.fn 13 [])) [.t 35]),
   .op (some 34) none (.mov (.t 36)),
   .op (some 37) none (.extract (.t 34) 0),
   .op (some 38) none (.extract (.t 34) 1),
   .op (some 6) none (.alloc 320386 (.agg [.int .i64 (0), .int .i64 (0)])),
   .op (some 5) none (.mov (.t 37)),
   .op none none (.store 2 (.t 6) (.t 38))])
   (.cut
   (.seq
   (.ops [
   .op (some 39) none (.faddr 0 (.t 6)),
   .op (some 40) none (.load false 1 (.t 39)),
   .op (some 41) none (.bin .eql false [.i] (.t 40) (.c (.int .i64 (0)))),
   .op (some 42) none (.mov (.t 41)),
   .op (some 43) (some (42, true)) (.mov (.t 0)),
   .op (some 44) (some (42, true)) (.mov (.t 5)),
   .op (some 45) (some (42, true)) (.call .f (.c (.fn 15 [])) [.t 43, .t 44]),
   .op (some 46) none (.pick (.t 42) (.t 45) (.c (.bool false))),
   .op (some 2) none (.mov (.t 46))])
   .ret)))))))))
def r_L1_SexprTextsRoundTrip : List RVar := [.tmp 2]
def n_L1_SexprTextsRoundTrip : Nat := 47
theorem k_L1_SexprTextsRoundTrip : chkFn Go.Proofs.Try.prog 5 n_L1_SexprTextsRoundTrip r_L1_SexprTextsRoundTrip c_L1_SexprTextsRoundTrip = true := by kernel_rfl
theorem f_L1_SexprTextsRoundTrip (l : List Sx) (ho : SxsOk l) : Fc Go.Proofs.Try.prog 5 [.sl .p (l.map sxV)] (.bool true) := by
  have hT := f_L1_reads
  by_cases hb : sxFault l = okF
  · have hk := sxOk_of hb
    have hl := hk.len
    have hP := f_sexpr_Print_ok l ho hk
    have htl := tx_len (l.length - 1) l.length hk.node (by omega)
    have hsz := sz_leC (l.length - 1) l.length hk.node.chs (by omega)
    have hol := ho.len
    by_cases h4 : (tx l (l.length - 1)).length ≤ 4096
    · have hR := f_sexpr_Read (tx l (l.length - 1)) (by omega)
      obtain ⟨r1, r2⟩ := read_tx hk h4
      rw [r1, r2] at hR
      have hS := f_R1_SameSexpr l l ho
      rw [decide_eq_true rfl] at hS
      clear hk hb r1 r2
      generalize tx l (l.length - 1) = s at *
      refine Fn.step mixed k_L1_SexprTextsRoundTrip ?_
      repeat' (first | refine i_len rfl ?_ | refine i_s rfl ?_ | refine i_lenm rfl rfl rfl ?_ | refine c_seq ?_ | refine c_cut0 ?_ | refine c_ops ?_ | refine i_nil ?_ | refine e_seq ?_ | refine e_block ?_ | refine c_block ?_ | refine c_skip ?_ | refine c_ret ?_ | refine c_exit ?_ | refine e_exit rfl ?_ | refine i_s0 rfl ?_ | refine c_leaf ?_ | refine i_gt rfl ?_ | refine i_gf rfl ?_ | refine i_gd rfl ?_ | refine c_t rfl ?_ | refine c_f rfl ?_ | refine i_conv rfl (by simp only [InR, List.length_map]; omega) ?_ | refine i_add rfl rfl (by simp only [InR, List.length_map]; omega) ?_ | refine i_sub rfl rfl (by simp only [InR, List.length_map]; omega) ?_ | refine i_ixm rfl rfl (by assumption) ?_ | refine i_iai rfl rfl (by omega) (by assumption) rfl ?_ | refine i_iam rfl rfl (by assumption) rfl ?_ | refine i_tk rfl rfl (by omega) ?_ | refine i_stb rfl ?_ | refine i_alloc rfl ?_ | refine i_box rfl rfl ?_ | refine i_nv rfl ?_ | refine c_node ?_ ?_ | refine i_g rfl (fun h => ?_) (fun h => ?_) | refine c_cond rfl (fun h => ?_) (fun h => ?_) | refine i_f rfl rfl (hT) rfl ?_ | refine i_f rfl rfl (hP) rfl ?_ | refine i_f rfl rfl (hR) rfl ?_ | refine i_f rfl rfl (hS) rfl ?_)
      all_goals clear hT hR hS hP ho
      all_goals first
        | (refine e_ret ⟨rfl, _, rfl, congrArg V.bool ?_⟩; first | rfl | (simp; done))
        | (exfalso; simp at *; omega)
        | (exfalso; simp_all; done)
    · clear hk hb
      generalize tx l (l.length - 1) = s at *
      refine Fn.step mixed k_L1_SexprTextsRoundTrip ?_
      repeat' (first | refine i_len rfl ?_ | refine i_s rfl ?_ | refine i_lenm rfl rfl rfl ?_ | refine c_seq ?_ | refine c_cut0 ?_ | refine c_ops ?_ | refine i_nil ?_ | refine e_seq ?_ | refine e_block ?_ | refine c_block ?_ | refine c_skip ?_ | refine c_ret ?_ | refine c_exit ?_ | refine e_exit rfl ?_ | refine i_s0 rfl ?_ | refine c_leaf ?_ | refine i_gt rfl ?_ | refine i_gf rfl ?_ | refine i_gd rfl ?_ | refine c_t rfl ?_ | refine c_f rfl ?_ | refine i_conv rfl (by simp only [InR, List.length_map]; omega) ?_ | refine i_add rfl rfl (by simp only [InR, List.length_map]; omega) ?_ | refine i_sub rfl rfl (by simp only [InR, List.length_map]; omega) ?_ | refine i_ixm rfl rfl (by assumption) ?_ | refine i_iai rfl rfl (by omega) (by assumption) rfl ?_ | refine i_iam rfl rfl (by assumption) rfl ?_ | refine i_tk rfl rfl (by omega) ?_ | refine i_stb rfl ?_ | refine i_alloc rfl ?_ | refine i_box rfl rfl ?_ | refine i_nv rfl ?_ | refine c_node ?_ ?_ | refine i_g rfl (fun h => ?_) (fun h => ?_) | refine c_cond rfl (fun h => ?_) (fun h => ?_) | refine i_f rfl rfl (hT) rfl ?_ | refine i_f rfl rfl (hP) rfl ?_)
      all_goals clear hT hP ho
      all_goals first
        | (refine e_ret ⟨rfl, _, rfl, congrArg V.bool ?_⟩; first | rfl | (simp; done))
        | (exfalso; simp at *; omega)
        | (exfalso; simp_all; done)
  · have hP := f_sexpr_Print_bad l ho hb
    have hne : (sxFault l).code ≠ 0 := fun h => hb ((sxFault_code l).1 h)
    clear hb
    generalize sxFault l = F at *
    refine Fn.step mixed k_L1_SexprTextsRoundTrip ?_
    repeat' (first | refine i_len rfl ?_ | refine i_s rfl ?_ | refine i_lenm rfl rfl rfl ?_ | refine c_seq ?_ | refine c_cut0 ?_ | refine c_ops ?_ | refine i_nil ?_ | refine e_seq ?_ | refine e_block ?_ | refine c_block ?_ | refine c_skip ?_ | refine c_ret ?_ | refine c_exit ?_ | refine e_exit rfl ?_ | refine i_s0 rfl ?_ | refine c_leaf ?_ | refine i_gt rfl ?_ | refine i_gf rfl ?_ | refine i_gd rfl ?_ | refine c_t rfl ?_ | refine c_f rfl ?_ | refine i_conv rfl (by simp only [InR, List.length_map]; omega) ?_ | refine i_add rfl rfl (by simp only [InR, List.length_map]; omega) ?_ | refine i_sub rfl rfl (by simp only [InR, List.length_map]; omega) ?_ | refine i_ixm rfl rfl (by assumption) ?_ | refine i_iai rfl rfl (by omega) (by assumption) rfl ?_ | refine i_iam rfl rfl (by assumption) rfl ?_ | refine i_tk rfl rfl (by omega) ?_ | refine i_stb rfl ?_ | refine i_alloc rfl ?_ | refine i_box rfl rfl ?_ | refine i_nv rfl ?_ | refine c_node ?_ ?_ | refine i_g rfl (fun h => ?_) (fun h => ?_) | refine c_cond rfl (fun h => ?_) (fun h => ?_) | refine i_f rfl rfl (hT) rfl ?_ | refine i_f rfl rfl (hP) rfl ?_)
    all_goals clear hT hP ho
    all_goals first
      | (refine e_ret ⟨rfl, _, rfl, congrArg V.bool ?_⟩; first | rfl | (simp; done))
      | (exfalso; simp at *; done)
      | (exfalso; simp_all; done)
def c_L1_SexprReadIsValid : Cmd :=
  (.seq
   (.ops [
   .op (some 2) none (.mov (.c (.bool false)))])
   (.cut
   (.seq
   (.ops [
   .op (some 8) none (.mov (.t 0)),
   .op (some 9) none (.call .f (.c (.fn 13 [])) [.t 8]),
   .op (some 7) none (.mov (.t 9)),
   .op (some 10) none (.extract (.t 7) 0),
   .op (some 11) none (.extract (.t 7) 1),
   .op (some 4) none (.alloc 384258 (.agg [.int .i64 (0), .int .i64 (0)])),
   .op (some 3) none (.mov (.t 10)),
   .op none none (.store 2 (.t 4) (.t 11))])
   (.cut
   (.seq
   (.seq
   (.ops [
   .op (some 12) none (.call .f (.c (.fn 8 [])) []),
   .op (some 13) none (.not (.t 12)),
   .op (some 14) none (.mov (.t 13)),
   .op (some 15) (some (14, false)) (.faddr 0 (.t 4)),
   .op (some 16) (some (14, false)) (.load false 1 (.t 15)),
   .op (some 17) (some (14, false)) (.bin .neq false [.i] (.t 16) (.c (.int .i64 (0)))),
   .op (some 18) none (.pick (.t 14) (.c (.bool true)) (.t 17))])
   (.cut
   (.cond (.t 18)
   (.seq
   (.ops [
   .op (some 19) none (.call .f (.c (.fn 8 [])) []),
   .op (some 20) none (.mov (.t 19)),
   .op (some 21) (some (20, true)) (.mov (.t 3)),
   .op (some 22) (some (20, true)) (.len false (.t 21)),
   .op (some 23) (some (20, true)) (.bin .eql false [.i] (.t 22) (.c (.int .i64 (0)))),
   .op (some 24) none (.pick (.t 20) (.t 23) (.c (.bool false))),
   .op (some 2) none (.mov (.t 24))])
   .ret)
   .skip)))
   (.cut
   (.seq
   (.ops [
   .op (some 26) none (.mov (.t 3)),
   .op (some 27) none (.call .f (.c (.fn 10 [])) [.t 26]),
   .op (some 25) none (.mov (.t 27)),
   .op (some 28) none (.extract (.t 25) 0),
   .op (some 29) none (.extract (.t 25) 1),
   .op (some 6) none (.alloc 384386 (.agg [.int .i64 (0), .int .i64 (0)])),
   .op (some 5) none (.mov (.t 28)),
   .op none none (.store 2 (.t 6) (.t 29))])
   (.cut
   (.seq
   (.ops [
   .op (some 30) none (.mov (.t 3)),
   .op (some 31) none (.call .f (.c (.fn 11 [])) [.t 30]),
   .op (some 32) none (.build [.int .i64 (0), .int .i64 (0)] []),
   .op (some 33) none (.bin .eql true [.i, .i] (.t 31) (.t 32)),
   .op (some 34) none (.mov (.t 33)),
   .op (some 35) (some (34, true)) (.faddr 0 (.t 6)),
   .op (some 36) (some (34, true)) (.load false 1 (.t 35)),
   .op (some 37) (some (34, true)) (.bin .eql false [.i] (.t 36) (.c (.int .i64 (0)))),
   .op (some 38) none (.pick (.t 34) (.t 37) (.c (.bool false))),
   .op (some 39) none (.mov (.t 38)),
   .op (some 40) (some (39, true)) (.mov (.t 5)),
   .op (some 41) (some (39, true)) (.len true (.t 40)),
   .op (some 42) (some (39, true)) (.mov (.t 0)),
   .op (some 43) (some (39, true)) (.len true (.t 42)),
   .op (some 44) (some (39, true)) (.bin .mul false [] (.c (.int .i64 (2))) (.t 43)),
   .op (some 45) (some (39, true)) (.bin .leq false [] (.t 41) (.t 44)),
   .op (some 46) none (.pick (.t 39) (.t 45) (.c (.bool false))),
   .op (some 2) none (.mov (.t 46))])
   .ret)))))))))
def r_L1_SexprReadIsValid : List RVar := [.tmp 2]
def n_L1_SexprReadIsValid : Nat := 47
theorem k_L1_SexprReadIsValid : chkFn Go.Proofs.Try.prog 6 n_L1_SexprReadIsValid r_L1_SexprReadIsValid c_L1_SexprReadIsValid = true := by kernel_rfl
theorem f_L1_SexprReadIsValid (t : List UInt8) (ht : t.length ≤ 140737488351232) : Fc Go.Proofs.Try.prog 6 [.str t] (.bool true) := by
  have hT := f_L1_reads
  have hR := f_sexpr_Read t (by omega)
  by_cases hb : readF t = okF
  · obtain ⟨hk, h2⟩ := read_valid hb
    have ho := hk.mem
    have hl := hk.len
    have hV := f_sexpr_Validate (readL t) ho
    have hP := f_sexpr_Print_ok (readL t) ho hk
    rw [sxOk_to hk] at hV
    rw [hb] at hR
    clear hk hb
    generalize readL t = l at *
    generalize tx l (l.length - 1) = s at *
    refine Fn.step mixed k_L1_SexprReadIsValid ?_
    repeat' (first | refine i_len rfl ?_ | refine i_s rfl ?_ | refine i_lenm rfl rfl rfl ?_ | refine c_seq ?_ | refine c_cut0 ?_ | refine c_ops ?_ | refine i_nil ?_ | refine e_seq ?_ | refine e_block ?_ | refine c_block ?_ | refine c_skip ?_ | refine c_ret ?_ | refine c_exit ?_ | refine e_exit rfl ?_ | refine i_s0 rfl ?_ | refine c_leaf ?_ | refine i_gt rfl ?_ | refine i_gf rfl ?_ | refine i_gd rfl ?_ | refine c_t rfl ?_ | refine c_f rfl ?_ | refine i_conv rfl (by simp only [InR, List.length_map]; omega) ?_ | refine i_add rfl rfl (by simp only [InR, List.length_map]; omega) ?_ | refine i_sub rfl rfl (by simp only [InR, List.length_map]; omega) ?_ | refine i_ixm rfl rfl (by assumption) ?_ | refine i_iai rfl rfl (by omega) (by assumption) rfl ?_ | refine i_iam rfl rfl (by assumption) rfl ?_ | refine i_tk rfl rfl (by omega) ?_ | refine i_stb rfl ?_ | refine i_alloc rfl ?_ | refine i_box rfl rfl ?_ | refine i_nv rfl ?_ | refine c_node ?_ ?_ | refine i_g rfl (fun h => ?_) (fun h => ?_) | refine c_cond rfl (fun h => ?_) (fun h => ?_) | refine i_f rfl rfl (hT) rfl ?_ | refine i_f rfl rfl (hP) rfl ?_ | refine i_f rfl rfl (hR) rfl ?_ | refine i_f rfl rfl (hV) rfl ?_ | refine i_mul rfl rfl (by simp only [InR]; omega) ?_)
    all_goals clear hT hR hV hP ho
    all_goals first
      | (refine e_ret ⟨rfl, _, rfl, congrArg V.bool ?_⟩; first | rfl | (simp; done) | (simp; omega))
      | (exfalso; simp at *; omega)
      | (exfalso; simp_all; done)
  · have hL : readL t = [] := by unfold readL; rw [if_neg hb]
    have hne : (readF t).code ≠ 0 := fun h => hb ((readF_code t).1 h)
    rw [hL] at hR
    clear hb hL
    generalize readF t = F at *
    refine Fn.step mixed k_L1_SexprReadIsValid ?_
    repeat' (first | refine i_len rfl ?_ | refine i_s rfl ?_ | refine i_lenm rfl rfl rfl ?_ | refine c_seq ?_ | refine c_cut0 ?_ | refine c_ops ?_ | refine i_nil ?_ | refine e_seq ?_ | refine e_block ?_ | refine c_block ?_ | refine c_skip ?_ | refine c_ret ?_ | refine c_exit ?_ | refine e_exit rfl ?_ | refine i_s0 rfl ?_ | refine c_leaf ?_ | refine i_gt rfl ?_ | refine i_gf rfl ?_ | refine i_gd rfl ?_ | refine c_t rfl ?_ | refine c_f rfl ?_ | refine i_conv rfl (by simp only [InR, List.length_map]; omega) ?_ | refine i_add rfl rfl (by simp only [InR, List.length_map]; omega) ?_ | refine i_sub rfl rfl (by simp only [InR, List.length_map]; omega) ?_ | refine i_ixm rfl rfl (by assumption) ?_ | refine i_iai rfl rfl (by omega) (by assumption) rfl ?_ | refine i_iam rfl rfl (by assumption) rfl ?_ | refine i_tk rfl rfl (by omega) ?_ | refine i_stb rfl ?_ | refine i_alloc rfl ?_ | refine i_box rfl rfl ?_ | refine i_nv rfl ?_ | refine c_node ?_ ?_ | refine i_g rfl (fun h => ?_) (fun h => ?_) | refine c_cond rfl (fun h => ?_) (fun h => ?_) | refine i_f rfl rfl (hT) rfl ?_ | refine i_f rfl rfl (hR) rfl ?_)
    all_goals clear hT hR
    all_goals first
      | (refine e_ret ⟨rfl, _, rfl, congrArg V.bool ?_⟩; first | rfl | (simp; done) | (simp; omega))
      | (exfalso; simp at *; omega)
      | (exfalso; simp_all; done)
end Hm
end
