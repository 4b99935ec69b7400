/- Part Y1HA of the proof. -/
import Derived.Test.YtcafpbooikaahaaGreatYHA
import Derived.Test.YtcafpbooikaahaaGreatY1PA
set_option linter.unusedVariables false
set_option linter.unusedSimpArgs false
section
namespace Hm
open Go
set_option maxRecDepth 100000
set_option maxHeartbeats 4000000
def c_L1_GroundAtomsMatchSpec : Cmd :=
 (qS [qx 1 192070 6 0, qb 2 false]
 (qS [qL 6 6 1, qk 7 8 [6], qq 3 (.alloc 192194 (.agg [.int .i64 0, .int .i64 0])), qs 2 3 7]
 (qS [qL 9 6 1, qk 10 9 [9], qm 8 10, qq 11 (.extract (.t 8) 0), qq 12 (.extract (.t 8) 1), qq 5 (.alloc 192322 (.agg [.int .i64 0, .int .i64 0])), qm 4 11, qs 2 5 12]
 (.seq (.ops [qk 13 10 [], qm 14 13, qg 15 14 true (.load true 2 (.t 5)), qg 16 14 true (.load true 2 (.t 3)), qg 17 14 true (.bin .eql true [.i, .i] (.t 15) (.t 16)), qq 18 (.pick (.t 14) (.t 17) (.c (.bool false))), qm 19 18, qg 20 19 true (.faddr 0 (.t 3)), qg 21 19 true (.load false 1 (.t 20)), qg 22 19 true (.bin .neq false [.i] (.t 21) (.c (.int .i64 0))), qg 23 19 true (.mov (.t 22)), qg 24 23 true (.mov (.t 4)), qg 25 23 true (.len false (.t 24)), qg 26 23 true (.bin .eql false [.i] (.t 25) (.c (.int .i64 0))), qg 27 19 true (.pick (.t 23) (.t 26) (.c (.bool false))), qg 28 19 true (.mov (.t 27)), qg 29 28 false (.faddr 0 (.t 3)), qg 30 28 false (.load false 1 (.t 29)), qg 31 28 false (.bin .eql false [.i] (.t 30) (.c (.int .i64 0))), qg 32 28 false (.mov (.t 31)), qg 33 32 true (.mov (.t 4)), qg 34 32 true (.load true 6 (.t 1)), qg 35 32 true (.call .f (.c (.fn 12 [])) [.t 34]), qg 36 32 true (.call .f (.c (.fn 11 [])) [.t 33, .t 35]), qg 37 28 false (.pick (.t 32) (.t 36) (.c (.bool false))), qg 38 19 true (.pick (.t 28) (.c (.bool true)) (.t 37)), qq 39 (.pick (.t 19) (.t 38) (.c (.bool false))), qm 2 39]) .ret))))
def r_L1_GroundAtomsMatchSpec : List RVar := [.tmp 2]
def n_L1_GroundAtomsMatchSpec : Nat := 40
theorem k_L1_GroundAtomsMatchSpec : chkFn Go.Proofs.Tryz.prog 3 n_L1_GroundAtomsMatchSpec r_L1_GroundAtomsMatchSpec c_L1_GroundAtomsMatchSpec = true := by kernel_rfl
theorem f_L1_GroundAtomsMatchSpec (d : Dom) (ho : DoOk d) : Fc Go.Proofs.Tryz.prog 3 [domV d] (.bool true) := by
  have hW := f_R2_AtomsFault d ho
  have hA := f_Atoms d ho
  have hG := f_L1_grounds
  by_cases h : atF d = okF
  · obtain ⟨h1, h2⟩ := atF_dom h
    have hd := domV_of h1
    rw [(atF_ok h1 h2).2] at hA
    rw [h] at hW hA
    have hAll := f_R2_AllAtoms d hd
    have hS := f_R1_SameAtoms (allAt d) (allAt d) (by omega) (by omega) (fun a ha => allAt_ok hd ha) (fun a ha => allAt_ok hd ha)
    rw [decide_eq_true rfl] at hS
    refine Fn.step mixed k_L1_GroundAtomsMatchSpec ?_
    repeat' (first | refine i_s rfl ?_ | refine sw ?_ | refine i_gt rfl ?_ | refine i_gf rfl ?_ | refine i_stb rfl ?_ | refine i_alloc rfl ?_ | refine i_box rfl rfl ?_ | refine sf rfl rfl hW ?_ | refine sf rfl rfl hA ?_ | refine sf rfl rfl hG ?_ | refine sf rfl rfl hAll ?_ | refine sf rfl rfl hS ?_ | fail)
    all_goals first
      | exact e_ret ⟨rfl, _, rfl, rfl⟩
      | (exfalso; clear hW hA hG hAll hS; simp_all [okF]; done)
      | skip
  · have hc := atF_code h
    have e : atR d = [] := by unfold atR; rw [if_neg h]
    rw [e] at hA
    generalize atF d = f at *
    refine Fn.step mixed k_L1_GroundAtomsMatchSpec ?_
    repeat' (first | refine i_len rfl ?_ | refine i_s rfl ?_ | refine sw ?_ | refine i_gt rfl ?_ | refine i_gf rfl ?_ | refine i_gd rfl ?_ | refine i_stb rfl ?_ | refine i_alloc rfl ?_ | refine i_box rfl rfl ?_ | refine i_g rfl (fun h => ?_) (fun h => ?_) | refine sf rfl rfl hW ?_ | refine sf rfl rfl hA ?_ | refine sf rfl rfl hG ?_ | fail)
    all_goals first
      | exact e_ret ⟨rfl, _, rfl, rfl⟩
      | (exfalso; clear hW hA hG; simp_all; done)
      | skip
end Hm
end
