/- Part K2HA of the proof. -/
import Derived.Test.YtmninopppdnhoaaGreatKHA
import Derived.Test.YtmninopppdnhoaaGreatK2PA
set_option linter.unusedVariables false
set_option linter.unusedSimpArgs false
section
namespace Hm
open Go
set_option maxRecDepth 100000
set_option maxHeartbeats 4000000
def c_L1_ConditionNegateMatchesSpec : Cmd :=
 (qS [qx 2 256134 6 0, qx 3 256194 2 1, qb 4 false]
 (qT (qS [qk 9 9 [], qq 10 (.not (.t 9))]
 (.cond (.t 10) (.seq (.ops [qb 4 false]) .ret) .skip))
 (qS [qL 11 6 2, qL 12 2 3, qk 13 10 [11, 12], qq 5 (.alloc 256322 (.agg [.int .i64 0, .int .i64 0])), qs 2 5 13]
 (qS [qq 6 (.alloc 256386 (.agg [.sl .nil [], .sl .nil []]))]
 (qT (qS [qf 14 0 5, ql 15 1 14, qv 16 .eql [.i] 15 0]
 (.cond (.t 16) (.ops [qL 17 2 3, qk 18 16 [17], qs 2 6 18]) .skip))
 (qT (qS [qf 19 1 6, ql 20 1 19, qn 21 20, qv 22 .gtr [] 21 30]
 (.cond (.t 22) (qS [qq 23 (.build [.sl .nil [], .sl .nil []] []), qs 2 6 23]
 (.ops [qq 24 (.call .f (.c (.fn 17 [])) [.c (.int .i64 10), .c (.int .i64 (-13))]), qs 2 5 24])) .skip))
 (qS [qL 26 6 2, qL 27 2 3, qk 28 18 [26, 27], qm 25 28, qq 29 (.extract (.t 25) 0), qq 30 (.extract (.t 25) 1), qq 7 (.alloc 256450 (.agg [.sl .nil [], .sl .nil []])), qq 8 (.alloc 256514 (.agg [.int .i64 0, .int .i64 0])), qs 2 7 29, qs 2 8 30]
 (.seq (.ops [qL 31 2 8, qL 32 2 5, qq 33 (.bin .eql true [.i, .i] (.t 31) (.t 32)), qm 34 33, qg 35 34 true (.load true 2 (.t 7)), qg 36 34 true (.load true 2 (.t 6)), qg 37 34 true (.call .f (.c (.fn 19 [])) [.t 35, .t 36]), qq 38 (.pick (.t 34) (.t 37) (.c (.bool false))), qm 4 38]) .ret))))))))
def r_L1_ConditionNegateMatchesSpec : List RVar := [.tmp 4]
def n_L1_ConditionNegateMatchesSpec : Nat := 39
theorem k_L1_ConditionNegateMatchesSpec : chkFn Go.Proofs.Tryz.prog 4 n_L1_ConditionNegateMatchesSpec r_L1_ConditionNegateMatchesSpec c_L1_ConditionNegateMatchesSpec = true := by kernel_rfl
theorem f_L1_ConditionNegateMatchesSpec (d : Dom) (hdo : DoOk d) (c : Cnd) (ho : CndOk c) : Fc Go.Proofs.Tryz.prog 4 [domV d, cndV c] (.bool true) := by
  have hLc := f_L1_conditions
  have hF := f_R2_ConditionFault d hdo c ho
  have hN := f_condition_Negate d hdo c ho
  by_cases t1 : condFault d c = okF
  · have hfe : negFault d c = if (negC c).nodes.length > 30 then ⟨10, -13⟩ else okF := by unfold negFault; rw [if_neg (by simp [t1])]
    rw [t1] at hF
    have hcv := cndV_of t1
    have hR := f_R2_Negated d c ho hcv
    have hgl := ng_len1 hcv.root 0 true
    have h30 := hcv.len
    have hpos := hcv.pos
    have hnn : (negC c).nodes.length ≤ 1000 := by
      have : (negC c).nodes = ng c.nodes 0 (c.nodes.length - 1) true := rfl
      rw [this]
      omega
    have hct := ho.types
    have hAt := f_R1_At 10 (-13)
    unfold negOut at hN
    rw [hfe] at hN
    by_cases big : (negC c).nodes.length > 30
    · rw [if_pos big, if_neg (show ¬ ((⟨10, -13⟩ : Flt) = okF) by simp [okF])] at hN
      have hS := f_R2_SameCondition ⟨[], []⟩ (by simp) (by simp) (by simp)
      generalize negC c = cc at *
      clear hcv hdo ho hfe t1 hgl
      refine Fn.step mixed k_L1_ConditionNegateMatchesSpec ?_
      repeat' (first | refine i_len rfl ?_ | refine i_s rfl ?_ | refine sw ?_ | refine i_gt rfl ?_ | refine i_gf rfl ?_ | refine c_t rfl ?_ | refine c_f rfl ?_ | refine i_stb rfl ?_ | refine i_alloc rfl ?_ | refine i_box rfl rfl ?_ | refine c_cond rfl (fun h => ?_) (fun h => ?_) | refine sf rfl rfl hLc ?_ | refine sf rfl rfl hF ?_ | refine sf rfl rfl hR ?_ | refine sf rfl rfl hN ?_ | refine sf rfl rfl hAt ?_ | refine sf rfl rfl hS ?_ | fail)
      all_goals first
        | exact e_ret ⟨rfl, _, rfl, rfl⟩
        | (exfalso; clear hLc hF hR hN hAt hS; simp [okF] at *; done)
        | (exfalso; clear hLc hF hR hN hAt hS; simp [okF] at *; omega)
        | (exfalso; clear hLc hF hR hN hAt hS; simp_all [okF]; done)
    · rw [if_neg big, if_pos rfl] at hN
      have hS := f_R2_SameCondition (negC c) (by exact hct) hnn (negC_ok ho hcv).nodes
      generalize negC c = cc at *
      clear hcv hdo ho hfe t1 hgl
      refine Fn.step mixed k_L1_ConditionNegateMatchesSpec ?_
      repeat' (first | refine i_len rfl ?_ | refine i_s rfl ?_ | refine sw ?_ | refine i_gt rfl ?_ | refine i_gf rfl ?_ | refine c_t rfl ?_ | refine c_f rfl ?_ | refine i_stb rfl ?_ | refine i_alloc rfl ?_ | refine i_box rfl rfl ?_ | refine c_cond rfl (fun h => ?_) (fun h => ?_) | refine sf rfl rfl hLc ?_ | refine sf rfl rfl hF ?_ | refine sf rfl rfl hR ?_ | refine sf rfl rfl hN ?_ | refine sf rfl rfl hAt ?_ | refine sf rfl rfl hS ?_ | fail)
      all_goals first
        | exact e_ret ⟨rfl, _, rfl, rfl⟩
        | (exfalso; clear hLc hF hR hN hAt hS; simp [okF] at *; done)
        | (exfalso; clear hLc hF hR hN hAt hS; simp [okF] at *; omega)
        | (exfalso; clear hLc hF hR hN hAt hS; simp_all [okF]; done)
  · have hfe : negFault d c = condFault d c := by unfold negFault; rw [if_pos t1]
    unfold negOut at hN
    rw [hfe, if_neg t1] at hN
    have hc3 : ¬ (condFault d c).code = 0 := fun h => t1 ((condFault_code _ _).1 h)
    have hS := f_R2_SameCondition ⟨[], []⟩ (by simp) (by simp) (by simp)
    generalize condFault d c = ff at *
    clear hdo ho hfe t1
    refine Fn.step mixed k_L1_ConditionNegateMatchesSpec ?_
    repeat' (first | refine i_s rfl ?_ | refine sw ?_ | refine i_gt rfl ?_ | refine i_gf rfl ?_ | refine c_f rfl ?_ | refine i_stb rfl ?_ | refine i_alloc rfl ?_ | refine i_box rfl rfl ?_ | (refine sp ?_ ?_ <;> try intro h) | refine sf rfl rfl hLc ?_ | refine sf rfl rfl hF ?_ | refine sf rfl rfl hN ?_ | refine sf rfl rfl hS ?_ | fail)
    all_goals first
      | (exfalso; clear hLc hF hN hS; simp [okF] at *; done)
      | (exfalso; clear hLc hF hN hS; simp_all [okF]; done)
      | (refine e_ret ⟨rfl, _, rfl, congrArg V.bool ?_⟩; first | rfl | (clear hLc hF hN hS; simp_all; done))
end Hm
end
