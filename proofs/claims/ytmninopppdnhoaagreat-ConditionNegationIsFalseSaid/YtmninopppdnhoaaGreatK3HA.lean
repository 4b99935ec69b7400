/- Part K3HA of the proof. -/
import Derived.Test.YtmninopppdnhoaaGreatKHA
import Derived.Test.YtmninopppdnhoaaGreatK3PA
set_option linter.unusedVariables false
set_option linter.unusedSimpArgs false
section
namespace Hm
open Go
set_option maxRecDepth 100000
set_option maxHeartbeats 4000000
theorem evalFault_code (d : Dom) (c : Cnd) (l : List At) (args : List Int) : (evalFault d c l args).code = 0 ↔ evalFault d c l args = okF := by
  unfold evalFault
  split
  · exact condFault_code d c
  · split
    · exact groundFault_code d l
    · exact argsFault_code d c args
def c_L1_ConditionNegationIsFalse : Cmd :=
 (qS [qx 4 384262 6 0, qx 5 384322 2 1, qb 8 false]
 (qT (qS [qk 17 9 [], qq 18 (.not (.t 17))]
 (.cond (.t 18) (.seq (.ops [qb 8 false]) .ret) .skip))
 (qS [qL 20 6 4, qL 21 2 5, qm 22 2, qm 23 3, qk 24 14 [20, 21, 22, 23], qm 19 24, qq 25 (.extract (.t 19) 0), qq 26 (.extract (.t 19) 1), qq 10 (.alloc 384642 (.agg [.int .i64 0, .int .i64 0])), qm 9 25, qs 2 10 26]
 (qS [qL 28 6 4, qL 29 2 5, qk 30 18 [28, 29], qm 27 30, qq 31 (.extract (.t 27) 0), qq 32 (.extract (.t 27) 1), qq 11 (.alloc 384706 (.agg [.sl .nil [], .sl .nil []])), qq 12 (.alloc 384770 (.agg [.int .i64 0, .int .i64 0])), qs 2 11 31, qs 2 12 32]
 (qT (qS [qf 33 0 10, ql 34 1 33, qv 35 .neq [.i] 34 0, qm 36 35, qg 37 36 false (.faddr 0 (.t 12)), qg 38 36 false (.load false 1 (.t 37)), qg 39 36 false (.bin .neq false [.i] (.t 38) (.c (.int .i64 0))), qq 40 (.pick (.t 36) (.c (.bool true)) (.t 39))]
 (.cond (.t 40) (.seq (.ops [qf 41 0 10, ql 42 1 41, qv 43 .eql [.i] 42 0, qm 44 43, qg 45 44 false (.mov (.t 9)), qg 46 44 false (.not (.t 45)), qq 47 (.pick (.t 44) (.c (.bool true)) (.t 46)), qm 8 47]) .ret) .skip))
 (qS [qL 49 6 4, qL 50 2 11, qm 51 2, qm 52 3, qk 53 14 [49, 50, 51, 52], qm 48 53, qq 54 (.extract (.t 48) 0), qq 55 (.extract (.t 48) 1), qq 14 (.alloc 384898 (.agg [.int .i64 0, .int .i64 0])), qm 13 54, qs 2 14 55]
 (qT (qS [qf 56 0 14, ql 57 1 56, qv 58 .neq [.i] 57 0, qm 59 58, qg 60 59 false (.mov (.t 9)), qg 61 59 false (.mov (.t 13)), qg 62 59 false (.bin .eql false [.b] (.t 60) (.t 61)), qq 63 (.pick (.t 59) (.c (.bool true)) (.t 62))]
 (.cond (.t 63) (.seq (.ops [qb 8 false]) .ret) .skip))
 (qS [qL 65 6 4, qL 66 2 11, qk 67 18 [65, 66], qm 64 67, qq 68 (.extract (.t 64) 0), qq 69 (.extract (.t 64) 1), qq 15 (.alloc 384962 (.agg [.sl .nil [], .sl .nil []])), qs 2 15 68, qs 2 12 69]
 (qT (qS [qf 70 0 12, ql 71 1 70, qv 72 .neq [.i] 71 0]
 (.cond (.t 72) (.seq (.ops [qL 73 2 12, qq 74 (.call .f (.c (.fn 17 [])) [.c (.int .i64 10), .c (.int .i64 (-13))]), qq 75 (.bin .eql true [.i, .i] (.t 73) (.t 74)), qm 8 75]) .ret) .skip))
 (qS [qL 77 6 4, qL 78 2 15, qm 79 2, qm 80 3, qk 81 14 [77, 78, 79, 80], qm 76 81, qq 82 (.extract (.t 76) 0), qq 83 (.extract (.t 76) 1), qm 16 82, qs 2 14 83]
 (.seq (.ops [qf 84 0 14, ql 85 1 84, qv 86 .eql [.i] 85 0, qm 87 86, qg 88 87 true (.mov (.t 16)), qg 89 87 true (.mov (.t 9)), qg 90 87 true (.bin .eql false [.b] (.t 88) (.t 89)), qq 91 (.pick (.t 87) (.t 90) (.c (.bool false))), qm 8 91]) .ret)))))))))))
def r_L1_ConditionNegationIsFalse : List RVar := [.tmp 8]
def n_L1_ConditionNegationIsFalse : Nat := 92
theorem k_L1_ConditionNegationIsFalse : chkFn Go.Proofs.Tryz.prog 6 n_L1_ConditionNegationIsFalse r_L1_ConditionNegationIsFalse c_L1_ConditionNegationIsFalse = true := by kernel_rfl
theorem f_L1_ConditionNegationIsFalse (d : Dom) (hdo : DoOk d) (c : Cnd) (ho : CndOk c) (l : List At) (hl : l.length ≤ 140737488355328) (hlo : ∀ a ∈ l, AtOk a) (args : List Int) (hal : args.length ≤ 140737488355328) :
    Fc Go.Proofs.Tryz.prog 6 [domV d, cndV c, .sl .p (l.map atV), .sl .p (args.map i64V)] (.bool true) := by
  have hLc := f_L1_conditions
  have hE := f_condition_Eval d hdo c ho l hl hlo args hal
  have hN := f_condition_Negate d hdo c ho
  by_cases t1 : evalFault d c l args = okF
  · rw [t1] at hE
    have hcf : condFault d c = okF := by
      unfold evalFault at t1
      split at t1
      · rename_i h; exact absurd t1 h
      · rename_i h; simpa using h
    have hcv := cndV_of hcf
    have hB : evalB d c l args = tru d c.nodes l (c.nodes.length - 1) args := by unfold evalB; rw [t1, decide_eq_true rfl, Bool.true_and]
    rw [hB] at hE
    have hfe : negFault d c = if (negC c).nodes.length > 30 then ⟨10, -13⟩ else okF := by unfold negFault; rw [if_neg (by simp [hcf])]
    have hrest : ∀ c' : Cnd, c'.types = c.types → condFault d c' = okF → evalFault d c' l args = okF := fun c' h1 h2 => by
      unfold evalFault at t1 ⊢
      rw [if_neg (by simp [hcf])] at t1
      rw [if_neg (by simp [h2])]
      have : argsFault d c' args = argsFault d c args := by unfold argsFault argBadC; rw [h1]
      rw [this]
      exact t1
    unfold negOut at hN
    rw [hfe] at hN
    by_cases big : (negC c).nodes.length > 30
    · rw [if_pos big, if_neg (show ¬ ((⟨10, -13⟩ : Flt) = okF) by simp [okF])] at hN
      generalize tru d c.nodes l (c.nodes.length - 1) args = bb at *
      clear hcv hdo ho hlo hrest hB hcf t1 hfe
      refine Fn.step mixed k_L1_ConditionNegationIsFalse ?_
      repeat' (first | refine i_s rfl ?_ | refine sw ?_ | refine i_gt rfl ?_ | refine i_gf rfl ?_ | refine c_t rfl ?_ | refine c_f rfl ?_ | refine i_stb rfl ?_ | refine i_alloc rfl ?_ | refine i_box rfl rfl ?_ | refine sf rfl rfl hLc ?_ | refine sf rfl rfl hE ?_ | refine sf rfl rfl hN ?_ | fail)
      all_goals first
        | exact e_ret ⟨rfl, _, rfl, rfl⟩
        | (exfalso; clear hLc hE hN; simp [okF] at *; done)
        | (exfalso; clear hLc hE hN; simp_all [okF]; done)
    · rw [if_neg big, if_pos rfl] at hN
      have hv := negC_valid hcv (by omega)
      have hok := negC_ok ho hcv
      have hE2 := f_condition_Eval d hdo (negC c) hok l hl hlo args hal
      have t2 := hrest (negC c) rfl (cndV_to hv)
      have hB2 : evalB d (negC c) l args = !(tru d c.nodes l (c.nodes.length - 1) args) := by unfold evalB; rw [t2, decide_eq_true rfl, Bool.true_and, negC_tru hcv]
      rw [t2, hB2] at hE2
      have hN2 := f_condition_Negate d hdo (negC c) hok
      have hfe2 : negFault d (negC c) = if (negC (negC c)).nodes.length > 30 then ⟨10, -13⟩ else okF := by unfold negFault; rw [if_neg (by simp [cndV_to hv])]
      unfold negOut at hN2
      rw [hfe2] at hN2
      have hAt := f_R1_At 10 (-13)
      by_cases big2 : (negC (negC c)).nodes.length > 30
      · rw [if_pos big2, if_neg (show ¬ ((⟨10, -13⟩ : Flt) = okF) by simp [okF])] at hN2
        generalize tru d c.nodes l (c.nodes.length - 1) args = bb at *
        generalize negC c = c1 at *
        clear hcv hdo ho hlo hrest hB hB2 hcf t1 t2 hfe hfe2 hv hok
        refine Fn.step mixed k_L1_ConditionNegationIsFalse ?_
        cases bb
        all_goals
          repeat' (first | refine i_s rfl ?_ | refine sw ?_ | refine i_gt rfl ?_ | refine c_t rfl ?_ | refine c_f rfl ?_ | refine i_stb rfl ?_ | refine i_alloc rfl ?_ | refine i_box rfl rfl ?_ | refine sf rfl rfl hLc ?_ | refine sf rfl rfl hE ?_ | refine sf rfl rfl hN ?_ | refine sf rfl rfl hE2 ?_ | refine sf rfl rfl hN2 ?_ | refine sf rfl rfl hAt ?_ | fail)
        all_goals first
          | exact e_ret ⟨rfl, _, rfl, rfl⟩
          | (exfalso; clear hLc hE hN hE2 hN2 hAt; simp [okF] at *; done)
          | (exfalso; clear hLc hE hN hE2 hN2 hAt; simp_all [okF]; done)
      · rw [if_neg big2, if_pos rfl] at hN2
        have hv2 := negC_valid hv (by omega)
        have hok2 := negC_ok hok hv
        have hE3 := f_condition_Eval d hdo (negC (negC c)) hok2 l hl hlo args hal
        have t3 := hrest (negC (negC c)) rfl (cndV_to hv2)
        have hB3 : evalB d (negC (negC c)) l args = tru d c.nodes l (c.nodes.length - 1) args := by unfold evalB; rw [t3, decide_eq_true rfl, Bool.true_and, negC_tru hv, negC_tru hcv, Bool.not_not]
        rw [t3, hB3] at hE3
        generalize tru d c.nodes l (c.nodes.length - 1) args = bb at *
        generalize negC (negC c) = c2 at *
        generalize negC c = c1 at *
        clear hcv hdo ho hlo hrest hB hB2 hB3 hcf t1 t2 t3 hfe hfe2 hv hok hv2 hok2
        refine Fn.step mixed k_L1_ConditionNegationIsFalse ?_
        cases bb
        all_goals
          repeat' (first | refine i_s rfl ?_ | refine sw ?_ | refine i_gt rfl ?_ | refine c_f rfl ?_ | refine i_stb rfl ?_ | refine i_alloc rfl ?_ | refine i_box rfl rfl ?_ | refine sf rfl rfl hLc ?_ | refine sf rfl rfl hE ?_ | refine sf rfl rfl hN ?_ | refine sf rfl rfl hE2 ?_ | refine sf rfl rfl hN2 ?_ | refine sf rfl rfl hE3 ?_ | fail)
        all_goals first
          | exact e_ret ⟨rfl, _, rfl, rfl⟩
          | (exfalso; clear hLc hE hN hE2 hN2 hE3 hAt; simp [okF] at *; done)
          | (exfalso; clear hLc hE hN hE2 hN2 hE3 hAt; simp_all [okF]; done)
  · have hB : evalB d c l args = false := by unfold evalB; rw [decide_eq_false t1]; rfl
    have hc3 : ¬ (evalFault d c l args).code = 0 := fun h => t1 ((evalFault_code _ _ _ _).1 h)
    rw [hB] at hE
    generalize evalFault d c l args = ff at *
    generalize negOut d c = nn at *
    generalize negFault d c = nf at *
    clear hdo ho hlo hB t1
    refine Fn.step mixed k_L1_ConditionNegationIsFalse ?_
    repeat' (first | refine i_s rfl ?_ | refine sw ?_ | refine i_gt rfl ?_ | refine i_gf rfl ?_ | refine c_t rfl ?_ | refine c_f rfl ?_ | refine i_stb rfl ?_ | refine i_alloc rfl ?_ | refine i_box rfl rfl ?_ | (refine sp ?_ ?_ <;> try intro h) | refine sf rfl rfl hLc ?_ | refine sf rfl rfl hE ?_ | refine sf rfl rfl hN ?_ | fail)
    all_goals first
      | (exfalso; clear hLc hE hN; simp [okF] at *; done)
      | (exfalso; clear hLc hE hN; simp_all [okF]; done)
      | (refine e_ret ⟨rfl, _, rfl, congrArg V.bool ?_⟩; first | rfl | (clear hLc hE hN; simp_all; done))
end Hm
end
