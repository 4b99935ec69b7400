/- Part K1HA of the proof. -/
import Derived.Test.YtmninopppdnhoaaGreatKHA
import Derived.Test.YtmninopppdnhoaaGreatK1PA
set_option linter.unusedVariables false
set_option linter.unusedSimpArgs false
section
namespace Hm
open Go
set_option maxRecDepth 100000
set_option maxHeartbeats 4000000
def c_L1_ConditionMatchesSpec : Cmd :=
 (qS [qx 4 192262 6 0, qx 5 192322 2 1, qb 8 false]
 (qT (qS [qk 12 9 [], qq 13 (.not (.t 12))]
 (.cond (.t 13) (.seq (.ops [qb 8 false]) .ret) .skip))
 (qS [qL 14 6 4, qL 15 2 5, qk 16 10 [14, 15], qq 9 (.alloc 192578 (.agg [.int .i64 0, .int .i64 0])), qs 2 9 16]
 (qT (qS [qL 17 6 4, qL 18 2 5, qk 19 11 [17, 18], qL 20 2 9, qq 21 (.bin .neq true [.i, .i] (.t 19) (.t 20))]
 (.cond (.t 21) (.seq (.ops [qb 8 false]) .ret) .skip))
 (qT (qS [qf 22 0 9, ql 23 1 22, qv 24 .eql [.i] 23 0]
 (.cond (.t 24) (.ops [qL 25 6 4, qm 26 2, qk 27 12 [25, 26], qs 2 9 27]) .skip))
 (qT (qS [qf 28 0 9, ql 29 1 28, qv 30 .eql [.i] 29 0]
 (.cond (.t 30) (.ops [qL 31 6 4, qL 32 2 5, qm 33 3, qk 34 13 [31, 32, 33], qs 2 9 34]) .skip))
 (qS [qL 36 6 4, qL 37 2 5, qm 38 2, qm 39 3, qk 40 14 [36, 37, 38, 39], qm 35 40, qq 41 (.extract (.t 35) 0), qq 42 (.extract (.t 35) 1), qq 11 (.alloc 192706 (.agg [.int .i64 0, .int .i64 0])), qm 10 41, qs 2 11 42]
 (.seq (.ops [qL 43 2 11, qL 44 2 9, qq 45 (.bin .eql true [.i, .i] (.t 43) (.t 44)), qm 46 45, qg 47 46 true (.mov (.t 10)), qg 48 46 true (.faddr 0 (.t 9)), qg 49 46 true (.load false 1 (.t 48)), qg 50 46 true (.bin .eql false [.i] (.t 49) (.c (.int .i64 0))), qg 51 46 true (.mov (.t 50)), qg 52 51 true (.load true 6 (.t 4)), qg 53 51 true (.load true 2 (.t 5)), qg 54 51 true (.mov (.t 2)), qg 55 51 true (.faddr 1 (.t 5)), qg 56 51 true (.load false 1 (.t 55)), qg 57 51 true (.len false (.t 56)), qg 58 51 true (.bin .sub false [] (.t 57) (.c (.int .i64 1))), qg 59 51 true (.mov (.t 3)), qg 60 51 true (.call .f (.c (.fn 15 [])) [.t 52, .t 53, .t 54, .t 58, .t 59]), qg 61 46 true (.pick (.t 51) (.t 60) (.c (.bool false))), qg 62 46 true (.bin .eql false [.b] (.t 47) (.t 61)), qq 63 (.pick (.t 46) (.t 62) (.c (.bool false))), qm 8 63]) .ret))))))))
def r_L1_ConditionMatchesSpec : List RVar := [.tmp 8]
def n_L1_ConditionMatchesSpec : Nat := 64
theorem k_L1_ConditionMatchesSpec : chkFn Go.Proofs.Tryz.prog 3 n_L1_ConditionMatchesSpec r_L1_ConditionMatchesSpec c_L1_ConditionMatchesSpec = true := by kernel_rfl
theorem f_L1_ConditionMatchesSpec (d : Dom) (hdo : DoOk d) (c : Cnd) (ho : CndOk c) (l : List At) (hl : l.length ≤ 140737488355328) (hlo : ∀ a ∈ l, AtOk a) (args : List Int) (hal : args.length ≤ 140737488355328) :
    Fc Go.Proofs.Tryz.prog 3 [domV d, cndV c, .sl .p (l.map atV), .sl .p (args.map i64V)] (.bool true) := by
  have hLc := f_L1_conditions
  have hF := f_R2_ConditionFault d hdo c ho
  have hV := f_condition_Validate d hdo c ho
  have hE := f_condition_Eval d hdo c ho l hl hlo args hal
  by_cases t1 : condFault d c = okF
  · rw [t1] at hF hV
    have hcv := cndV_of t1
    have hdt := domTy hcv.dom
    obtain ⟨p1, p2⟩ := paramsCode_ok hcv.par
    have hG := f_R2_GroundFault d hdt hdo.preds.1 l hl hlo
    have hpos := hcv.pos
    have h30 := hcv.len
    by_cases t2 : groundFault d l = okF
    · rw [t2] at hG
      have e : evalFault d c l args = argsFault d c args := by unfold evalFault; rw [if_neg (by simp [t1]), if_neg (by simp [t2])]
      have hA := f_R2_ArgsFault d hdt c p1 args hal
      have hB : evalB d c l args = (decide (argsFault d c args = okF) && tru d c.nodes l (c.nodes.length - 1) args) := by unfold evalB; rw [e]
      rw [e, hB] at hE
      by_cases t3 : argsFault d c args = okF
      · rw [t3] at hA hE
        rw [decide_eq_true rfl, Bool.true_and] at hE
        have hT := f_R2_Truth d hdt c ho l hl hlo (c.nodes.length - 1) 0 c.types args hcv.root (by omega) (argsFault_ok t3)
        rw [show ((c.nodes.length - 1 : Nat) : Int) = (c.nodes.length : Int) - 1 from by omega] at hT
        generalize tru d c.nodes l (c.nodes.length - 1) args = bb at *
        clear hcv hdt hdo hlo ho hB e t1 t2 t3
        refine Fn.step mixed k_L1_ConditionMatchesSpec ?_
        cases bb
        all_goals
          repeat' (first | refine i_len rfl ?_ | refine i_s rfl ?_ | refine sw ?_ | refine i_gt rfl ?_ | refine c_t rfl ?_ | refine c_f rfl ?_ | refine jb rfl rfl ?_ | refine i_stb rfl ?_ | refine i_alloc rfl ?_ | refine i_box rfl rfl ?_ | refine sf rfl rfl hLc ?_ | refine sf rfl rfl hF ?_ | refine sf rfl rfl hV ?_ | refine sf rfl rfl hG ?_ | refine sf rfl rfl hA ?_ | refine sf rfl rfl hE ?_ | refine sf rfl rfl hT ?_ | fail)
        all_goals first
          | exact e_ret ⟨rfl, _, rfl, rfl⟩
          | (exfalso; clear hLc hF hV hG hA hE hT; simp [okF] at *; done)
          | (exfalso; clear hLc hF hV hG hA hE hT; simp_all [okF]; done)
      · rw [decide_eq_false t3, Bool.false_and] at hE
        have hc3 : ¬ (argsFault d c args).code = 0 := fun h => t3 ((argsFault_code _ _ _).1 h)
        generalize argsFault d c args = ff at *
        clear hcv hdt hdo hlo ho hB e t1 t2 t3
        refine Fn.step mixed k_L1_ConditionMatchesSpec ?_
        repeat' (first | refine i_len rfl ?_ | refine i_s rfl ?_ | refine sw ?_ | refine i_gt rfl ?_ | refine i_gf rfl ?_ | refine i_gd rfl ?_ | refine c_t rfl ?_ | refine c_f rfl ?_ | refine jb rfl rfl ?_ | refine i_stb rfl ?_ | refine i_alloc rfl ?_ | refine i_box rfl rfl ?_ | refine i_g rfl (fun h => ?_) (fun h => ?_) | refine sf rfl rfl hLc ?_ | refine sf rfl rfl hF ?_ | refine sf rfl rfl hV ?_ | refine sf rfl rfl hG ?_ | refine sf rfl rfl hA ?_ | refine sf rfl rfl hE ?_ | fail)
        all_goals first
          | (exfalso; clear hLc hF hV hG hA hE; simp [okF] at *; done)
          | (exfalso; clear hLc hF hV hG hA hE; simp_all [okF]; done)
          | (refine e_ret ⟨rfl, _, rfl, congrArg V.bool ?_⟩; first | rfl | (clear hLc hF hV hG hA hE; simp_all; done))
    · have e : evalFault d c l args = groundFault d l := by unfold evalFault; rw [if_neg (by simp [t1]), if_pos t2]
      have hB : evalB d c l args = false := by unfold evalB; rw [e, decide_eq_false t2]; rfl
      rw [e, hB] at hE
      have hc3 : ¬ (groundFault d l).code = 0 := fun h => t2 ((groundFault_code _ _).1 h)
      generalize groundFault d l = ff at *
      clear hcv hdt hdo hlo ho hB e t1 t2
      refine Fn.step mixed k_L1_ConditionMatchesSpec ?_
      repeat' (first | refine i_len rfl ?_ | refine i_s rfl ?_ | refine sw ?_ | refine i_gt rfl ?_ | refine i_gf rfl ?_ | refine i_gd rfl ?_ | refine c_t rfl ?_ | refine c_f rfl ?_ | refine jb rfl rfl ?_ | refine i_stb rfl ?_ | refine i_alloc rfl ?_ | refine i_box rfl rfl ?_ | (refine sp ?_ ?_ <;> try intro h) | refine sf rfl rfl hLc ?_ | refine sf rfl rfl hF ?_ | refine sf rfl rfl hV ?_ | refine sf rfl rfl hG ?_ | refine sf rfl rfl hE ?_ | fail)
      all_goals first
        | (exfalso; clear hLc hF hV hG hE; simp [okF] at *; done)
        | (exfalso; clear hLc hF hV hG hE; simp_all [okF]; done)
        | (refine e_ret ⟨rfl, _, rfl, congrArg V.bool ?_⟩; first | rfl | (clear hLc hF hV hG hE; simp_all; done))
  · have e : evalFault d c l args = condFault d c := by unfold evalFault; rw [if_pos t1]
    have hB : evalB d c l args = false := by unfold evalB; rw [e, decide_eq_false t1]; rfl
    rw [e, hB] at hE
    have hc3 : ¬ (condFault d c).code = 0 := fun h => t1 ((condFault_code _ _).1 h)
    generalize condFault d c = ff at *
    clear hdo hlo ho hB e t1
    refine Fn.step mixed k_L1_ConditionMatchesSpec ?_
    repeat' (first | refine i_len rfl ?_ | refine i_s rfl ?_ | refine sw ?_ | refine i_gt rfl ?_ | refine i_gf rfl ?_ | refine i_gd rfl ?_ | refine c_f rfl ?_ | refine i_stb rfl ?_ | refine i_alloc rfl ?_ | refine i_box rfl rfl ?_ | (refine sp ?_ ?_ <;> try intro h) | refine sf rfl rfl hLc ?_ | refine sf rfl rfl hF ?_ | refine sf rfl rfl hV ?_ | refine sf rfl rfl hE ?_ | fail)
    all_goals first
      | (exfalso; clear hLc hF hV hE; simp [okF] at *; done)
      | (exfalso; clear hLc hF hV hE; simp_all [okF]; done)
      | (refine e_ret ⟨rfl, _, rfl, congrArg V.bool ?_⟩; first | rfl | (clear hLc hF hV hE; simp_all; done))
end Hm
end
