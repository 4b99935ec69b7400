/- Part T1HA of the proof. -/
import Derived.Test.YtkbiopblaggdoaaGreatDoorTHB
set_option linter.unusedVariables false
set_option linter.unusedSimpArgs false
section
namespace Hm
open Go
set_option maxRecDepth 100000
set_option maxHeartbeats 4000000
def c_L1_DomainTextsRoundTrip : Cmd :=
 (qS [qx 1 256070 6 0, qb 2 false]
 (qS [qL 8 6 1, qk 9 11 [8], qm 7 9, qq 10 (.extract (.t 7) 0), qq 11 (.extract (.t 7) 1), qq 4 (.alloc 256258 (.agg [.int .i64 0, .int .i64 0])), qm 3 10, qs 2 4 11]
 (qT (qS [qk 12 7 [], qq 13 (.not (.t 12)), qm 14 13, qg 15 14 false (.faddr 0 (.t 4)), qg 16 14 false (.load false 1 (.t 15)), qg 17 14 false (.bin .neq false [.i] (.t 16) (.c (.int .i64 0))), qq 18 (.pick (.t 14) (.c (.bool true)) (.t 17))]
 (.cond (.t 18) (.seq (.ops [qk 19 7 [], qm 20 19, qg 21 20 true (.mov (.t 3)), qg 22 20 true (.bin .eql false [.s] (.t 21) (.c (.str []))), qq 23 (.pick (.t 20) (.t 22) (.c (.bool false))), qm 2 23]) .ret) .skip))
 (qS [qm 25 3, qk 26 13 [25], qm 24 26, qq 27 (.extract (.t 24) 0), qq 28 (.extract (.t 24) 1), qq 5 (.alloc 256326 (.agg [.sl .nil [], .sl .nil [], .sl .nil [], .sl .nil [], .sl .nil [], .sl .nil []])), qq 6 (.alloc 256386 (.agg [.int .i64 0, .int .i64 0])), qs 6 5 27, qs 2 6 28]
 (.seq (.ops [qf 29 0 6, ql 30 1 29, qv 31 .eql [.i] 30 0, qm 32 31, qg 33 32 true (.load true 6 (.t 1)), qg 34 32 true (.load true 6 (.t 5)), qg 35 32 true (.call .f (.c (.fn 14 [])) [.t 33, .t 34]), qq 36 (.pick (.t 32) (.t 35) (.c (.bool false))), qm 2 36]) .ret)))))
def r_L1_DomainTextsRoundTrip : List RVar := [.tmp 2]
def n_L1_DomainTextsRoundTrip : Nat := 37
theorem k_L1_DomainTextsRoundTrip : chkFn Go.Proofs.Tryz.prog 4 n_L1_DomainTextsRoundTrip r_L1_DomainTextsRoundTrip c_L1_DomainTextsRoundTrip = true := by kernel_rfl
theorem f_L1_DomainTextsRoundTrip (d : Dom) (ho : DoOk d) : Fc Go.Proofs.Tryz.prog 4 [domV d] (.bool true) := by
  have hD := f_L1_describes itoaOk
  have hP := f_domain_Print itoaOk d ho
  by_cases hf : printF d = okF
  · obtain ⟨h1, hb, h2⟩ := print_ok hf
    obtain ⟨r1, r2⟩ := parse_print h1 hb
    have hlen := print_len hf
    rw [h2] at hlen
    have hR := f_domain_Parse (ttx (domT d)) (by omega)
    rw [r1, r2] at hR
    rw [hf, h2] at hP
    have hS := f_R1_SameDomainR d ho
    clear hlen r1 r2 h1 hb h2 hf
    generalize ttx (domT d) = t at *
    refine Fn.step mixed k_L1_DomainTextsRoundTrip ?_
    repeat' (first | refine i_s rfl ?_ | refine sw ?_ | refine i_gt rfl ?_ | refine c_f rfl ?_ | refine i_stb rfl ?_ | refine i_alloc rfl ?_ | refine i_box rfl rfl ?_ | refine sf rfl rfl hD ?_ | refine sf rfl rfl hP ?_ | refine sf rfl rfl hR ?_ | refine sf rfl rfl hS ?_ | fail)
    all_goals first
      | exact e_ret ⟨rfl, _, rfl, rfl⟩
      | (exfalso; clear hD hP hR hS; simp at *; done)
  · have hc : (printF d).code ≠ 0 := fun h => hf ((print_code d).1 h)
    rw [print_bad hf] at hP
    clear hf
    generalize printF d = f at *
    refine Fn.step mixed k_L1_DomainTextsRoundTrip ?_
    repeat' (first | refine i_s rfl ?_ | refine sw ?_ | refine i_gt rfl ?_ | refine i_stb rfl ?_ | refine i_alloc rfl ?_ | refine i_box rfl rfl ?_ | refine c_cond rfl (fun h => ?_) (fun h => ?_) | refine sf rfl rfl hD ?_ | refine sf rfl rfl hP ?_ | fail)
    all_goals first
      | exact e_ret ⟨rfl, _, rfl, rfl⟩
      | (exfalso; clear hD hP; simp at *; done)
      | (exfalso; clear hD hP; simp at *; omega)
end Hm
end
