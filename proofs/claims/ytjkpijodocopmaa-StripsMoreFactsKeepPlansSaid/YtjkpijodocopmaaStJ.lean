/- The law of more facts answers true. -/
import Derived.Test.YtjkpijodocopmaaStH
section
/- The law of more facts answers true. -/
namespace Hm
open Go
set_option maxRecDepth 100000
set_option maxHeartbeats 4000000
set_option linter.unusedSimpArgs false
set_option linter.unusedVariables false
theorem incl_mono {p a b : List Int} (h : ∀ x ∈ a, x ∈ b) (hp : inclB p a = true) : inclB p b = true := by
  unfold inclB at *
  rw [List.all_eq_true] at *
  intro x hx
  have := hp x hx
  simp only [decide_eq_true_eq] at *
  exact h x this
theorem end_mono {t : STask} (hd : ∀ o ∈ t.ops, o.del = []) : ∀ (plan s s' e : List Int), (∀ x ∈ s, x ∈ s') → endS t s plan = some e → ∃ e', endS t s' plan = some e' ∧ ∀ x ∈ e, x ∈ e'
  | [], s, s', e, h, he => by cases he; exact ⟨s', rfl, h⟩
  | op :: r, s, s', e, h, he => by
    simp only [endS] at he ⊢
    unfold stepS at he ⊢
    cases ho : t.ops[op.toNat]? with
    | none => rw [ho] at he; cases he
    | some o =>
      rw [ho] at he
      simp only at he ⊢
      cases hi : inclB o.pre s with
      | false => rw [hi] at he; simp at he
      | true =>
        rw [hi] at he
        simp only [if_true] at he
        rw [incl_mono h hi]
        simp only [if_true]
        refine end_mono hd r _ _ e (fun x hx => ?_) he
        rw [updL_mem] at hx ⊢
        rw [hd o (mem_get ho)] at hx ⊢
        rcases hx with q | q
        · exact .inl ⟨h x q.1, by simp⟩
        · exact .inr q
def c_L1_StripsMoreFactsKeepPlans : Cmd :=
  (.seq
   (.ops [
   .op (some 4) none (.box 512260 4 (.t 0)),
   .op (some 8) none (.mov (.c (.bool false)))])
   (.cut
   (.seq
   (.seq
   (.ops [
   .op (some 14) none (.call .f (.c (.fn 10 [])) []),
   .op (some 15) none (.not (.t 14))])
   (.cut
   (.cond (.t 15)
   (.seq
   (.ops [
   .op (some 8) none (.mov (.c (.bool false)))])
   .ret)
   .skip)))
   (.cut
   (.seq
   (.seq
   (.ops [
   .op (some 9) none (.mov (.c (.int .i64 (0))))])
   (.cut
   (.block 0
   (.loop
   (.seq
   (.seq
   (.ops [
   .op (some 16) none (.mov (.t 9)),
   .op (some 17) none (.faddr 3 (.t 4)),
   .op (some 18) none (.load false 1 (.t 17)),
   .op (some 19) none (.len false (.t 18)),
   .op (some 20) none (.bin .lss false [] (.t 16) (.t 19)),
   .op (some 21) none (.mov (.t 20)),
   .op (some 22) (some (21, true)) (.mov (.t 9)),
   .op (some 23) (some (21, true)) (.bin .lss false [] (.t 22) (.c (.int .i64 (41)))),
   .op (some 24) none (.pick (.t 21) (.t 23) (.c (.bool false)))])
   (.cut
   (.cond (.t 24)
   .skip
   (.exit 0))))
   (.cut
   (.seq
   (.block 1
   (.seq
   (.ops [
   .op (some 27) none (.faddr 3 (.t 4)),
   .op (some 28) none (.load false 1 (.t 27)),
   .op (some 29) none (.mov (.t 9)),
   .op (some 30) none (.iaddr 4 (.t 28) (.t 29)),
   .op (some 31) none (.faddr 2 (.t 30)),
   .op (some 32) none (.load false 1 (.t 31)),
   .op (some 33) none (.len false (.t 32)),
   .op (some 34) none (.bin .gtr false [] (.t 33) (.c (.int .i64 (0))))])
   (.cut
   (.cond (.t 34)
   (.seq
   (.ops [
   .op (some 8) none (.mov (.c (.bool true)))])
   .ret)
   .skip))))
   (.cut
   (.ops [
   .op (some 25) none (.mov (.t 9)),
   .op (some 26) none (.bin .add false [] (.t 25) (.c (.int .i64 (1)))),
   .op (some 9) none (.mov (.t 26))])))))))))
   (.cut
   (.seq
   (.ops [
   .op (some 36) none (.load true 4 (.t 4)),
   .op (some 37) none (.mov (.t 1)),
   .op (some 38) none (.mov (.t 3)),
   .op (some 39) none (.call .f (.c (.fn 30 [])) [.t 36, .t 37, .t 38]),
   .op (some 35) none (.mov (.t 39)),
   .op (some 40) none (.extract (.t 35) 0),
   .op (some 41) none (.extract (.t 35) 1),
   .op (some 11) none (.alloc 512706 (.agg [.int .i64 (0), .int .i64 (0)])),
   .op (some 10) none (.mov (.t 40)),
   .op none none (.store 2 (.t 11) (.t 41))])
   (.cut
   (.seq
   (.ops [
   .op (some 43) none (.load true 4 (.t 4)),
   .op (some 44) none (.mov (.t 2)),
   .op (some 45) none (.mov (.t 3)),
   .op (some 46) none (.call .f (.c (.fn 30 [])) [.t 43, .t 44, .t 45]),
   .op (some 42) none (.mov (.t 46)),
   .op (some 47) none (.extract (.t 42) 0),
   .op (some 48) none (.extract (.t 42) 1),
   .op (some 13) none (.alloc 512834 (.agg [.int .i64 (0), .int .i64 (0)])),
   .op (some 12) none (.mov (.t 47)),
   .op none none (.store 2 (.t 13) (.t 48))])
   (.cut
   (.seq
   (.seq
   (.ops [
   .op (some 49) none (.faddr 0 (.t 11)),
   .op (some 50) none (.load false 1 (.t 49)),
   .op (some 51) none (.bin .neq false [.i] (.t 50) (.c (.int .i64 (0)))),
   .op (some 52) none (.mov (.t 51)),
   .op (some 53) (some (52, false)) (.load true 4 (.t 4)),
   .op (some 54) (some (52, false)) (.mov (.t 2)),
   .op (some 55) (some (52, false)) (.call .f (.c (.fn 9 [])) [.t 53, .t 54]),
   .op (some 56) (some (52, false)) (.field false 1 0 (.t 55)),
   .op (some 57) (some (52, false)) (.bin .neq false [.i] (.t 56) (.c (.int .i64 (0)))),
   .op (some 58) none (.pick (.t 52) (.c (.bool true)) (.t 57)),
   .op (some 59) none (.mov (.t 58)),
   .op (some 60) (some (59, false)) (.mov (.t 1)),
   .op (some 61) (some (59, false)) (.mov (.t 2)),
   .op (some 62) (some (59, false)) (.call .f (.c (.fn 31 [])) [.t 60, .t 61]),
   .op (some 63) (some (59, false)) (.not (.t 62)),
   .op (some 64) none (.pick (.t 59) (.c (.bool true)) (.t 63))])
   (.cut
   (.cond (.t 64)
   (.seq
   (.ops [
   .op (some 65) none (.faddr 0 (.t 11)),
   .op (some 66) none (.load false 1 (.t 65)),
   .op (some 67) none (.bin .eql false [.i] (.t 66) (.c (.int .i64 (0)))),
   .op (some 68) none (.mov (.t 67)),
   .op (some 69) (some (68, false)) (.mov (.t 10)),
   .op (some 70) (some (68, false)) (.len false (.t 69)),
   .op (some 71) (some (68, false)) (.bin .eql false [.i] (.t 70) (.c (.int .i64 (0)))),
   .op (some 72) none (.pick (.t 68) (.c (.bool true)) (.t 71)),
   .op (some 8) none (.mov (.t 72))])
   .ret)
   .skip)))
   (.cut
   (.seq
   (.ops [
   .op (some 73) none (.faddr 0 (.t 13)),
   .op (some 74) none (.load false 1 (.t 73)),
   .op (some 75) none (.bin .eql false [.i] (.t 74) (.c (.int .i64 (0)))),
   .op (some 76) none (.mov (.t 75)),
   .op (some 77) (some (76, true)) (.mov (.t 10)),
   .op (some 78) (some (76, true)) (.len false (.t 77)),
   .op (some 79) (some (76, true)) (.mov (.t 12)),
   .op (some 80) (some (76, true)) (.len false (.t 79)),
   .op (some 81) (some (76, true)) (.bin .eql false [.i] (.t 78) (.t 80)),
   .op (some 82) none (.pick (.t 76) (.t 81) (.c (.bool false))),
   .op (some 83) none (.mov (.t 82)),
   .op (some 84) (some (83, true)) (.mov (.t 10)),
   .op (some 85) (some (83, true)) (.len false (.t 84)),
   .op (some 86) (some (83, true)) (.bin .gtr false [] (.t 85) (.c (.int .i64 (0)))),
   .op (some 87) none (.pick (.t 83) (.t 86) (.c (.bool false))),
   .op (some 88) none (.mov (.t 87)),
   .op (some 89) (some (88, true)) (.mov (.t 10)),
   .op (some 90) (some (88, true)) (.mov (.t 10)),
   .op (some 91) (some (88, true)) (.len false (.t 90)),
   .op (some 92) (some (88, true)) (.bin .sub false [] (.t 91) (.c (.int .i64 (1)))),
   .op (some 93) (some (88, true)) (.iaddr 1 (.t 89) (.t 92)),
   .op (some 94) (some (88, true)) (.load false 1 (.t 93)),
   .op (some 95) (some (88, true)) (.mov (.t 12)),
   .op (some 96) (some (88, true)) (.mov (.t 12)),
   .op (some 97) (some (88, true)) (.len false (.t 96)),
   .op (some 98) (some (88, true)) (.bin .sub false [] (.t 97) (.c (.int .i64 (1)))),
   .op (some 99) (some (88, true)) (.iaddr 1 (.t 95) (.t 98)),
   .op (some 100) (some (88, true)) (.load false 1 (.t 99)),
   .op (some 101) (some (88, true)) (.call .f (.c (.fn 31 [])) [.t 94, .t 100]),
   .op (some 102) none (.pick (.t 88) (.t 101) (.c (.bool false))),
   .op (some 8) none (.mov (.t 102))])
   .ret)))))))))))))
def r_L1_StripsMoreFactsKeepPlans : List RVar := [.tmp 8]
def n_L1_StripsMoreFactsKeepPlans : Nat := 103
theorem k_L1_StripsMoreFactsKeepPlans : chkFn Go.Proofs.Try.prog 8 n_L1_StripsMoreFactsKeepPlans r_L1_StripsMoreFactsKeepPlans c_L1_StripsMoreFactsKeepPlans = true := by kernel_rfl
theorem f_L1_StripsMoreFactsKeepPlans (t : STask) (ho : SkOk t) (s more plan : List Int) (hs : s.length ≤ 140737488355328) (hm : more.length ≤ 140737488355328) (hl : plan.length ≤ 140737488355328) : Fc Go.Proofs.Try.prog 8 [skV t, .sl .p (s.map i64V), .sl .p (more.map i64V), .sl .p (plan.map i64V)] (.bool true) := by
  have hT := f_L1_acts
  have l5 := ho.o
  refine Fn.step mixed k_L1_StripsMoreFactsKeepPlans ?_
  repeat' (first | refine i_len rfl ?_ | refine i_s rfl ?_ | refine i_lenm rfl rfl rfl ?_ | refine c_seq ?_ | refine c_cut0 ?_ | refine c_ops ?_ | refine i_nil ?_ | refine e_seq ?_ | refine e_block ?_ | refine c_block ?_ | refine c_skip ?_ | refine c_ret ?_ | refine c_exit ?_ | refine e_exit rfl ?_ | refine i_s0 rfl ?_ | refine c_leaf ?_ | refine i_gt rfl ?_ | refine i_gf rfl ?_ | refine i_gd rfl ?_ | refine c_t rfl ?_ | refine c_f rfl ?_ | refine i_conv rfl (by simp only [InR, List.length_map]; omega) ?_ | refine i_add rfl rfl (by simp only [InR, List.length_map]; omega) ?_ | refine i_sub rfl rfl (by simp only [InR, List.length_map]; omega) ?_ | refine i_ixm rfl rfl (by assumption) ?_ | refine i_iai rfl rfl (by omega) (by assumption) rfl ?_ | refine i_iam rfl rfl (by assumption) rfl ?_ | refine i_tk rfl rfl (by omega) ?_ | refine i_stb rfl ?_ | refine i_alloc rfl ?_ | refine i_box rfl rfl ?_ | refine i_nv rfl ?_ | refine c_node ?_ ?_ | refine i_g rfl (fun h => ?_) (fun h => ?_) | refine c_cond rfl (fun h => ?_) (fun h => ?_) | refine i_f rfl rfl (hT) rfl ?_)
  clear hT
  refine c_for t.ops.length (fun k => [(1, .sl .p (s.map i64V)), (2, .sl .p (more.map i64V)), (3, .sl .p (plan.map i64V)), (4, .bptr 512260 0), (9, .int .i64 k)]) (fun _ => [(512260, .box (skV t))]) (fun k => ∀ j, j < k → ∀ o, t.ops[j]? = some o → o.del = []) all_zero ⟨by repeat (first | exact trivial | refine ⟨rfl, ?_⟩), by repeat (first | exact trivial | refine ⟨rfl, ?_⟩), rfl⟩ fun k hk hi => ?_
  by_cases hgo : k < t.ops.length ∧ k < 41
  · obtain ⟨hlt, h41⟩ := hgo
    obtain ⟨o, hc⟩ := get_some hlt
    have hltI : (k : Int) < t.ops.length := by omega
    have hdl := (ho.e o (mem_get hc)).2.2
    repeat' (first | refine i_len rfl ?_ | refine i_s rfl ?_ | refine i_lenm rfl rfl rfl ?_ | refine c_seq ?_ | refine c_cut0 ?_ | refine c_ops ?_ | refine i_nil ?_ | refine e_seq ?_ | refine e_block ?_ | refine c_block ?_ | refine c_skip ?_ | refine c_ret ?_ | refine c_exit ?_ | refine e_exit rfl ?_ | refine i_s0 rfl ?_ | refine c_leaf ?_ | refine i_gt rfl ?_ | refine i_gf rfl ?_ | refine i_gd rfl ?_ | refine c_t rfl ?_ | refine c_f rfl ?_ | refine i_conv rfl (by simp only [InR, List.length_map]; omega) ?_ | refine i_add rfl rfl (by simp only [InR, List.length_map]; omega) ?_ | refine i_sub rfl rfl (by simp only [InR, List.length_map]; omega) ?_ | refine i_ixm rfl rfl (by assumption) ?_ | refine i_iai rfl rfl (by omega) (by assumption) rfl ?_ | refine i_iam rfl rfl (by assumption) rfl ?_ | refine i_tk rfl rfl (by omega) ?_ | refine i_stb rfl ?_ | refine i_alloc rfl ?_ | refine i_box rfl rfl ?_ | refine i_nv rfl ?_ | refine c_node ?_ ?_ | refine i_g rfl (fun h => ?_) (fun h => ?_) | refine c_cond rfl (fun h => ?_) (fun h => ?_))
    all_goals first
      | exact e_ret ⟨rfl, _, rfl, rfl⟩
      | (refine e_for hlt (all_succ hi fun o' ho' => ?_) ⟨by repeat (first | exact trivial | refine ⟨rfl, ?_⟩), by repeat (first | exact trivial | refine ⟨rfl, ?_⟩), rfl⟩
         rw [hc] at ho'; cases ho'
         have h2 := h
         simp at h2
         first | exact h2 | exact List.eq_nil_of_length_eq_zero (by omega))
      | (exfalso; clear ho hi; simp at *; omega)
  · have hP1 := f_strips_Play t ho s hs plan hl
    have hP2 := f_strips_Play t ho more hm plan hl
    have hF := f_R1_StateFault t ho more hm
    have hI := f_R1_Subset s more hs hm
    have hcode := play_code t s plan
    by_cases hf : playF t s plan = okF
    · obtain ⟨hst, hsp, e, he⟩ := playF_ok hf
      obtain ⟨hv, hss, hsf⟩ := stFault_ok hst
      have hol := hv.opl
      have hkl : k = t.ops.length := by omega
      have hdel : ∀ o ∈ t.ops, o.del = [] := fun o hm => by
        obtain ⟨j, hj, e⟩ := List.getElem_of_mem hm
        exact hi j (by omega) o (by rw [← e]; exact List.getElem?_eq_getElem hj)
      rw [hf] at hP1
      by_cases hmo : stFault t more = okF
      · rw [hmo] at hF
        cases hin : (s.all fun x => decide (x ∈ more)) with
        | true =>
          rw [hin] at hI
          have hsub : ∀ x ∈ s, x ∈ more := fun x hx => by simpa using List.all_eq_true.1 hin x hx
          obtain ⟨e', he', hee⟩ := end_mono hdel plan s more e hsub he
          have hg := play_ok hmo hsp he'
          obtain ⟨_, hms, _⟩ := stFault_ok hmo
          rw [playL_ok hf] at hP1
          rw [playL_ok hg, hg] at hP2
          have hxl : (s :: runT t s plan).length = plan.length + 1 := by simp [run_all he]
          have hyl : (more :: runT t more plan).length = plan.length + 1 := by simp [run_all he']
          have hx := run_get t plan s
          have hy := run_get t plan more
          rw [he] at hx
          rw [he'] at hy
          have hxi := last_ix hxl hx
          have hyi := last_ix hyl hy
          have l1 := set_le hv (endS_set hv _ _ _ hss he)
          have l2 := set_le hv (endS_set hv _ _ _ hms he')
          have hS := f_R1_Subset e e' (by omega) (by omega)
          rw [show (e.all fun x => decide (x ∈ e')) = true from List.all_eq_true.2 fun x hx => decide_eq_true (hee x hx)] at hS
          generalize s :: runT t s plan = X at *
          generalize more :: runT t more plan = Y at *
          clear hi hf hst hsp he hv hss hsf hdel hmo hin hsub he' hee hg hms hx hy hcode ho
          have hxy : X.length = Y.length := by omega
          repeat' (first | refine i_len rfl ?_ | refine i_s rfl ?_ | refine i_lenm rfl rfl rfl ?_ | refine c_seq ?_ | refine c_cut0 ?_ | refine c_ops ?_ | refine i_nil ?_ | refine e_seq ?_ | refine e_block ?_ | refine c_block ?_ | refine c_skip ?_ | refine c_ret ?_ | refine c_exit ?_ | refine e_exit rfl ?_ | refine i_s0 rfl ?_ | refine c_leaf ?_ | refine i_gt rfl ?_ | refine i_gf rfl ?_ | refine i_gd rfl ?_ | refine c_t rfl ?_ | refine c_f rfl ?_ | refine i_conv rfl (by simp only [InR, List.length_map]; omega) ?_ | refine i_add rfl rfl (by simp only [InR, List.length_map]; omega) ?_ | refine i_sub rfl rfl (by simp only [InR, List.length_map]; omega) ?_ | refine i_ixm rfl rfl (by assumption) ?_ | refine i_iai rfl rfl (by omega) (by assumption) rfl ?_ | refine i_iam rfl rfl (by assumption) rfl ?_ | refine i_tk rfl rfl (by omega) ?_ | refine i_stb rfl ?_ | refine i_alloc rfl ?_ | refine i_box rfl rfl ?_ | refine i_nv rfl ?_ | refine c_node ?_ ?_ | refine i_g rfl (fun h => ?_) (fun h => ?_) | refine c_cond rfl (fun h => ?_) (fun h => ?_) | refine i_f rfl rfl (hP1) rfl ?_ | refine i_f rfl rfl (hP2) rfl ?_ | refine i_f rfl rfl (hF) rfl ?_ | refine i_f rfl rfl (hI) rfl ?_ | refine i_f rfl rfl (hS) rfl ?_)
          all_goals first
            | (exfalso; clear hP1 hP2 hF hI hS hxi hyi; simp at *; omega)
            | (exfalso; clear hP1 hP2 hF hI hS hxi hyi; simp only [decide_eq_true_eq, decide_eq_false_iff_not, Bool.not_true, Bool.not_false] at *; omega)
            | (refine e_ret ⟨rfl, _, rfl, congrArg V.bool ?_⟩; first | rfl | (simp; done))
            | trace_state
        | false =>
          rw [hin] at hI
          clear hi hf hst hsp he hv hss hsf hdel hmo hin hcode ho
          repeat' (first | refine i_len rfl ?_ | refine i_s rfl ?_ | refine i_lenm rfl rfl rfl ?_ | refine c_seq ?_ | refine c_cut0 ?_ | refine c_ops ?_ | refine i_nil ?_ | refine e_seq ?_ | refine e_block ?_ | refine c_block ?_ | refine c_skip ?_ | refine c_ret ?_ | refine c_exit ?_ | refine e_exit rfl ?_ | refine i_s0 rfl ?_ | refine c_leaf ?_ | refine i_gt rfl ?_ | refine i_gf rfl ?_ | refine i_gd rfl ?_ | refine c_t rfl ?_ | refine c_f rfl ?_ | refine i_conv rfl (by simp only [InR, List.length_map]; omega) ?_ | refine i_add rfl rfl (by simp only [InR, List.length_map]; omega) ?_ | refine i_sub rfl rfl (by simp only [InR, List.length_map]; omega) ?_ | refine i_ixm rfl rfl (by assumption) ?_ | refine i_iai rfl rfl (by omega) (by assumption) rfl ?_ | refine i_iam rfl rfl (by assumption) rfl ?_ | refine i_tk rfl rfl (by omega) ?_ | refine i_stb rfl ?_ | refine i_alloc rfl ?_ | refine i_box rfl rfl ?_ | refine i_nv rfl ?_ | refine c_node ?_ ?_ | refine i_g rfl (fun h => ?_) (fun h => ?_) | refine c_cond rfl (fun h => ?_) (fun h => ?_) | refine i_f rfl rfl (hP1) rfl ?_ | refine i_f rfl rfl (hP2) rfl ?_ | refine i_f rfl rfl (hF) rfl ?_ | refine i_f rfl rfl (hI) rfl ?_)
          all_goals first
            | (exfalso; clear hP1 hP2 hF hI; simp at *; omega)
            | (refine e_ret ⟨rfl, _, rfl, congrArg V.bool ?_⟩; first | rfl | (simp; done))
            | trace_state
      · have hmc : (stFault t more).code ≠ 0 := fun h => hmo ((stFault_iff _ _).1 h)
        clear hi hf hst hsp he hv hss hsf hdel hmo hcode
        generalize stFault t more = MF at *
        repeat' (first | refine i_len rfl ?_ | refine i_s rfl ?_ | refine i_lenm rfl rfl rfl ?_ | refine c_seq ?_ | refine c_cut0 ?_ | refine c_ops ?_ | refine i_nil ?_ | refine e_seq ?_ | refine e_block ?_ | refine c_block ?_ | refine c_skip ?_ | refine c_ret ?_ | refine c_exit ?_ | refine e_exit rfl ?_ | refine i_s0 rfl ?_ | refine c_leaf ?_ | refine i_gt rfl ?_ | refine i_gf rfl ?_ | refine i_gd rfl ?_ | refine c_t rfl ?_ | refine c_f rfl ?_ | refine i_conv rfl (by simp only [InR, List.length_map]; omega) ?_ | refine i_add rfl rfl (by simp only [InR, List.length_map]; omega) ?_ | refine i_sub rfl rfl (by simp only [InR, List.length_map]; omega) ?_ | refine i_ixm rfl rfl (by assumption) ?_ | refine i_iai rfl rfl (by omega) (by assumption) rfl ?_ | refine i_iam rfl rfl (by assumption) rfl ?_ | refine i_tk rfl rfl (by omega) ?_ | refine i_stb rfl ?_ | refine i_alloc rfl ?_ | refine i_box rfl rfl ?_ | refine i_nv rfl ?_ | refine c_node ?_ ?_ | refine i_g rfl (fun h => ?_) (fun h => ?_) | refine c_cond rfl (fun h => ?_) (fun h => ?_) | refine i_f rfl rfl (hP1) rfl ?_ | refine i_f rfl rfl (hP2) rfl ?_ | refine i_f rfl rfl (hF) rfl ?_ | refine i_f rfl rfl (hI) rfl ?_)
        all_goals first
          | (exfalso; clear hP1 hP2 hF hI ho; simp at *; omega)
          | (refine e_ret ⟨rfl, _, rfl, congrArg V.bool ?_⟩; first | rfl | (simp; done))
          | trace_state
    · have hc : (playF t s plan).code ≠ 0 := fun h => hf (hcode.1 h)
      rw [playL_bad hf] at hP1
      clear hi hcode hf
      generalize playF t s plan = F at *
      repeat' (first | refine i_len rfl ?_ | refine i_s rfl ?_ | refine i_lenm rfl rfl rfl ?_ | refine c_seq ?_ | refine c_cut0 ?_ | refine c_ops ?_ | refine i_nil ?_ | refine e_seq ?_ | refine e_block ?_ | refine c_block ?_ | refine c_skip ?_ | refine c_ret ?_ | refine c_exit ?_ | refine e_exit rfl ?_ | refine i_s0 rfl ?_ | refine c_leaf ?_ | refine i_gt rfl ?_ | refine i_gf rfl ?_ | refine i_gd rfl ?_ | refine c_t rfl ?_ | refine c_f rfl ?_ | refine i_conv rfl (by simp only [InR, List.length_map]; omega) ?_ | refine i_add rfl rfl (by simp only [InR, List.length_map]; omega) ?_ | refine i_sub rfl rfl (by simp only [InR, List.length_map]; omega) ?_ | refine i_ixm rfl rfl (by assumption) ?_ | refine i_iai rfl rfl (by omega) (by assumption) rfl ?_ | refine i_iam rfl rfl (by assumption) rfl ?_ | refine i_tk rfl rfl (by omega) ?_ | refine i_stb rfl ?_ | refine i_alloc rfl ?_ | refine i_box rfl rfl ?_ | refine i_nv rfl ?_ | refine c_node ?_ ?_ | refine i_g rfl (fun h => ?_) (fun h => ?_) | refine c_cond rfl (fun h => ?_) (fun h => ?_) | refine i_f rfl rfl (hP1) rfl ?_ | refine i_f rfl rfl (hP2) rfl ?_ | refine i_f rfl rfl (hF) rfl ?_ | refine i_f rfl rfl (hI) rfl ?_)
      all_goals first
        | (exfalso; clear hP1 hP2 hF hI ho; simp at *; omega)
        | (refine e_ret ⟨rfl, _, rfl, congrArg V.bool ?_⟩; first | rfl | (simp; done))
        | trace_state
end Hm
end
