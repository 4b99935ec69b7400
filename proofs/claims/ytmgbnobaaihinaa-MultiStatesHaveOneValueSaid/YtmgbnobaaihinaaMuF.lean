/- The law of states with one value for each variable answers true. -/
import Derived.Test.YtmgbnobaaihinaaMuE
section
/- The law of states with one value for each variable answers true. -/
namespace Hm
open Go
set_option maxRecDepth 100000
set_option maxHeartbeats 4000000
set_option linter.unusedSimpArgs false
set_option linter.unusedVariables false
theorem playF_iff (t : STask) (s plan : List Int) : (playF t s plan).code = 0 ↔ playF t s plan = okF := by
  unfold playF
  split
  · split
    · split
      · exact ⟨fun _ => rfl, fun _ => rfl⟩
      · simp [okF]
    · exact stepsF_iff _ _
  · unfold stFault
    split
    · split <;> simp [okF]
    · exact sFault_iff _
theorem playF_run {t : STask} {s plan : List Int} (h : playF t s plan = okF) : stepsF t.ops.length plan = okF ∧ (runT t s plan).length = plan.length := by
  unfold playF at h
  split at h
  · split at h
    · split at h
      · exact ⟨by assumption, by assumption⟩
      · cases h
    · rename_i h2; exact absurd h h2
  · rename_i h1; exact absurd h h1
def stP (sizes s : List Int) (k : Nat) : List Int := (List.range k).map fun v => fv sizes v ((s[v]?).getD 0)
theorem stP_succ (sizes s : List Int) (k : Nat) : stP sizes s (k + 1) = stP sizes s k ++ [fv sizes k ((s[k]?).getD 0)] := by
  unfold stP
  rw [List.range_succ, List.map_append]; rfl
theorem stP_len (sizes s : List Int) (k : Nat) : (stP sizes s k).length = k := by simp [stP]
def c_L1_MultiStatesHaveOneValue : Cmd :=
  (.seq
   (.ops [
   .op (some 2) none (.box 384132 4 (.t 0)),
   .op (some 4) none (.mov (.c (.bool false)))])
   (.cut
   (.seq
   (.ops [
   .op (some 17) none (.load true 4 (.t 2)),
   .op (some 18) none (.call .f (.c (.fn 23 [])) [.t 17]),
   .op (some 16) none (.mov (.t 18)),
   .op (some 19) none (.extract (.t 16) 0),
   .op (some 20) none (.extract (.t 16) 1),
   .op (some 5) none (.alloc 384324 (.agg [.int .i64 (0), .sl .nil [], .sl .nil [], .sl .nil []])),
   .op (some 6) none (.alloc 384386 (.agg [.int .i64 (0), .int .i64 (0)])),
   .op none none (.store 4 (.t 5) (.t 19)),
   .op none none (.store 2 (.t 6) (.t 20))])
   (.cut
   (.seq
   (.seq
   (.ops [
   .op (some 21) none (.call .f (.c (.fn 9 [])) []),
   .op (some 22) none (.not (.t 21)),
   .op (some 23) none (.mov (.t 22)),
   .op (some 24) (some (23, false)) (.faddr 0 (.t 6)),
   .op (some 25) (some (23, false)) (.load false 1 (.t 24)),
   .op (some 26) (some (23, false)) (.bin .neq false [.i] (.t 25) (.c (.int .i64 (0)))),
   .op (some 27) none (.pick (.t 23) (.c (.bool true)) (.t 26))])
   (.cut
   (.cond (.t 27)
   (.seq
   (.ops [
   .op (some 28) none (.call .f (.c (.fn 9 [])) []),
   .op (some 29) none (.mov (.t 28)),
   .op (some 30) (some (29, true)) (.faddr 0 (.t 5)),
   .op (some 31) (some (29, true)) (.load false 1 (.t 30)),
   .op (some 32) (some (29, true)) (.bin .eql false [.i] (.t 31) (.c (.int .i64 (0)))),
   .op (some 33) none (.pick (.t 29) (.t 32) (.c (.bool false))),
   .op (some 4) none (.mov (.t 33))])
   .ret)
   .skip)))
   (.cut
   (.seq
   (.ops [
   .op (some 35) none (.load true 4 (.t 5)),
   .op (some 36) none (.faddr 1 (.t 5)),
   .op (some 37) none (.load false 1 (.t 36)),
   .op (some 38) none (.mov (.t 1)),
   .op (some 39) none (.call .f (.c (.fn 28 [])) [.t 35, .t 37, .t 38]),
   .op (some 34) none (.mov (.t 39)),
   .op (some 40) none (.extract (.t 34) 0),
   .op (some 41) none (.extract (.t 34) 1),
   .op (some 8) none (.alloc 384514 (.agg [.int .i64 (0), .int .i64 (0)])),
   .op (some 7) none (.mov (.t 40)),
   .op none none (.store 2 (.t 8) (.t 41))])
   (.cut
   (.seq
   (.seq
   (.ops [
   .op (some 42) none (.faddr 0 (.t 8)),
   .op (some 43) none (.load false 1 (.t 42)),
   .op (some 44) none (.bin .neq false [.i] (.t 43) (.c (.int .i64 (0)))),
   .op (some 45) none (.mov (.t 44)),
   .op (some 46) (some (45, false)) (.mov (.t 7)),
   .op (some 47) (some (45, false)) (.len false (.t 46)),
   .op (some 48) (some (45, false)) (.bin .eql false [.i] (.t 47) (.c (.int .i64 (0)))),
   .op (some 49) none (.pick (.t 45) (.c (.bool true)) (.t 48))])
   (.cut
   (.cond (.t 49)
   (.seq
   (.ops [
   .op (some 50) none (.faddr 0 (.t 8)),
   .op (some 51) none (.load false 1 (.t 50)),
   .op (some 52) none (.bin .neq false [.i] (.t 51) (.c (.int .i64 (0)))),
   .op (some 53) none (.mov (.t 52)),
   .op (some 54) (some (53, true)) (.mov (.t 7)),
   .op (some 55) (some (53, true)) (.len false (.t 54)),
   .op (some 56) (some (53, true)) (.bin .eql false [.i] (.t 55) (.c (.int .i64 (0)))),
   .op (some 57) none (.pick (.t 53) (.t 56) (.c (.bool false))),
   .op (some 4) none (.mov (.t 57))])
   .ret)
   .skip)))
   (.cut
   (.seq
   (.ops [
   .op (some 58) none (.faddr 1 (.t 2)),
   .op (some 59) none (.load false 1 (.t 58)),
   .op (some 9) none (.mov (.t 59))])
   (.cut
   (.seq
   (.seq
   (.ops [
   .op (some 10) none (.mov (.c (.int .i64 (0))))])
   (.cut
   (.block 0
   (.loop
   (.seq
   (.seq
   (.ops [
   .op (some 60) none (.mov (.t 10)),
   .op (some 61) none (.mov (.t 1)),
   .op (some 62) none (.len false (.t 61)),
   .op (some 63) none (.bin .lss false [] (.t 60) (.t 62))])
   (.cut
   (.cond (.t 63)
   .skip
   (.exit 0))))
   (.cut
   (.seq
   (.block 1
   (.seq
   (.opsT (.node 0 10 (.node 4 10 (.node 5 10 (.node 6 10 (.leaf [0, 1, 2, 3, 4, 5, 6, 7, 8, 9, 10, 11, 12]) (.leaf [0, 1, 2, 3, 4, 5, 10, 6, 7, 8, 9, 11, 12])) (.leaf [0, 1, 2, 3, 4, 10, 5, 6, 7, 8, 9, 11, 12])) (.leaf [0, 1, 2, 3, 10, 4, 5, 6, 7, 8, 9, 11, 12])) (.node 4 10 (.node 5 10 (.leaf [1, 2, 3, 4, 5, 10, 0, 6, 7, 8, 9, 11, 12]) (.leaf [1, 2, 3, 4, 10, 0, 5, 6, 7, 8, 9, 11, 12])) (.leaf [1, 2, 3, 10, 0, 4, 5, 6, 7, 8, 9, 11, 12]))) [
   .op (some 67) none (.load true 4 (.t 2)),
   .op (some 68) none (.mov (.t 9)),
   .op (some 69) none (.mov (.t 1)),
   .op (some 70) none (.mov (.t 10)),
   .op (some 71) none (.iaddr 1 (.t 69) (.t 70)),
   .op (some 72) none (.load false 1 (.t 71)),
   .op (some 73) none (.call .f (.c (.fn 17 [])) [.t 67, .t 68, .t 72]),
   .op (some 66) none (.mov (.t 73)),
   .op (some 74) none (.extract (.t 66) 0),
   .op (some 75) none (.extract (.t 66) 1),
   .op (some 12) none (.alloc 384770 (.agg [.int .i64 (0), .int .i64 (0)])),
   .op (some 11) none (.mov (.t 74)),
   .op none none (.store 2 (.t 12) (.t 75))])
   (.cut
   (.seq
   (.seq
   (.ops [
   .op (some 76) none (.faddr 0 (.t 12)),
   .op (some 77) none (.load false 1 (.t 76)),
   .op (some 78) none (.bin .neq false [.i] (.t 77) (.c (.int .i64 (0))))])
   (.cut
   (.cond (.t 78)
   (.seq
   (.ops [
   .op (some 4) none (.mov (.c (.bool false)))])
   .ret)
   .skip)))
   (.cut
   (.ops [
   .op (some 79) none (.mov (.t 11)),
   .op (some 9) none (.mov (.t 79))]))))))
   (.cut
   (.ops [
   .op (some 64) none (.mov (.t 10)),
   .op (some 65) none (.bin .add false [] (.t 64) (.c (.int .i64 (1)))),
   .op (some 10) none (.mov (.t 65))])))))))))
   (.cut
   (.seq
   (.ops [
   .op (some 13) none (.newVec 384833)])
   (.cut
   (.seq
   (.ops [
   .op (some 14) none (.mov (.c (.int .i64 (0))))])
   (.cut
   (.seq
   (.seq
   (.ops [
   .op (some 15) none (.mov (.c (.int .i64 (0))))])
   (.cut
   (.block 2
   (.loop
   (.seq
   (.seq
   (.ops [
   .op (some 80) none (.mov (.t 15)),
   .op (some 81) none (.faddr 0 (.t 2)),
   .op (some 82) none (.load false 1 (.t 81)),
   .op (some 83) none (.len false (.t 82)),
   .op (some 84) none (.bin .lss false [] (.t 80) (.t 83))])
   (.cut
   (.cond (.t 84)
   .skip
   (.exit 2))))
   (.cut
   (.seq
   (.block 3
   (.seq
   (.seq
   (.ops [
   .op (some 87) none (.mov (.t 15)),
   .op (some 88) none (.mov (.t 9)),
   .op (some 89) none (.len false (.t 88)),
   .op (some 90) none (.bin .sub false [] (.t 89) (.c (.int .i64 (1)))),
   .op (some 91) none (.call .f (.c (.fn 16 [])) [.t 87, .c (.int .i64 (0)), .t 90]),
   .op (some 92) none (.not (.t 91))])
   (.cut
   (.cond (.t 92)
   (.seq
   (.ops [
   .op (some 4) none (.mov (.c (.bool false)))])
   .ret)
   .skip)))
   (.cut
   (.seq
   (.ops [
   .op (some 93) none (.mov (.t 13)),
   .op (some 94) none (.mov (.t 14)),
   .op (some 95) none (.mov (.t 9)),
   .op (some 96) none (.mov (.t 15)),
   .op (some 97) none (.iaddr 1 (.t 95) (.t 96)),
   .op (some 98) none (.load false 1 (.t 97)),
   .op (some 99) none (.bin .add false [] (.t 94) (.t 98)),
   .op (some 100) none (.bsl 1 [.t 99]),
   .op (some 101) none (.append 1 8 (.t 93) (.t 100)),
   .op (some 13) none (.mov (.t 101))])
   (.cut
   (.ops [
   .op (some 102) none (.mov (.t 14)),
   .op (some 103) none (.faddr 0 (.t 2)),
   .op (some 104) none (.load false 1 (.t 103)),
   .op (some 105) none (.mov (.t 15)),
   .op (some 106) none (.iaddr 1 (.t 104) (.t 105)),
   .op (some 107) none (.load false 1 (.t 106)),
   .op (some 108) none (.bin .add false [] (.t 102) (.t 107)),
   .op (some 14) none (.mov (.t 108))]))))))
   (.cut
   (.ops [
   .op (some 85) none (.mov (.t 15)),
   .op (some 86) none (.bin .add false [] (.t 85) (.c (.int .i64 (1)))),
   .op (some 15) none (.mov (.t 86))])))))))))
   (.cut
   (.seq
   (.ops [
   .op (some 109) none (.mov (.t 7)),
   .op (some 110) none (.mov (.t 7)),
   .op (some 111) none (.len false (.t 110)),
   .op (some 112) none (.bin .sub false [] (.t 111) (.c (.int .i64 (1)))),
   .op (some 113) none (.iaddr 1 (.t 109) (.t 112)),
   .op (some 114) none (.load false 1 (.t 113)),
   .op (some 115) none (.mov (.t 13)),
   .op (some 116) none (.call .f (.c (.fn 15 [])) [.t 114, .t 115]),
   .op (some 4) none (.mov (.t 116))])
   .ret)))))))))))))))))))))
def r_L1_MultiStatesHaveOneValue : List RVar := [.tmp 4]
def n_L1_MultiStatesHaveOneValue : Nat := 117
theorem k_L1_MultiStatesHaveOneValue : chkFn Go.Proofs.Try.prog 6 n_L1_MultiStatesHaveOneValue r_L1_MultiStatesHaveOneValue c_L1_MultiStatesHaveOneValue = true := by kernel_rfl
theorem f_L1_MultiStatesHaveOneValue (m : MTask) (ho : MOk m) (plan : List Int) (hl : plan.length ≤ 140737488355328) : Fc Go.Proofs.Try.prog 6 [mtV m, .sl .p (plan.map i64V)] (.bool true) := by
  have hT := f_L1_turns
  by_cases hb : mFault m = okF
  · have hv := mFault_ok hb
    by_cases hbig : sumL m.sizes > 24
    · have hS := f_multi_Strips_big m ho hb hbig
      refine Fn.step mixed k_L1_MultiStatesHaveOneValue ?_
      repeat' (first | refine i_len rfl ?_ | refine i_s rfl ?_ | refine i_lenm rfl rfl rfl ?_ | refine c_seq ?_ | refine c_cut0 ?_ | refine c_ops ?_ | refine i_nil ?_ | refine e_seq ?_ | refine e_block ?_ | refine c_block ?_ | refine c_skip ?_ | refine c_ret ?_ | refine c_exit ?_ | refine e_exit rfl ?_ | refine i_s0 rfl ?_ | refine c_leaf ?_ | refine i_gt rfl ?_ | refine i_gf rfl ?_ | refine i_gd rfl ?_ | refine c_t rfl ?_ | refine c_f rfl ?_ | refine i_conv rfl (by simp only [InR, List.length_map]; omega) ?_ | refine i_add rfl rfl (by simp only [InR, List.length_map]; omega) ?_ | refine i_sub rfl rfl (by simp only [InR, List.length_map]; omega) ?_ | refine i_ixm rfl rfl (by assumption) ?_ | refine i_iai rfl rfl (by omega) (by assumption) rfl ?_ | refine i_iam rfl rfl (by assumption) rfl ?_ | refine i_tk rfl rfl (by omega) ?_ | refine i_stb rfl ?_ | refine i_alloc rfl ?_ | refine i_box rfl rfl ?_ | refine i_nv rfl ?_ | refine c_node ?_ ?_ | refine i_g rfl (fun h => ?_) (fun h => ?_) | refine c_cond rfl (fun h => ?_) (fun h => ?_) | refine i_f rfl rfl (hS) rfl ?_ | refine i_f rfl rfl (hT) rfl ?_)
      all_goals first
        | (exfalso; clear hS hT ho hv hb; simp at *; done)
        | (exfalso; clear hS hT ho hv hb; simp at *; omega)
        | (refine e_ret ⟨rfl, _, rfl, congrArg V.bool ?_⟩; first | rfl | (simp; done))
    have hsm : sumL m.sizes ≤ 24 := by omega
    have hS := f_multi_Strips_ok m ho hb hsm
    have hsv := mStrips_sv hv hsm
    have hok := sv_ok hsv
    have hTl : (mStrips m).ops.length = m.ops.length := by simp [mStrips]
    have hil24 := set_le24 hsv hsv.init
    have hP := f_strips_Play (mStrips m) hok (mStrips m).init (by omega) plan hl
    by_cases hp : playF (mStrips m) (mStrips m).init plan = okF
    · obtain ⟨hst, hrl⟩ := playF_run hp
      rw [hTl] at hst
      obtain ⟨h60, hr⟩ := stepsF_ok hst
      have hE := (run_len_eq _ _ _).1 hrl
      obtain ⟨hs1, hs2⟩ := run_sim hv plan m.init hv.init hr
      rw [init_sim hv] at hE
      rw [hs1] at hE
      obtain ⟨e, he⟩ : ∃ e, mRun m m.init plan = some e := by
        cases h : mRun m m.init plan with
        | none => rw [h] at hE; cases hE
        | some e => exact ⟨e, rfl⟩
      have hse := hs2 e he
      have hlast := run_get (mStrips m) plan (mStrips m).init
      rw [init_sim hv, hs1, he] at hlast
      have hpl : playL (mStrips m) (mStrips m).init plan = stS m.sizes m.init :: runT (mStrips m) (stS m.sizes m.init) plan := by
        unfold playL
        rw [if_pos hp, init_sim hv]
      rw [init_sim hv] at hrl
      have hpll : (stS m.sizes m.init :: runT (mStrips m) (stS m.sizes m.init) plan).length = plan.length + 1 := by simp [hrl]
      rw [hpl, hp] at hP
      have hpre : ∀ k, k ≤ plan.length → ∃ s, mRun m m.init (plan.take k) = some s ∧ stB m.sizes s = true := fun k hk => by
        have h := mRun_append m (plan.take k) m.init (plan.drop k)
        rw [List.take_append_drop, he] at h
        cases h2 : mRun m m.init (plan.take k) with
        | none => rw [h2] at h; cases h
        | some s => exact ⟨s, rfl, (run_sim hv (plan.take k) m.init hv.init fun x hx => hr x (List.mem_of_mem_take hx)).2 s h2⟩
      have hel := stB_len hse
      have hl8 := hv.len
      have hestS : stS m.sizes e = stP m.sizes e m.sizes.length := by unfold stS stP; rw [hel]
      simp only [Option.map_some] at hlast
      rw [hestS] at hlast
      have hI := f_Ints_eq (stP m.sizes e m.sizes.length) (by rw [stP_len]; omega)
      clear hpl hp hst hE hs1 hs2 hok hsv hTl hil24 hrl hestS
      generalize stS m.sizes m.init :: runT (mStrips m) (stS m.sizes m.init) plan = L at *
      generalize mStrips m = T at *
      refine Fn.step mixed k_L1_MultiStatesHaveOneValue ?_
      repeat' (first | refine i_len rfl ?_ | refine i_s rfl ?_ | refine i_lenm rfl rfl rfl ?_ | refine c_seq ?_ | refine c_cut0 ?_ | refine c_ops ?_ | refine i_nil ?_ | refine e_seq ?_ | refine e_block ?_ | refine c_block ?_ | refine c_skip ?_ | refine c_ret ?_ | refine c_exit ?_ | refine e_exit rfl ?_ | refine i_s0 rfl ?_ | refine c_leaf ?_ | refine i_gt rfl ?_ | refine i_gf rfl ?_ | refine i_gd rfl ?_ | refine c_t rfl ?_ | refine c_f rfl ?_ | refine i_conv rfl (by simp only [InR, List.length_map]; omega) ?_ | refine i_add rfl rfl (by simp only [InR, List.length_map]; omega) ?_ | refine i_sub rfl rfl (by simp only [InR, List.length_map]; omega) ?_ | refine i_ixm rfl rfl (by assumption) ?_ | refine i_iai rfl rfl (by omega) (by assumption) rfl ?_ | refine i_iam rfl rfl (by assumption) rfl ?_ | refine i_tk rfl rfl (by omega) ?_ | refine i_stb rfl ?_ | refine i_alloc rfl ?_ | refine i_box rfl rfl ?_ | refine i_nv rfl ?_ | refine c_node ?_ ?_ | refine i_g rfl (fun h => ?_) (fun h => ?_) | refine c_cond rfl (fun h => ?_) (fun h => ?_) | refine i_f rfl rfl (hS) rfl ?_ | refine i_f rfl rfl (hT) rfl ?_ | refine i_f rfl rfl (hP) rfl ?_)
      all_goals first | (exfalso; have h9 : (L.length : Int) = 0 := (by simpa using h); omega) | (exfalso; clear hS hT hP ho hv hb hpre hr hse hlast hI he; simp at *; omega) | (exfalso; clear hS hT hP ho hv hb hpre hr hse hlast hI he; simp at *; done) | skip
      clear hS hT hP
      refine c_lp (ι := Nat × List Int) (fun i => [(1, .sl .p (plan.map i64V)), (2, .bptr 384132 0), (7, .sl .p (L.map ssV)), (9, .sl .p (i.2.map i64V)), (10, .int .i64 i.1)]) (fun _ => [(384132, .box (mtV m))])
        (fun i => i.1 ≤ plan.length ∧ mRun m m.init (plan.take i.1) = some i.2) (fun i => plan.length - i.1) (0, m.init) ⟨Nat.zero_le _, rfl⟩ ⟨by repeat (first | exact trivial | refine ⟨rfl, ?_⟩), by repeat (first | exact trivial | refine ⟨rfl, ?_⟩), rfl⟩ fun i hi => ?_
      obtain ⟨k, s⟩ := i
      obtain ⟨hk, hi⟩ := hi
      simp only at hk hi
      obtain ⟨s', hs', hst⟩ := hpre k hk
      rw [hi] at hs'
      cases hs'
      repeat (first | refine i_len rfl ?_ | refine i_s rfl ?_ | refine i_lenm rfl rfl rfl ?_ | refine c_seq ?_ | refine c_cut0 ?_ | refine c_ops ?_ | refine i_nil ?_ | refine e_seq ?_ | refine e_block ?_ | refine c_block ?_ | refine c_skip ?_ | refine c_ret ?_ | refine c_exit ?_ | refine e_exit rfl ?_ | refine i_s0 rfl ?_ | refine c_leaf ?_ | refine i_gt rfl ?_ | refine i_gf rfl ?_ | refine i_gd rfl ?_ | refine c_t rfl ?_ | refine c_f rfl ?_ | refine i_conv rfl (by simp only [InR, List.length_map]; omega) ?_ | refine i_add rfl rfl (by simp only [InR, List.length_map]; omega) ?_ | refine i_sub rfl rfl (by simp only [InR, List.length_map]; omega) ?_ | refine i_ixm rfl rfl (by assumption) ?_ | refine i_iai rfl rfl (by omega) (by assumption) rfl ?_ | refine i_iam rfl rfl (by assumption) rfl ?_ | refine i_tk rfl rfl (by omega) ?_ | refine i_stb rfl ?_ | refine i_alloc rfl ?_ | refine i_box rfl rfl ?_ | refine i_nv rfl ?_)
      refine c_cond rfl (fun h => ?_) (fun h => ?_)
      · have hlt : k < plan.length := by simpa using h
        obtain ⟨x, hx⟩ := get_some hlt
        obtain ⟨x0, x1⟩ := hr x (mem_get hx)
        obtain ⟨o, hc⟩ := get_some (l := m.ops) (k := x.toNat) (by omega)
        have hsf : mStFault m s = okF := by unfold mStFault; rw [if_pos hb, if_pos hst]
        have hA := f_multi_Apply_ok m ho s hv hst hsf x x0 x1 o hc
        have hh : holds s o.pre = true := by
          obtain ⟨s2, h2, _⟩ := hpre (k + 1) hlt
          rw [take_succ_get hx, mRun_append, hi] at h2
          simp only [mRun, hc] at h2
          by_cases q : holds s o.pre = true
          · exact q
          · rw [if_neg q] at h2; cases h2
        rw [if_pos hh] at hA
        have hn : mRun m m.init (plan.take (k + 1)) = some (setAll s o.post) := by
          rw [take_succ_get hx, mRun_append, hi]
          simp only [mRun, hc]
          rw [if_pos hh]
        clear h ho hb hv hr hpre hI hlast hse
        repeat' (first | refine i_len rfl ?_ | refine i_s rfl ?_ | refine i_lenm rfl rfl rfl ?_ | refine c_seq ?_ | refine c_cut0 ?_ | refine c_ops ?_ | refine i_nil ?_ | refine e_seq ?_ | refine e_block ?_ | refine c_block ?_ | refine c_skip ?_ | refine c_ret ?_ | refine c_exit ?_ | refine e_exit rfl ?_ | refine i_s0 rfl ?_ | refine c_leaf ?_ | refine i_gt rfl ?_ | refine i_gf rfl ?_ | refine i_gd rfl ?_ | refine c_t rfl ?_ | refine c_f rfl ?_ | refine i_conv rfl (by simp only [InR, List.length_map]; omega) ?_ | refine i_add rfl rfl (by simp only [InR, List.length_map]; omega) ?_ | refine i_sub rfl rfl (by simp only [InR, List.length_map]; omega) ?_ | refine i_ixm rfl rfl (by assumption) ?_ | refine i_iai rfl rfl (by omega) (by assumption) rfl ?_ | refine i_iam rfl rfl (by assumption) rfl ?_ | refine i_tk rfl rfl (by omega) ?_ | refine i_stb rfl ?_ | refine i_alloc rfl ?_ | refine i_box rfl rfl ?_ | refine i_nv rfl ?_ | refine c_node ?_ ?_ | refine i_g rfl (fun h => ?_) (fun h => ?_) | refine c_cond rfl (fun h => ?_) (fun h => ?_) | refine i_f rfl rfl (hA) rfl ?_)
        all_goals first
          | exact e_lp (k + 1, setAll s o.post) ⟨hlt, hn⟩ (by simp only; omega) ⟨by repeat (first | exact trivial | refine ⟨rfl, ?_⟩), by repeat (first | exact trivial | refine ⟨rfl, ?_⟩), rfl⟩
          | (exfalso; clear hA hn; simp at *; done)
      · have hge : ¬ k < plan.length := by simpa using h
        rw [List.take_of_length_le (by omega), he] at hi
        cases hi
        clear h
        repeat (first | refine i_len rfl ?_ | refine i_s rfl ?_ | refine i_lenm rfl rfl rfl ?_ | refine c_seq ?_ | refine c_cut0 ?_ | refine c_ops ?_ | refine i_nil ?_ | refine e_seq ?_ | refine e_block ?_ | refine c_block ?_ | refine c_skip ?_ | refine c_ret ?_ | refine c_exit ?_ | refine e_exit rfl ?_ | refine i_s0 rfl ?_ | refine c_leaf ?_ | refine i_gt rfl ?_ | refine i_gf rfl ?_ | refine i_gd rfl ?_ | refine c_t rfl ?_ | refine c_f rfl ?_ | refine i_conv rfl (by simp only [InR, List.length_map]; omega) ?_ | refine i_add rfl rfl (by simp only [InR, List.length_map]; omega) ?_ | refine i_sub rfl rfl (by simp only [InR, List.length_map]; omega) ?_ | refine i_ixm rfl rfl (by assumption) ?_ | refine i_iai rfl rfl (by omega) (by assumption) rfl ?_ | refine i_iam rfl rfl (by assumption) rfl ?_ | refine i_tk rfl rfl (by omega) ?_ | refine i_stb rfl ?_ | refine i_alloc rfl ?_ | refine i_box rfl rfl ?_ | refine i_nv rfl ?_)
        refine c_for m.sizes.length (fun k => [(1, .sl .p (plan.map i64V)), (2, .bptr 384132 0), (7, .sl .p (L.map ssV)), (9, .sl .p (e.map i64V)), (13, .sl (.own 384833) ((stP m.sizes e k).map i64V)), (14, .int .i64 (sumL (m.sizes.take k))), (15, .int .i64 k)]) (fun k => [(384132, .box (mtV m)), (384833, .vec k)]) (fun _ => True) trivial ⟨by repeat (first | exact trivial | refine ⟨rfl, ?_⟩), by repeat (first | exact trivial | refine ⟨rfl, ?_⟩), rfl⟩ fun v hvk _ => ?_
        have hlen := stP_len m.sizes e v
        repeat (first | refine i_len rfl ?_ | refine i_s rfl ?_ | refine i_lenm rfl rfl rfl ?_ | refine c_seq ?_ | refine c_cut0 ?_ | refine c_ops ?_ | refine i_nil ?_ | refine e_seq ?_ | refine e_block ?_ | refine c_block ?_ | refine c_skip ?_ | refine c_ret ?_ | refine c_exit ?_ | refine e_exit rfl ?_ | refine i_s0 rfl ?_ | refine c_leaf ?_ | refine i_gt rfl ?_ | refine i_gf rfl ?_ | refine i_gd rfl ?_ | refine c_t rfl ?_ | refine c_f rfl ?_ | refine i_conv rfl (by simp only [InR, List.length_map]; omega) ?_ | refine i_add rfl rfl (by simp only [InR, List.length_map]; omega) ?_ | refine i_sub rfl rfl (by simp only [InR, List.length_map]; omega) ?_ | refine i_ixm rfl rfl (by assumption) ?_ | refine i_iai rfl rfl (by omega) (by assumption) rfl ?_ | refine i_iam rfl rfl (by assumption) rfl ?_ | refine i_tk rfl rfl (by omega) ?_ | refine i_stb rfl ?_ | refine i_alloc rfl ?_ | refine i_box rfl rfl ?_ | refine i_nv rfl ?_)
        refine c_cond rfl (fun h => ?_) (fun h => ?_)
        · have hvl : v < m.sizes.length := by simpa using h
          obtain ⟨z, hz⟩ := get_some hvl
          obtain ⟨y, hy⟩ := get_some (l := e) (k := v) (by omega)
          have hzr := hv.rng z (mem_get hz)
          have hsr := sumL_range (m.sizes.take v) fun z hz => hv.rng z (List.mem_of_mem_take hz)
          have htl : (m.sizes.take v).length ≤ 8 := by simp; omega
          have e1 : sumL (m.sizes.take (v + 1)) = sumL (m.sizes.take v) + z := by rw [take_succ_get hz, sumL_snoc]
          have e2 := stP_succ m.sizes e v
          rw [hy] at e2
          have hyr := (vx_st hse hy)
          obtain ⟨z', hz', y0, y1⟩ := hyr
          rw [hz] at hz'
          cases hz'
          have hIn := f_R1_In v 0 ((e.length : Int) - 1)
          rw [show (decide ((0 : Int) ≤ (v : Int)) && decide ((v : Int) ≤ (e.length : Int) - 1)) = true from by simp; omega] at hIn
          clear h ho hb hv hr hpre hI hlast hse
          repeat (first | refine i_len rfl ?_ | refine i_s rfl ?_ | refine i_lenm rfl rfl rfl ?_ | refine c_seq ?_ | refine c_cut0 ?_ | refine c_ops ?_ | refine i_nil ?_ | refine e_seq ?_ | refine e_block ?_ | refine c_block ?_ | refine c_skip ?_ | refine c_ret ?_ | refine c_exit ?_ | refine e_exit rfl ?_ | refine i_s0 rfl ?_ | refine c_leaf ?_ | refine i_gt rfl ?_ | refine i_gf rfl ?_ | refine i_gd rfl ?_ | refine c_t rfl ?_ | refine c_f rfl ?_ | refine i_conv rfl (by simp only [InR, List.length_map]; omega) ?_ | refine i_add rfl rfl (by simp only [InR, List.length_map]; omega) ?_ | refine i_sub rfl rfl (by simp only [InR, List.length_map]; omega) ?_ | refine i_ixm rfl rfl (by assumption) ?_ | refine i_iai rfl rfl (by omega) (by assumption) rfl ?_ | refine i_iam rfl rfl (by assumption) rfl ?_ | refine i_tk rfl rfl (by omega) ?_ | refine i_stb rfl ?_ | refine i_alloc rfl ?_ | refine i_box rfl rfl ?_ | refine i_nv rfl ?_ | refine i_f rfl rfl (hIn) rfl ?_)
          refine i_appM rfl rfl rfl (by rw [hlen]) rfl (by omega) (by omega) ?_
          repeat (first | refine i_len rfl ?_ | refine i_s rfl ?_ | refine i_lenm rfl rfl rfl ?_ | refine c_seq ?_ | refine c_cut0 ?_ | refine c_ops ?_ | refine i_nil ?_ | refine e_seq ?_ | refine e_block ?_ | refine c_block ?_ | refine c_skip ?_ | refine c_ret ?_ | refine c_exit ?_ | refine e_exit rfl ?_ | refine i_s0 rfl ?_ | refine c_leaf ?_ | refine i_gt rfl ?_ | refine i_gf rfl ?_ | refine i_gd rfl ?_ | refine c_t rfl ?_ | refine c_f rfl ?_ | refine i_conv rfl (by simp only [InR, List.length_map]; omega) ?_ | refine i_add rfl rfl (by simp only [InR, List.length_map]; omega) ?_ | refine i_sub rfl rfl (by simp only [InR, List.length_map]; omega) ?_ | refine i_ixm rfl rfl (by assumption) ?_ | refine i_iai rfl rfl (by omega) (by assumption) rfl ?_ | refine i_iam rfl rfl (by assumption) rfl ?_ | refine i_tk rfl rfl (by omega) ?_ | refine i_stb rfl ?_ | refine i_alloc rfl ?_ | refine i_box rfl rfl ?_ | refine i_nv rfl ?_)
          refine e_for hvl trivial ⟨⟨rfl, rfl, rfl, rfl, ?_, ?_, rfl, trivial⟩, ⟨rfl, ?_, trivial⟩, rfl⟩
          · rw [e2]; rfl
          · rw [e1]; rfl
          · rfl
        · have hge2 : v = m.sizes.length := by have : ¬ v < m.sizes.length := by simpa using h
                                               omega
          subst hge2
          clear h ho hb hv hr hpre hse
          have hlast2 : L[((L.length : Int) - 1).toNat]? = some (stP m.sizes e m.sizes.length) := by rw [show ((L.length : Int) - 1).toNat = plan.length from by omega]; exact hlast
          have hge0 : (0 : Int) ≤ (L.length : Int) - 1 := by omega
          clear hlast
          repeat' (first | refine i_len rfl ?_ | refine i_s rfl ?_ | refine i_lenm rfl rfl rfl ?_ | refine c_seq ?_ | refine c_cut0 ?_ | refine c_ops ?_ | refine i_nil ?_ | refine e_seq ?_ | refine e_block ?_ | refine c_block ?_ | refine c_skip ?_ | refine c_ret ?_ | refine c_exit ?_ | refine e_exit rfl ?_ | refine i_s0 rfl ?_ | refine c_leaf ?_ | refine i_gt rfl ?_ | refine i_gf rfl ?_ | refine i_gd rfl ?_ | refine c_t rfl ?_ | refine c_f rfl ?_ | refine i_conv rfl (by simp only [InR, List.length_map]; omega) ?_ | refine i_add rfl rfl (by simp only [InR, List.length_map]; omega) ?_ | refine i_sub rfl rfl (by simp only [InR, List.length_map]; omega) ?_ | refine i_ixm rfl rfl (by assumption) ?_ | refine i_iai rfl rfl (by omega) (by assumption) rfl ?_ | refine i_iam rfl rfl (by assumption) rfl ?_ | refine i_tk rfl rfl (by omega) ?_ | refine i_stb rfl ?_ | refine i_alloc rfl ?_ | refine i_box rfl rfl ?_ | refine i_nv rfl ?_ | refine c_node ?_ ?_ | refine i_g rfl (fun h => ?_) (fun h => ?_) | refine c_cond rfl (fun h => ?_) (fun h => ?_) | refine i_f rfl rfl (hI) rfl ?_)
          exact e_ret ⟨rfl, _, rfl, rfl⟩
    · have hne : (playF (mStrips m) (mStrips m).init plan).code ≠ 0 := fun h => hp ((playF_iff _ _ _).1 h)
      have hpl : playL (mStrips m) (mStrips m).init plan = [] := if_neg hp
      rw [hpl] at hP
      clear hp hpl hok hsv hTl hil24
      generalize playF (mStrips m) (mStrips m).init plan = F at *
      generalize mStrips m = T at *
      refine Fn.step mixed k_L1_MultiStatesHaveOneValue ?_
      repeat' (first | refine i_len rfl ?_ | refine i_s rfl ?_ | refine i_lenm rfl rfl rfl ?_ | refine c_seq ?_ | refine c_cut0 ?_ | refine c_ops ?_ | refine i_nil ?_ | refine e_seq ?_ | refine e_block ?_ | refine c_block ?_ | refine c_skip ?_ | refine c_ret ?_ | refine c_exit ?_ | refine e_exit rfl ?_ | refine i_s0 rfl ?_ | refine c_leaf ?_ | refine i_gt rfl ?_ | refine i_gf rfl ?_ | refine i_gd rfl ?_ | refine c_t rfl ?_ | refine c_f rfl ?_ | refine i_conv rfl (by simp only [InR, List.length_map]; omega) ?_ | refine i_add rfl rfl (by simp only [InR, List.length_map]; omega) ?_ | refine i_sub rfl rfl (by simp only [InR, List.length_map]; omega) ?_ | refine i_ixm rfl rfl (by assumption) ?_ | refine i_iai rfl rfl (by omega) (by assumption) rfl ?_ | refine i_iam rfl rfl (by assumption) rfl ?_ | refine i_tk rfl rfl (by omega) ?_ | refine i_stb rfl ?_ | refine i_alloc rfl ?_ | refine i_box rfl rfl ?_ | refine i_nv rfl ?_ | refine c_node ?_ ?_ | refine i_g rfl (fun h => ?_) (fun h => ?_) | refine c_cond rfl (fun h => ?_) (fun h => ?_) | refine i_f rfl rfl (hS) rfl ?_ | refine i_f rfl rfl (hT) rfl ?_ | refine i_f rfl rfl (hP) rfl ?_)
      all_goals first
        | (exfalso; clear hT hS hP ho hv hb; simp at *; done)
        | (exfalso; clear hT hS hP ho hv hb; simp at *; omega)
        | (refine e_ret ⟨rfl, _, rfl, congrArg V.bool ?_⟩; first | rfl | (simp; done))
  · have hS := f_multi_Strips_bad m ho hb
    have hne : (mFault m).code ≠ 0 := fun h => hb ((mFault_iff m).1 h)
    clear hb
    generalize mFault m = F at *
    refine Fn.step mixed k_L1_MultiStatesHaveOneValue ?_
    repeat' (first | refine i_len rfl ?_ | refine i_s rfl ?_ | refine i_lenm rfl rfl rfl ?_ | refine c_seq ?_ | refine c_cut0 ?_ | refine c_ops ?_ | refine i_nil ?_ | refine e_seq ?_ | refine e_block ?_ | refine c_block ?_ | refine c_skip ?_ | refine c_ret ?_ | refine c_exit ?_ | refine e_exit rfl ?_ | refine i_s0 rfl ?_ | refine c_leaf ?_ | refine i_gt rfl ?_ | refine i_gf rfl ?_ | refine i_gd rfl ?_ | refine c_t rfl ?_ | refine c_f rfl ?_ | refine i_conv rfl (by simp only [InR, List.length_map]; omega) ?_ | refine i_add rfl rfl (by simp only [InR, List.length_map]; omega) ?_ | refine i_sub rfl rfl (by simp only [InR, List.length_map]; omega) ?_ | refine i_ixm rfl rfl (by assumption) ?_ | refine i_iai rfl rfl (by omega) (by assumption) rfl ?_ | refine i_iam rfl rfl (by assumption) rfl ?_ | refine i_tk rfl rfl (by omega) ?_ | refine i_stb rfl ?_ | refine i_alloc rfl ?_ | refine i_box rfl rfl ?_ | refine i_nv rfl ?_ | refine c_node ?_ ?_ | refine i_g rfl (fun h => ?_) (fun h => ?_) | refine c_cond rfl (fun h => ?_) (fun h => ?_) | refine i_f rfl rfl (hS) rfl ?_ | refine i_f rfl rfl (hT) rfl ?_)
    all_goals first
      | (exfalso; clear hT hS ho; simp at *; done)
      | (exfalso; clear hT hS ho; simp at *; omega)
      | (refine e_ret ⟨rfl, _, rfl, congrArg V.bool ?_⟩; first | rfl | (simp; done))
end Hm
end
