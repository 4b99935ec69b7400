/- The law of plans one behind the other answers true. -/
import Derived.Test.YtjkpijodocopmaaStG
section
/- The law of plans one behind the other answers true. -/
namespace Hm
open Go
set_option maxRecDepth 100000
set_option maxHeartbeats 4000000
set_option linter.unusedSimpArgs false
set_option linter.unusedVariables false
theorem stepsF_of {n : Nat} {plan : List Int} (h1 : plan.length ≤ 60) (h2 : ∀ x ∈ plan, 0 ≤ x ∧ x < n) : stepsF n plan = okF := by
  unfold stepsF
  rw [if_neg (by omega), if_neg]
  rw [Bool.not_eq_true, List.any_eq_false]
  intro x hx
  have := h2 x hx
  simp [badStep]
  omega
theorem plF_of_play {t : STask} {s plan : List Int} (h : playF t s plan = okF) : plFault t plan = okF := by
  obtain ⟨h1, h2, _⟩ := playF_ok h
  unfold plFault
  rw [if_pos (stFault_ok h1).2.2, h2]
theorem play_pre {t : STask} {s a b : List Int} (h : playF t s (a ++ b) = okF) : playF t s a = okF ∧ ∃ e1, endS t s a = some e1 ∧ playF t e1 b = okF ∧ endS t e1 b = endS t s (a ++ b) := by
  obtain ⟨h1, h2, e, he⟩ := playF_ok h
  obtain ⟨h60, hr⟩ := stepsF_ok h2
  obtain ⟨hv, hss, _⟩ := stFault_ok h1
  have hap := endS_append t a s b
  cases h3 : endS t s a with
  | none => rw [he, h3] at hap; cases hap
  | some e1 =>
    rw [he, h3] at hap
    simp only at hap
    have hla : a.length ≤ 60 := by simp at h60; omega
    have hlb : b.length ≤ 60 := by simp at h60; omega
    refine ⟨play_ok h1 (stepsF_of hla fun x hx => hr x (by simp [hx])) h3, e1, rfl, play_ok (stFault_of hv (endS_set hv _ _ _ hss h3)) (stepsF_of hlb fun x hx => hr x (by simp [hx])) hap.symm, ?_⟩
    rw [he, hap]
theorem play_cat {t : STask} {s a b e1 : List Int} (h : playF t s a = okF) (h1 : endS t s a = some e1) (hl : (a ++ b).length ≤ 60) (h2 : playF t e1 b = okF) : playF t s (a ++ b) = okF := by
  obtain ⟨q1, q2, _⟩ := playF_ok h
  obtain ⟨_, p2, e, he⟩ := playF_ok h2
  have r1 := (stepsF_ok q2).2
  have r2 := (stepsF_ok p2).2
  refine play_ok (e := e) q1 (stepsF_of hl fun x hx => ?_) ?_
  · rcases List.mem_append.1 hx with h | h
    · exact r1 x h
    · exact r2 x h
  · rw [endS_append, h1]; exact he
theorem last_ix {L : List (List Int)} {n : Nat} {e : List Int} (hl : L.length = n + 1) (h : L[n]? = some e) : L[((L.length : Int) - 1).toNat]? = some e := by
  rw [hl, show ((n + 1 : Nat) : Int) - 1 = (n : Int) from by omega]; exact h
def c_R1_Copy : Cmd :=
  (.seq
   (.ops [
   .op (some 2) none (.mov (.c (.sl .nil [])))])
   (.cut
   (.seq
   (.ops [
   .op (some 3) none (.newArr 2048193)])
   (.cut
   (.seq
   (.ops [
   .op (some 4) none (.mov (.t 3)),
   .op (some 5) none (.mov (.t 0)),
   .op (some 6) none (.append 1 8 (.t 4) (.t 5)),
   .op (some 2) none (.mov (.t 6))])
   .ret)))))
def r_R1_Copy : List RVar := [.tmp 2]
def n_R1_Copy : Nat := 7
theorem k_R1_Copy : chkFn Go.Proofs.Try.prog 32 n_R1_Copy r_R1_Copy c_R1_Copy = true := by kernel_rfl
theorem ct_R1_Copy1 {G : Type} {H : HT G} (s : List Int) (hl : s.length ≤ 17592186044416) (σ : Store) (g : G) (h1 : σ 2048193 = .unused) (hp : ∀ nm, σ nm ≠ .unused → nm ∈ [2048193]) :
    Cc Go.Proofs.Try.prog H 32 [.sl .p (s.map i64V)] [2048193] σ g fun r σ' g' => r = .msl 2048193 1 0 s.length ∧ σ' = stOf [(2048193, .arr 1 (s.map i64V))] ∧ g' = g := by
  refine CT.step _ mixed k_R1_Copy hp fun hM => ?_
  repeat (first | refine i_len rfl ?_ | refine i_s rfl ?_ | refine i_lenm rfl rfl rfl ?_ | refine c_seq ?_ | refine c_cut0 ?_ | refine c_ops ?_ | refine i_nil ?_ | refine e_seq ?_ | refine e_block ?_ | refine c_block ?_ | refine c_skip ?_ | refine c_ret ?_ | refine c_exit ?_ | refine e_exit rfl ?_ | refine i_s0 rfl ?_ | refine c_leaf ?_ | refine i_gt rfl ?_ | refine i_gf rfl ?_ | refine i_gd rfl ?_ | refine c_t rfl ?_ | refine c_f rfl ?_ | refine i_conv rfl (by simp only [InR, List.length_map]; omega) ?_ | refine i_add rfl rfl (by simp only [InR, List.length_map]; omega) ?_ | refine i_sub rfl rfl (by simp only [InR, List.length_map]; omega) ?_ | refine i_ixm rfl rfl (by assumption) ?_ | refine i_iai rfl rfl (by omega) (by assumption) rfl ?_ | refine i_iam rfl rfl (by assumption) rfl ?_ | refine i_tk rfl rfl (by omega) ?_ | refine i_stb rfl ?_ | refine i_alloc rfl ?_ | refine i_box rfl rfl ?_ | refine i_nv rfl ?_)
  refine i_na h1 ?_
  repeat (first | refine i_len rfl ?_ | refine i_s rfl ?_ | refine i_lenm rfl rfl rfl ?_ | refine c_seq ?_ | refine c_cut0 ?_ | refine c_ops ?_ | refine i_nil ?_ | refine e_seq ?_ | refine e_block ?_ | refine c_block ?_ | refine c_skip ?_ | refine c_ret ?_ | refine c_exit ?_ | refine e_exit rfl ?_ | refine i_s0 rfl ?_ | refine c_leaf ?_ | refine i_gt rfl ?_ | refine i_gf rfl ?_ | refine i_gd rfl ?_ | refine c_t rfl ?_ | refine c_f rfl ?_ | refine i_conv rfl (by simp only [InR, List.length_map]; omega) ?_ | refine i_add rfl rfl (by simp only [InR, List.length_map]; omega) ?_ | refine i_sub rfl rfl (by simp only [InR, List.length_map]; omega) ?_ | refine i_ixm rfl rfl (by assumption) ?_ | refine i_iai rfl rfl (by omega) (by assumption) rfl ?_ | refine i_iam rfl rfl (by assumption) rfl ?_ | refine i_tk rfl rfl (by omega) ?_ | refine i_stb rfl ?_ | refine i_alloc rfl ?_ | refine i_box rfl rfl ?_ | refine i_nv rfl ?_)
  refine i_appmM (l := []) (f := i64V) s rfl rfl rfl rfl rfl (fun c hc => ⟨rfl, rfl⟩) (by simp; omega) (by simp; omega) ?_
  repeat (first | refine i_len rfl ?_ | refine i_s rfl ?_ | refine i_lenm rfl rfl rfl ?_ | refine c_seq ?_ | refine c_cut0 ?_ | refine c_ops ?_ | refine i_nil ?_ | refine e_seq ?_ | refine e_block ?_ | refine c_block ?_ | refine c_skip ?_ | refine c_ret ?_ | refine c_exit ?_ | refine e_exit rfl ?_ | refine i_s0 rfl ?_ | refine c_leaf ?_ | refine i_gt rfl ?_ | refine i_gf rfl ?_ | refine i_gd rfl ?_ | refine c_t rfl ?_ | refine c_f rfl ?_ | refine i_conv rfl (by simp only [InR, List.length_map]; omega) ?_ | refine i_add rfl rfl (by simp only [InR, List.length_map]; omega) ?_ | refine i_sub rfl rfl (by simp only [InR, List.length_map]; omega) ?_ | refine i_ixm rfl rfl (by assumption) ?_ | refine i_iai rfl rfl (by omega) (by assumption) rfl ?_ | refine i_iam rfl rfl (by assumption) rfl ?_ | refine i_tk rfl rfl (by omega) ?_ | refine i_stb rfl ?_ | refine i_alloc rfl ?_ | refine i_box rfl rfl ?_ | refine i_nv rfl ?_)
  refine e_ret ⟨rfl, _, rfl, rfl, rfl, rfl, ?_, rfl⟩
  rw [restr_stOf]; rfl
def c_L1_StripsPlansConcatenate : Cmd :=
  (.seq
   (.ops [
   .op (some 4) none (.box 448260 4 (.t 0)),
   .op (some 8) none (.mov (.c (.bool false)))])
   (.cut
   (.seq
   (.seq
   (.ops [
   .op (some 22) none (.call .f (.c (.fn 10 [])) []),
   .op (some 23) none (.not (.t 22))])
   (.cut
   (.cond (.t 23)
   (.seq
   (.ops [
   .op (some 8) none (.mov (.c (.bool false)))])
   .ret)
   .skip)))
   (.cut
   (.seq
   (.seq
   (.ops [
   .op (some 24) none (.mov (.t 2)),
   .op (some 25) none (.len false (.t 24)),
   .op (some 26) none (.bin .gtr false [] (.t 25) (.c (.int .i64 (60)))),
   .op (some 27) none (.mov (.t 26)),
   .op (some 28) (some (27, false)) (.mov (.t 3)),
   .op (some 29) (some (27, false)) (.len false (.t 28)),
   .op (some 30) (some (27, false)) (.bin .gtr false [] (.t 29) (.c (.int .i64 (60)))),
   .op (some 31) none (.pick (.t 27) (.c (.bool true)) (.t 30))])
   (.cut
   (.cond (.t 31)
   (.seq
   (.ops [
   .op (some 8) none (.mov (.c (.bool true)))])
   .ret)
   .skip)))
   (.cut
   (.seq
   (.ops [
   .op (some 32) none (.mov (.t 2)),
   .op (some 33) none (.call (.s [2048193]) (.c (.fn 32 [])) [.t 32]),
   .op (some 34) none (.mov (.t 3)),
   .op (some 35) none (.append 1 8 (.t 33) (.t 34)),
   .op (some 9) none (.mov (.t 35))])
   (.seq (.frz 9) (.cut
   (.seq
   (.ops [
   .op (some 37) none (.load true 4 (.t 4)),
   .op (some 38) none (.mov (.t 1)),
   .op (some 39) none (.mov (.t 2)),
   .op (some 40) none (.call .f (.c (.fn 30 [])) [.t 37, .t 38, .t 39]),
   .op (some 36) none (.mov (.t 40)),
   .op (some 41) none (.extract (.t 36) 0),
   .op (some 42) none (.extract (.t 36) 1),
   .op (some 11) none (.alloc 448706 (.agg [.int .i64 (0), .int .i64 (0)])),
   .op (some 10) none (.mov (.t 41)),
   .op none none (.store 2 (.t 11) (.t 42))])
   (.cut
   (.seq
   (.ops [
   .op (some 44) none (.load true 4 (.t 4)),
   .op (some 45) none (.mov (.t 1)),
   .op (some 46) none (.mov (.t 9)),
   .op (some 47) none (.call .f (.c (.fn 30 [])) [.t 44, .t 45, .t 46]),
   .op (some 43) none (.mov (.t 47)),
   .op (some 48) none (.extract (.t 43) 0),
   .op (some 49) none (.extract (.t 43) 1),
   .op (some 13) none (.alloc 448834 (.agg [.int .i64 (0), .int .i64 (0)])),
   .op (some 12) none (.mov (.t 48)),
   .op none none (.store 2 (.t 13) (.t 49))])
   (.cut
   (.seq
   (.seq
   (.ops [
   .op (some 50) none (.faddr 0 (.t 11)),
   .op (some 51) none (.load false 1 (.t 50)),
   .op (some 52) none (.bin .neq false [.i] (.t 51) (.c (.int .i64 (0)))),
   .op (some 53) none (.mov (.t 52)),
   .op (some 54) (some (53, false)) (.mov (.t 10)),
   .op (some 55) (some (53, false)) (.len false (.t 54)),
   .op (some 56) (some (53, false)) (.bin .eql false [.i] (.t 55) (.c (.int .i64 (0)))),
   .op (some 57) none (.pick (.t 53) (.c (.bool true)) (.t 56))])
   (.cut
   (.cond (.t 57)
   (.seq
   (.ops [
   .op (some 58) none (.faddr 0 (.t 11)),
   .op (some 59) none (.load false 1 (.t 58)),
   .op (some 60) none (.bin .neq false [.i] (.t 59) (.c (.int .i64 (0)))),
   .op (some 61) none (.mov (.t 60)),
   .op (some 62) (some (61, true)) (.mov (.t 10)),
   .op (some 63) (some (61, true)) (.len false (.t 62)),
   .op (some 64) (some (61, true)) (.bin .eql false [.i] (.t 63) (.c (.int .i64 (0)))),
   .op (some 65) none (.pick (.t 61) (.t 64) (.c (.bool false))),
   .op (some 66) none (.mov (.t 65)),
   .op (some 67) (some (66, true)) (.faddr 0 (.t 13)),
   .op (some 68) (some (66, true)) (.load false 1 (.t 67)),
   .op (some 69) (some (66, true)) (.bin .neq false [.i] (.t 68) (.c (.int .i64 (0)))),
   .op (some 70) none (.pick (.t 66) (.t 69) (.c (.bool false))),
   .op (some 8) none (.mov (.t 70))])
   .ret)
   .skip)))
   (.cut
   (.seq
   (.opsT (.node 0 12 (.node 3 12 (.node 5 12 (.node 6 12 (.node 8 12 (.leaf [0, 1, 2, 3, 4, 5, 6, 7, 8, 9, 10, 11, 12, 13, 14]) (.leaf [0, 1, 2, 3, 4, 5, 6, 7, 12, 8, 9, 10, 11, 13, 14])) (.leaf [0, 1, 2, 3, 4, 5, 7, 12, 6, 8, 9, 10, 11, 13, 14])) (.leaf [0, 1, 2, 3, 4, 7, 12, 5, 6, 8, 9, 10, 11, 13, 14])) (.leaf [0, 1, 2, 7, 12, 3, 4, 5, 6, 8, 9, 10, 11, 13, 14])) (.node 3 12 (.node 5 12 (.node 6 12 (.leaf [1, 2, 3, 4, 5, 6, 7, 12, 0, 8, 9, 10, 11, 13, 14]) (.leaf [1, 2, 3, 4, 5, 7, 12, 0, 6, 8, 9, 10, 11, 13, 14])) (.leaf [1, 2, 3, 4, 7, 12, 0, 5, 6, 8, 9, 10, 11, 13, 14])) (.leaf [1, 2, 7, 12, 0, 3, 4, 5, 6, 8, 9, 10, 11, 13, 14]))) [
   .op (some 72) none (.load true 4 (.t 4)),
   .op (some 73) none (.mov (.t 10)),
   .op (some 74) none (.mov (.t 10)),
   .op (some 75) none (.len false (.t 74)),
   .op (some 76) none (.bin .sub false [] (.t 75) (.c (.int .i64 (1)))),
   .op (some 77) none (.iaddr 1 (.t 73) (.t 76)),
   .op (some 78) none (.load false 1 (.t 77)),
   .op (some 79) none (.mov (.t 3)),
   .op (some 80) none (.call .f (.c (.fn 30 [])) [.t 72, .t 78, .t 79]),
   .op (some 71) none (.mov (.t 80)),
   .op (some 81) none (.extract (.t 71) 0),
   .op (some 82) none (.extract (.t 71) 1),
   .op (some 15) none (.alloc 448962 (.agg [.int .i64 (0), .int .i64 (0)])),
   .op (some 14) none (.mov (.t 81)),
   .op none none (.store 2 (.t 15) (.t 82))])
   (.cut
   (.seq
   (.seq
   (.ops [
   .op (some 83) none (.faddr 0 (.t 13)),
   .op (some 84) none (.load false 1 (.t 83)),
   .op (some 85) none (.bin .neq false [.i] (.t 84) (.c (.int .i64 (0))))])
   (.cut
   (.cond (.t 85)
   (.seq
   (.ops [
   .op (some 86) none (.faddr 0 (.t 15)),
   .op (some 87) none (.load false 1 (.t 86)),
   .op (some 88) none (.bin .neq false [.i] (.t 87) (.c (.int .i64 (0)))),
   .op (some 89) none (.mov (.t 88)),
   .op (some 90) (some (89, false)) (.mov (.t 9)),
   .op (some 91) (some (89, false)) (.len false (.t 90)),
   .op (some 92) (some (89, false)) (.bin .gtr false [] (.t 91) (.c (.int .i64 (60)))),
   .op (some 93) none (.pick (.t 89) (.c (.bool true)) (.t 92)),
   .op (some 8) none (.mov (.t 93))])
   .ret)
   .skip)))
   (.cut
   (.seq
   (.ops [
   .op (some 95) none (.load true 4 (.t 4)),
   .op (some 96) none (.mov (.t 2)),
   .op (some 97) none (.call .f (.c (.fn 25 [])) [.t 95, .t 96]),
   .op (some 94) none (.mov (.t 97)),
   .op (some 98) none (.extract (.t 94) 0),
   .op (some 99) none (.extract (.t 94) 1),
   .op (some 17) none (.alloc 449090 (.agg [.int .i64 (0), .int .i64 (0)])),
   .op (some 16) none (.mov (.t 98)),
   .op none none (.store 2 (.t 17) (.t 99))])
   (.cut
   (.seq
   (.ops [
   .op (some 101) none (.load true 4 (.t 4)),
   .op (some 102) none (.mov (.t 3)),
   .op (some 103) none (.call .f (.c (.fn 25 [])) [.t 101, .t 102]),
   .op (some 100) none (.mov (.t 103)),
   .op (some 104) none (.extract (.t 100) 0),
   .op (some 105) none (.extract (.t 100) 1),
   .op (some 19) none (.alloc 449218 (.agg [.int .i64 (0), .int .i64 (0)])),
   .op (some 18) none (.mov (.t 104)),
   .op none none (.store 2 (.t 19) (.t 105))])
   (.cut
   (.seq
   (.ops [
   .op (some 107) none (.load true 4 (.t 4)),
   .op (some 108) none (.mov (.t 9)),
   .op (some 109) none (.call .f (.c (.fn 25 [])) [.t 107, .t 108]),
   .op (some 106) none (.mov (.t 109)),
   .op (some 110) none (.extract (.t 106) 0),
   .op (some 111) none (.extract (.t 106) 1),
   .op (some 21) none (.alloc 449346 (.agg [.int .i64 (0), .int .i64 (0)])),
   .op (some 20) none (.mov (.t 110)),
   .op none none (.store 2 (.t 21) (.t 111))])
   (.cut
   (.seq
   (.seq
   (.ops [
   .op (some 112) none (.faddr 0 (.t 15)),
   .op (some 113) none (.load false 1 (.t 112)),
   .op (some 114) none (.bin .neq false [.i] (.t 113) (.c (.int .i64 (0)))),
   .op (some 115) none (.mov (.t 114)),
   .op (some 116) (some (115, false)) (.faddr 0 (.t 17)),
   .op (some 117) (some (115, false)) (.load false 1 (.t 116)),
   .op (some 118) (some (115, false)) (.bin .neq false [.i] (.t 117) (.c (.int .i64 (0)))),
   .op (some 119) none (.pick (.t 115) (.c (.bool true)) (.t 118)),
   .op (some 120) none (.mov (.t 119)),
   .op (some 121) (some (120, false)) (.faddr 0 (.t 19)),
   .op (some 122) (some (120, false)) (.load false 1 (.t 121)),
   .op (some 123) (some (120, false)) (.bin .neq false [.i] (.t 122) (.c (.int .i64 (0)))),
   .op (some 124) none (.pick (.t 120) (.c (.bool true)) (.t 123)),
   .op (some 125) none (.mov (.t 124)),
   .op (some 126) (some (125, false)) (.faddr 0 (.t 21)),
   .op (some 127) (some (125, false)) (.load false 1 (.t 126)),
   .op (some 128) (some (125, false)) (.bin .neq false [.i] (.t 127) (.c (.int .i64 (0)))),
   .op (some 129) none (.pick (.t 125) (.c (.bool true)) (.t 128)),
   .op (some 130) none (.mov (.t 129)),
   .op (some 131) (some (130, false)) (.mov (.t 14)),
   .op (some 132) (some (130, false)) (.len false (.t 131)),
   .op (some 133) (some (130, false)) (.bin .eql false [.i] (.t 132) (.c (.int .i64 (0)))),
   .op (some 134) none (.pick (.t 130) (.c (.bool true)) (.t 133)),
   .op (some 135) none (.mov (.t 134)),
   .op (some 136) (some (135, false)) (.mov (.t 12)),
   .op (some 137) (some (135, false)) (.len false (.t 136)),
   .op (some 138) (some (135, false)) (.bin .eql false [.i] (.t 137) (.c (.int .i64 (0)))),
   .op (some 139) none (.pick (.t 135) (.c (.bool true)) (.t 138))])
   (.cut
   (.cond (.t 139)
   (.seq
   (.ops [
   .op (some 8) none (.mov (.c (.bool false)))])
   .ret)
   .skip)))
   (.cut
   (.seq
   (.ops [
   .op (some 140) none (.mov (.t 12)),
   .op (some 141) none (.mov (.t 12)),
   .op (some 142) none (.len false (.t 141)),
   .op (some 143) none (.bin .sub false [] (.t 142) (.c (.int .i64 (1)))),
   .op (some 144) none (.iaddr 1 (.t 140) (.t 143)),
   .op (some 145) none (.load false 1 (.t 144)),
   .op (some 146) none (.mov (.t 14)),
   .op (some 147) none (.mov (.t 14)),
   .op (some 148) none (.len false (.t 147)),
   .op (some 149) none (.bin .sub false [] (.t 148) (.c (.int .i64 (1)))),
   .op (some 150) none (.iaddr 1 (.t 146) (.t 149)),
   .op (some 151) none (.load false 1 (.t 150)),
   .op (some 152) none (.call .f (.c (.fn 15 [])) [.t 145, .t 151]),
   .op (some 153) none (.mov (.t 152)),
   .op (some 154) (some (153, true)) (.mov (.t 20)),
   .op (some 155) (some (153, true)) (.mov (.t 16)),
   .op (some 156) (some (153, true)) (.mov (.t 18)),
   .op (some 157) (some (153, true)) (.bin .add false [] (.t 155) (.t 156)),
   .op (some 158) (some (153, true)) (.bin .eql false [.i] (.t 154) (.t 157)),
   .op (some 159) none (.pick (.t 153) (.t 158) (.c (.bool false))),
   .op (some 8) none (.mov (.t 159))])
   .ret))))))))))))))))))))))))))))
def r_L1_StripsPlansConcatenate : List RVar := [.tmp 8]
def n_L1_StripsPlansConcatenate : Nat := 160
theorem k_L1_StripsPlansConcatenate : chkFn Go.Proofs.Try.prog 7 n_L1_StripsPlansConcatenate r_L1_StripsPlansConcatenate c_L1_StripsPlansConcatenate = true := by kernel_rfl
theorem f_L1_StripsPlansConcatenate (t : STask) (ho : SkOk t) (s a b : List Int) (hs : s.length ≤ 140737488355328) (hla : a.length ≤ 17592186044416) (hlb : b.length ≤ 17592186044416) : Fc Go.Proofs.Try.prog 7 [skV t, .sl .p (s.map i64V), .sl .p (a.map i64V), .sl .p (b.map i64V)] (.bool true) := by
  have hT := f_L1_acts
  by_cases hbig : a.length > 60 ∨ b.length > 60
  · refine Fn.step mixed k_L1_StripsPlansConcatenate ?_
    repeat' (first | refine i_len rfl ?_ | refine i_s rfl ?_ | refine i_lenm rfl rfl rfl ?_ | refine c_seq ?_ | refine c_cut0 ?_ | refine c_ops ?_ | refine i_nil ?_ | refine e_seq ?_ | refine e_block ?_ | refine c_block ?_ | refine c_skip ?_ | refine c_ret ?_ | refine c_exit ?_ | refine e_exit rfl ?_ | refine i_s0 rfl ?_ | refine c_leaf ?_ | refine i_gt rfl ?_ | refine i_gf rfl ?_ | refine i_gd rfl ?_ | refine c_t rfl ?_ | refine c_f rfl ?_ | refine i_conv rfl (by simp only [InR, List.length_map]; omega) ?_ | refine i_add rfl rfl (by simp only [InR, List.length_map]; omega) ?_ | refine i_sub rfl rfl (by simp only [InR, List.length_map]; omega) ?_ | refine i_ixm rfl rfl (by assumption) ?_ | refine i_iai rfl rfl (by omega) (by assumption) rfl ?_ | refine i_iam rfl rfl (by assumption) rfl ?_ | refine i_tk rfl rfl (by omega) ?_ | refine i_stb rfl ?_ | refine i_alloc rfl ?_ | refine i_box rfl rfl ?_ | refine i_nv rfl ?_ | refine c_node ?_ ?_ | refine i_g rfl (fun h => ?_) (fun h => ?_) | refine c_cond rfl (fun h => ?_) (fun h => ?_) | refine i_f rfl rfl (hT) rfl ?_)
    all_goals first
      | exact e_ret ⟨rfl, _, rfl, rfl⟩
      | (exfalso; clear hT ho; simp at *; omega)
  have ha60 : a.length ≤ 60 := by omega
  have hb60 : b.length ≤ 60 := by omega
  clear hbig
  have hP1 := f_strips_Play t ho s hs a (by omega)
  have hP2 := f_strips_Play t ho s hs (a ++ b) (by simp; omega)
  rw [show V.sl .p ((a ++ b).map i64V) = .sl .p ((((a ++ b).map i64V).drop 0).take (a ++ b).length) from (msl_all rfl).symm] at hP2
  have hab : (a ++ b).length = a.length + b.length := by simp
  have e9 : V.sl .p ((a ++ b).map i64V) = .sl .p ((((a ++ b).map i64V).drop 0).take (a ++ b).length) := (msl_all rfl).symm
  by_cases hf : playF t s a = okF
  · obtain ⟨hst, hsa, e1, he1⟩ := playF_ok hf
    obtain ⟨hv, hss, _⟩ := stFault_ok hst
    have hes := endS_set hv _ _ _ hss he1
    have hel := set_le hv hes
    have hP3 := f_strips_Play t ho e1 (by omega) b (by omega)
    rw [playL_ok hf, hf] at hP1
    have hx := run_get t a s
    rw [he1] at hx
    have hxl : (s :: runT t s a).length = a.length + 1 := by simp [run_all he1]
    generalize s :: runT t s a = X at *
    have hxi := last_ix hxl hx
    have alt : (playF t s (a ++ b) = okF ∧ playF t e1 b = okF ∧ ∃ e, (playL t s (a ++ b))[(((playL t s (a ++ b)).length : Int) - 1).toNat]? = some e ∧ (playL t e1 b)[(((playL t e1 b).length : Int) - 1).toNat]? = some e ∧ (playL t s (a ++ b)).length = (a ++ b).length + 1 ∧ (playL t e1 b).length = b.length + 1 ∧ e.length ≤ 24) ∨
        (playF t s (a ++ b) ≠ okF ∧ (playF t e1 b ≠ okF ∨ 60 < (a ++ b).length)) := by
      by_cases hh : playF t s (a ++ b) = okF
      · obtain ⟨_, e1', he1', hg, hend⟩ := play_pre hh
        rw [he1] at he1'
        cases he1'
        obtain ⟨_, hsab, e, he⟩ := playF_ok hh
        have heb : endS t e1 b = some e := hend.trans he
        have hz := run_get t (a ++ b) s
        have hy := run_get t b e1
        rw [he] at hz
        rw [heb] at hy
        have hzl : (s :: runT t s (a ++ b)).length = (a ++ b).length + 1 := by simp [run_all he]
        have hyl : (e1 :: runT t e1 b).length = b.length + 1 := by simp [run_all heb]
        rw [playL_ok hh, playL_ok hg]
        exact .inl ⟨hh, hg, e, last_ix hzl hz, last_ix hyl hy, hzl, hyl, set_le hv (endS_set hv _ _ _ hss he)⟩
      · refine .inr ⟨hh, ?_⟩
        by_cases hg : playF t e1 b = okF
        · refine .inr (Nat.lt_of_not_le fun hle => hh (play_cat hf he1 hle hg))
        · exact .inl hg
    have cst : playF t s (a ++ b) = okF → playF t e1 b = okF → Fc Go.Proofs.Try.prog 25 [skV t, .sl .p (a.map i64V)] (.tup [.int .i64 (costS t a), ftV okF]) ∧ Fc Go.Proofs.Try.prog 25 [skV t, .sl .p (b.map i64V)] (.tup [.int .i64 (costS t b), ftV okF]) ∧ Fc Go.Proofs.Try.prog 25 [skV t, .sl .p ((((a ++ b).map i64V).drop 0).take (a ++ b).length)] (.tup [.int .i64 (costS t a + costS t b), ftV okF]) := fun hh hg => by
      refine ⟨f_strips_Cost_ok t ho a (plF_of_play hf), f_strips_Cost_ok t ho b (plF_of_play hg), ?_⟩
      have := f_strips_Cost_ok t ho (a ++ b) (plF_of_play hh)
      rwa [e9, costS_append] at this
    have c1 := costS_range hv a
    have c2 := costS_range hv b
    have z1 := play_code t s (a ++ b)
    have z2 := play_code t e1 b
    clear hf hst hsa hv hss hes he1 hx e9
    generalize costS t a = ca at *
    generalize costS t b = cb at *
    generalize playL t s (a ++ b) = Z at *
    generalize playF t s (a ++ b) = ZF at *
    generalize playL t e1 b = Y at *
    generalize playF t e1 b = YF at *
    refine Fn.step mixed k_L1_StripsPlansConcatenate ?_
    repeat' (first | refine i_len rfl ?_ | refine i_s rfl ?_ | refine i_lenm rfl rfl rfl ?_ | refine c_seq ?_ | refine c_cut0 ?_ | refine c_ops ?_ | refine i_nil ?_ | refine e_seq ?_ | refine e_block ?_ | refine c_block ?_ | refine c_skip ?_ | refine c_ret ?_ | refine c_exit ?_ | refine e_exit rfl ?_ | refine i_s0 rfl ?_ | refine c_leaf ?_ | refine i_gt rfl ?_ | refine i_gf rfl ?_ | refine i_gd rfl ?_ | refine c_t rfl ?_ | refine c_f rfl ?_ | refine i_conv rfl (by simp only [InR, List.length_map]; omega) ?_ | refine i_add rfl rfl (by simp only [InR, List.length_map]; omega) ?_ | refine i_sub rfl rfl (by simp only [InR, List.length_map]; omega) ?_ | refine i_ixm rfl rfl (by assumption) ?_ | refine i_iai rfl rfl (by omega) (by assumption) rfl ?_ | refine i_iam rfl rfl (by assumption) rfl ?_ | refine i_tk rfl rfl (by omega) ?_ | refine i_stb rfl ?_ | refine i_alloc rfl ?_ | refine i_box rfl rfl ?_ | refine i_nv rfl ?_ | refine c_node ?_ ?_ | refine i_g rfl (fun h => ?_) (fun h => ?_) | refine c_cond rfl (fun h => ?_) (fun h => ?_) | refine i_f rfl rfl (hT) rfl ?_)
    all_goals first | (exfalso; clear hT hP1 hP2 hP3 alt cst z1 z2 ho; simp at *; omega) | skip
    refine i_c rfl rfl rfl (ct_R1_Copy1 a (by omega) _ _ rfl fun nm h => restr_mem nm h) ?_
    rintro _ _ _ ⟨rfl, rfl, rfl⟩
    repeat (first | refine i_len rfl ?_ | refine i_s rfl ?_ | refine i_lenm rfl rfl rfl ?_ | refine c_seq ?_ | refine c_cut0 ?_ | refine c_ops ?_ | refine i_nil ?_ | refine e_seq ?_ | refine e_block ?_ | refine c_block ?_ | refine c_skip ?_ | refine c_ret ?_ | refine c_exit ?_ | refine e_exit rfl ?_ | refine i_s0 rfl ?_ | refine c_leaf ?_ | refine i_gt rfl ?_ | refine i_gf rfl ?_ | refine i_gd rfl ?_ | refine c_t rfl ?_ | refine c_f rfl ?_ | refine i_conv rfl (by simp only [InR, List.length_map]; omega) ?_ | refine i_add rfl rfl (by simp only [InR, List.length_map]; omega) ?_ | refine i_sub rfl rfl (by simp only [InR, List.length_map]; omega) ?_ | refine i_ixm rfl rfl (by assumption) ?_ | refine i_iai rfl rfl (by omega) (by assumption) rfl ?_ | refine i_iam rfl rfl (by assumption) rfl ?_ | refine i_tk rfl rfl (by omega) ?_ | refine i_stb rfl ?_ | refine i_alloc rfl ?_ | refine i_box rfl rfl ?_ | refine i_nv rfl ?_)
    refine i_appmM b rfl rfl rfl rfl rfl (fun c hc => ⟨rfl, rfl⟩) (by omega) (by omega) ?_
    repeat (first | refine i_len rfl ?_ | refine i_s rfl ?_ | refine i_lenm rfl rfl rfl ?_ | refine c_seq ?_ | refine c_cut0 ?_ | refine c_ops ?_ | refine i_nil ?_ | refine e_seq ?_ | refine e_block ?_ | refine c_block ?_ | refine c_skip ?_ | refine c_ret ?_ | refine c_exit ?_ | refine e_exit rfl ?_ | refine i_s0 rfl ?_ | refine c_leaf ?_ | refine i_gt rfl ?_ | refine i_gf rfl ?_ | refine i_gd rfl ?_ | refine c_t rfl ?_ | refine c_f rfl ?_ | refine i_conv rfl (by simp only [InR, List.length_map]; omega) ?_ | refine i_add rfl rfl (by simp only [InR, List.length_map]; omega) ?_ | refine i_sub rfl rfl (by simp only [InR, List.length_map]; omega) ?_ | refine i_ixm rfl rfl (by assumption) ?_ | refine i_iai rfl rfl (by omega) (by assumption) rfl ?_ | refine i_iam rfl rfl (by assumption) rfl ?_ | refine i_tk rfl rfl (by omega) ?_ | refine i_stb rfl ?_ | refine i_alloc rfl ?_ | refine i_box rfl rfl ?_ | refine i_nv rfl ?_)
    refine c_frza rfl rfl rfl ?_
    repeat (first | refine i_len rfl ?_ | refine i_s rfl ?_ | refine i_lenm rfl rfl rfl ?_ | refine c_seq ?_ | refine c_cut0 ?_ | refine c_ops ?_ | refine i_nil ?_ | refine e_seq ?_ | refine e_block ?_ | refine c_block ?_ | refine c_skip ?_ | refine c_ret ?_ | refine c_exit ?_ | refine e_exit rfl ?_ | refine i_s0 rfl ?_ | refine c_leaf ?_ | refine i_gt rfl ?_ | refine i_gf rfl ?_ | refine i_gd rfl ?_ | refine c_t rfl ?_ | refine c_f rfl ?_ | refine i_conv rfl (by simp only [InR, List.length_map]; omega) ?_ | refine i_add rfl rfl (by simp only [InR, List.length_map]; omega) ?_ | refine i_sub rfl rfl (by simp only [InR, List.length_map]; omega) ?_ | refine i_ixm rfl rfl (by assumption) ?_ | refine i_iai rfl rfl (by omega) (by assumption) rfl ?_ | refine i_iam rfl rfl (by assumption) rfl ?_ | refine i_tk rfl rfl (by omega) ?_ | refine i_stb rfl ?_ | refine i_alloc rfl ?_ | refine i_box rfl rfl ?_ | refine i_nv rfl ?_ | refine i_f rfl rfl (hP1) rfl ?_ | refine i_f rfl rfl (hP2) rfl ?_)
    refine c_cond rfl (fun h => ?_) (fun h => ?_)
    · exfalso; simp at h; rw [h] at hxl; simp at hxl
    clear h
    repeat (first | refine i_len rfl ?_ | refine i_s rfl ?_ | refine i_lenm rfl rfl rfl ?_ | refine c_seq ?_ | refine c_cut0 ?_ | refine c_ops ?_ | refine i_nil ?_ | refine e_seq ?_ | refine e_block ?_ | refine c_block ?_ | refine c_skip ?_ | refine c_ret ?_ | refine c_exit ?_ | refine e_exit rfl ?_ | refine i_s0 rfl ?_ | refine c_leaf ?_ | refine i_gt rfl ?_ | refine i_gf rfl ?_ | refine i_gd rfl ?_ | refine c_t rfl ?_ | refine c_f rfl ?_ | refine i_conv rfl (by simp only [InR, List.length_map]; omega) ?_ | refine i_add rfl rfl (by simp only [InR, List.length_map]; omega) ?_ | refine i_sub rfl rfl (by simp only [InR, List.length_map]; omega) ?_ | refine i_ixm rfl rfl (by assumption) ?_ | refine i_iai rfl rfl (by omega) (by assumption) rfl ?_ | refine i_iam rfl rfl (by assumption) rfl ?_ | refine i_tk rfl rfl (by omega) ?_ | refine i_stb rfl ?_ | refine i_alloc rfl ?_ | refine i_box rfl rfl ?_ | refine i_nv rfl ?_)
    refine c_join noH_mono (fun e ρ' σ' g' => e = .normal ∧ Fits [] [(2, .sl .p (a.map i64V)), (3, .sl .p (b.map i64V)), (4, .bptr 448260 0), (9, .sl .p ((((a ++ b).map i64V).drop 0).take (a ++ b).length)), (12, .sl .p (Z.map ssV)), (13, .bptr 448834 0), (14, .sl .p (Y.map ssV)), (15, .bptr 448962 0)] [(448260, .box (skV t)), (448834, .box (ftV ZF)), (448962, .box (ftV YF))] ρ' σ') ?_ ?_
    · repeat' (first | refine i_len rfl ?_ | refine i_s rfl ?_ | refine i_lenm rfl rfl rfl ?_ | refine c_seq ?_ | refine c_cut0 ?_ | refine c_ops ?_ | refine i_nil ?_ | refine e_seq ?_ | refine e_block ?_ | refine c_block ?_ | refine c_skip ?_ | refine c_ret ?_ | refine c_exit ?_ | refine e_exit rfl ?_ | refine i_s0 rfl ?_ | refine c_leaf ?_ | refine i_gt rfl ?_ | refine i_gf rfl ?_ | refine i_gd rfl ?_ | refine c_t rfl ?_ | refine c_f rfl ?_ | refine i_conv rfl (by simp only [InR, List.length_map]; omega) ?_ | refine i_add rfl rfl (by simp only [InR, List.length_map]; omega) ?_ | refine i_sub rfl rfl (by simp only [InR, List.length_map]; omega) ?_ | refine i_ixm rfl rfl (by assumption) ?_ | refine i_iai rfl rfl (by omega) (by assumption) rfl ?_ | refine i_iam rfl rfl (by assumption) rfl ?_ | refine i_tk rfl rfl (by omega) ?_ | refine i_stb rfl ?_ | refine i_alloc rfl ?_ | refine i_box rfl rfl ?_ | refine i_nv rfl ?_ | refine c_node ?_ ?_ | refine i_g rfl (fun h => ?_) (fun h => ?_) | refine c_cond rfl (fun h => ?_) (fun h => ?_) | refine i_f rfl rfl (hP3) rfl ?_)
      all_goals exact e_end ⟨rfl, ⟨by repeat (first | exact trivial | refine ⟨rfl, ?_⟩), by repeat (first | exact trivial | refine ⟨rfl, ?_⟩), rfl⟩⟩
    rintro e0 ρ' σ' g' ⟨rfl, hf0⟩
    refine e_seq ?_
    refine c_cut _ _ hf0 ?_
    clear hf0 ρ' σ' hP1 hP2 hP3 hT
    rcases alt with ⟨rfl, rfl, e, hzi, hyi, hzl, hyl, hee⟩ | ⟨hz, hy⟩
    · obtain ⟨hC1, hC2, hC3⟩ := cst rfl rfl
      have hIn := f_Ints_same e (by omega)
      clear cst z1 z2
      have hzn : ¬ Z = [] := fun h => by rw [h] at hzl; simp at hzl
      have hyn : ¬ Y = [] := fun h => by rw [h] at hyl; simp at hyl
      repeat' (first | refine i_len rfl ?_ | refine i_s rfl ?_ | refine i_lenm rfl rfl rfl ?_ | refine c_seq ?_ | refine c_cut0 ?_ | refine c_ops ?_ | refine i_nil ?_ | refine e_seq ?_ | refine e_block ?_ | refine c_block ?_ | refine c_skip ?_ | refine c_ret ?_ | refine c_exit ?_ | refine e_exit rfl ?_ | refine i_s0 rfl ?_ | refine c_leaf ?_ | refine i_gt rfl ?_ | refine i_gf rfl ?_ | refine i_gd rfl ?_ | refine c_t rfl ?_ | refine c_f rfl ?_ | refine i_conv rfl (by simp only [InR, List.length_map]; omega) ?_ | refine i_add rfl rfl (by simp only [InR, List.length_map]; omega) ?_ | refine i_sub rfl rfl (by simp only [InR, List.length_map]; omega) ?_ | refine i_ixm rfl rfl (by assumption) ?_ | refine i_iai rfl rfl (by omega) (by assumption) rfl ?_ | refine i_iam rfl rfl (by assumption) rfl ?_ | refine i_tk rfl rfl (by omega) ?_ | refine i_stb rfl ?_ | refine i_alloc rfl ?_ | refine i_box rfl rfl ?_ | refine i_nv rfl ?_ | refine c_node ?_ ?_ | refine i_g rfl (fun h => ?_) (fun h => ?_) | refine c_cond rfl (fun h => ?_) (fun h => ?_) | refine i_f rfl rfl (hC1) rfl ?_ | refine i_f rfl rfl (hC2) rfl ?_ | refine i_f rfl rfl (hC3) rfl ?_ | refine i_f rfl rfl (hIn) rfl ?_)
      all_goals first
        | (exfalso; clear hC1 hC2 hC3 hIn ho hzi hyi; simp at *; contradiction)
        | (refine e_ret ⟨rfl, _, rfl, congrArg V.bool ?_⟩; simp; done)
        | trace_state
    · have hzc : ZF.code ≠ 0 := fun h => hz (z1.1 h)
      have hyc : YF.code ≠ 0 ∨ 60 < (a ++ b).length := by
        rcases hy with h | h
        · exact .inl fun h2 => h (z2.1 h2)
        · exact .inr h
      clear hz hy z1 z2 cst
      repeat' (first | refine i_len rfl ?_ | refine i_s rfl ?_ | refine i_lenm rfl rfl rfl ?_ | refine c_seq ?_ | refine c_cut0 ?_ | refine c_ops ?_ | refine i_nil ?_ | refine e_seq ?_ | refine e_block ?_ | refine c_block ?_ | refine c_skip ?_ | refine c_ret ?_ | refine c_exit ?_ | refine e_exit rfl ?_ | refine i_s0 rfl ?_ | refine c_leaf ?_ | refine i_gt rfl ?_ | refine i_gf rfl ?_ | refine i_gd rfl ?_ | refine c_t rfl ?_ | refine c_f rfl ?_ | refine i_conv rfl (by simp only [InR, List.length_map]; omega) ?_ | refine i_add rfl rfl (by simp only [InR, List.length_map]; omega) ?_ | refine i_sub rfl rfl (by simp only [InR, List.length_map]; omega) ?_ | refine i_ixm rfl rfl (by assumption) ?_ | refine i_iai rfl rfl (by omega) (by assumption) rfl ?_ | refine i_iam rfl rfl (by assumption) rfl ?_ | refine i_tk rfl rfl (by omega) ?_ | refine i_stb rfl ?_ | refine i_alloc rfl ?_ | refine i_box rfl rfl ?_ | refine i_nv rfl ?_ | refine c_node ?_ ?_ | refine i_g rfl (fun h => ?_) (fun h => ?_) | refine c_cond rfl (fun h => ?_) (fun h => ?_))
      all_goals first
        | (refine e_ret ⟨rfl, _, rfl, congrArg V.bool ?_⟩; first | rfl | (clear ho; simp at *; omega))
        | (exfalso; clear ho; simp at *; omega)
        | trace_state
  · have hh : playF t s (a ++ b) ≠ okF := fun h => hf (play_pre h).1
    have n1 : (playF t s a).code ≠ 0 := fun h => hf ((play_code _ _ _).1 h)
    have n2 : (playF t s (a ++ b)).code ≠ 0 := fun h => hh ((play_code _ _ _).1 h)
    rw [playL_bad hf] at hP1
    rw [playL_bad hh] at hP2
    clear hf hh e9
    generalize playF t s (a ++ b) = ZF at *
    generalize playF t s a = XF at *
    refine Fn.step mixed k_L1_StripsPlansConcatenate ?_
    repeat' (first | refine i_len rfl ?_ | refine i_s rfl ?_ | refine i_lenm rfl rfl rfl ?_ | refine c_seq ?_ | refine c_cut0 ?_ | refine c_ops ?_ | refine i_nil ?_ | refine e_seq ?_ | refine e_block ?_ | refine c_block ?_ | refine c_skip ?_ | refine c_ret ?_ | refine c_exit ?_ | refine e_exit rfl ?_ | refine i_s0 rfl ?_ | refine c_leaf ?_ | refine i_gt rfl ?_ | refine i_gf rfl ?_ | refine i_gd rfl ?_ | refine c_t rfl ?_ | refine c_f rfl ?_ | refine i_conv rfl (by simp only [InR, List.length_map]; omega) ?_ | refine i_add rfl rfl (by simp only [InR, List.length_map]; omega) ?_ | refine i_sub rfl rfl (by simp only [InR, List.length_map]; omega) ?_ | refine i_ixm rfl rfl (by assumption) ?_ | refine i_iai rfl rfl (by omega) (by assumption) rfl ?_ | refine i_iam rfl rfl (by assumption) rfl ?_ | refine i_tk rfl rfl (by omega) ?_ | refine i_stb rfl ?_ | refine i_alloc rfl ?_ | refine i_box rfl rfl ?_ | refine i_nv rfl ?_ | refine c_node ?_ ?_ | refine i_g rfl (fun h => ?_) (fun h => ?_) | refine c_cond rfl (fun h => ?_) (fun h => ?_) | refine i_f rfl rfl (hT) rfl ?_)
    all_goals first | (exfalso; clear hT hP1 hP2 ho; simp at *; omega) | skip
    refine i_c rfl rfl rfl (ct_R1_Copy1 a (by omega) _ _ rfl fun nm h => restr_mem nm h) ?_
    rintro _ _ _ ⟨rfl, rfl, rfl⟩
    repeat (first | refine i_len rfl ?_ | refine i_s rfl ?_ | refine i_lenm rfl rfl rfl ?_ | refine c_seq ?_ | refine c_cut0 ?_ | refine c_ops ?_ | refine i_nil ?_ | refine e_seq ?_ | refine e_block ?_ | refine c_block ?_ | refine c_skip ?_ | refine c_ret ?_ | refine c_exit ?_ | refine e_exit rfl ?_ | refine i_s0 rfl ?_ | refine c_leaf ?_ | refine i_gt rfl ?_ | refine i_gf rfl ?_ | refine i_gd rfl ?_ | refine c_t rfl ?_ | refine c_f rfl ?_ | refine i_conv rfl (by simp only [InR, List.length_map]; omega) ?_ | refine i_add rfl rfl (by simp only [InR, List.length_map]; omega) ?_ | refine i_sub rfl rfl (by simp only [InR, List.length_map]; omega) ?_ | refine i_ixm rfl rfl (by assumption) ?_ | refine i_iai rfl rfl (by omega) (by assumption) rfl ?_ | refine i_iam rfl rfl (by assumption) rfl ?_ | refine i_tk rfl rfl (by omega) ?_ | refine i_stb rfl ?_ | refine i_alloc rfl ?_ | refine i_box rfl rfl ?_ | refine i_nv rfl ?_)
    refine i_appmM b rfl rfl rfl rfl rfl (fun c hc => ⟨rfl, rfl⟩) (by omega) (by omega) ?_
    repeat (first | refine i_len rfl ?_ | refine i_s rfl ?_ | refine i_lenm rfl rfl rfl ?_ | refine c_seq ?_ | refine c_cut0 ?_ | refine c_ops ?_ | refine i_nil ?_ | refine e_seq ?_ | refine e_block ?_ | refine c_block ?_ | refine c_skip ?_ | refine c_ret ?_ | refine c_exit ?_ | refine e_exit rfl ?_ | refine i_s0 rfl ?_ | refine c_leaf ?_ | refine i_gt rfl ?_ | refine i_gf rfl ?_ | refine i_gd rfl ?_ | refine c_t rfl ?_ | refine c_f rfl ?_ | refine i_conv rfl (by simp only [InR, List.length_map]; omega) ?_ | refine i_add rfl rfl (by simp only [InR, List.length_map]; omega) ?_ | refine i_sub rfl rfl (by simp only [InR, List.length_map]; omega) ?_ | refine i_ixm rfl rfl (by assumption) ?_ | refine i_iai rfl rfl (by omega) (by assumption) rfl ?_ | refine i_iam rfl rfl (by assumption) rfl ?_ | refine i_tk rfl rfl (by omega) ?_ | refine i_stb rfl ?_ | refine i_alloc rfl ?_ | refine i_box rfl rfl ?_ | refine i_nv rfl ?_)
    refine c_frza rfl rfl rfl ?_
    repeat' (first | refine i_len rfl ?_ | refine i_s rfl ?_ | refine i_lenm rfl rfl rfl ?_ | refine c_seq ?_ | refine c_cut0 ?_ | refine c_ops ?_ | refine i_nil ?_ | refine e_seq ?_ | refine e_block ?_ | refine c_block ?_ | refine c_skip ?_ | refine c_ret ?_ | refine c_exit ?_ | refine e_exit rfl ?_ | refine i_s0 rfl ?_ | refine c_leaf ?_ | refine i_gt rfl ?_ | refine i_gf rfl ?_ | refine i_gd rfl ?_ | refine c_t rfl ?_ | refine c_f rfl ?_ | refine i_conv rfl (by simp only [InR, List.length_map]; omega) ?_ | refine i_add rfl rfl (by simp only [InR, List.length_map]; omega) ?_ | refine i_sub rfl rfl (by simp only [InR, List.length_map]; omega) ?_ | refine i_ixm rfl rfl (by assumption) ?_ | refine i_iai rfl rfl (by omega) (by assumption) rfl ?_ | refine i_iam rfl rfl (by assumption) rfl ?_ | refine i_tk rfl rfl (by omega) ?_ | refine i_stb rfl ?_ | refine i_alloc rfl ?_ | refine i_box rfl rfl ?_ | refine i_nv rfl ?_ | refine c_node ?_ ?_ | refine i_g rfl (fun h => ?_) (fun h => ?_) | refine c_cond rfl (fun h => ?_) (fun h => ?_) | refine i_f rfl rfl (hP1) rfl ?_ | refine i_f rfl rfl (hP2) rfl ?_)
    all_goals first
      | (refine e_ret ⟨rfl, _, rfl, congrArg V.bool ?_⟩; first | rfl | (clear hT hP1 hP2 ho; simp at *; try omega))
      | (exfalso; clear hT hP1 hP2 ho; simp at *; done)
      | (exfalso; clear hT hP1 hP2 ho; simp at *; omega)
      | trace_state
end Hm
end
