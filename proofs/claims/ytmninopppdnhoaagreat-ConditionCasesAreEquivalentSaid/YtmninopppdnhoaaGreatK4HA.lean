/- Part K4HA of the proof. -/
import Derived.Test.YtmninopppdnhoaaGreatKHA
import Derived.Test.YtmninopppdnhoaaGreatK4PA
set_option linter.unusedVariables false
set_option linter.unusedSimpArgs false
section
namespace Hm
open Go
set_option maxRecDepth 100000
set_option maxHeartbeats 4000000
theorem evalFault_code (d : Dom) (c : Cnd) (l : List At) (args : List Int) : (evalFault d c l args).code = 0 ↔ evalFault d c l args = okF := by
  unfold evalFault
  split
  · exact condFault_code d c
  · split
    · exact groundFault_code d l
    · exact argsFault_code d c args
theorem casesFault_code (d : Dom) (c : Cnd) (args : List Int) : (casesFault d c args).code = 0 ↔ casesFault d c args = okF := by
  unfold casesFault
  split
  · exact condFault_code d c
  · split
    · exact argsFault_code d c args
    · split
      · simp [okF]
      · simp [okF]
theorem cases_T {d : Dom} {c : Cnd} (ho : CndOk c) {l : List At} {args : List Int} (h1 : casesFault d c args = okF) (h2 : evalFault d c l args = okF) :
    ∃ B, B ≤ 40000000 ∧ CsOk B (casesOut d c args) ∧ csT l (casesOut d c args) = evalB d c l args := by
  have e : casesOut d c args = (nd d c.nodes (c.nodes.length - 1) args false).1 := by unfold casesOut; rw [if_pos h1]
  have t1 : condFault d c = okF := by
    unfold casesFault at h1
    split at h1
    · rename_i h; exact absurd h1 h
    · rename_i h; simpa using h
  have t2 : argsFault d c args = okF ∧ (nd d c.nodes (c.nodes.length - 1) args false).2 = false := by
    unfold casesFault at h1
    rw [if_neg (by simp [t1])] at h1
    split at h1
    · rename_i h; exact absurd h1 h
    · rename_i h
      refine ⟨by simpa using h, ?_⟩
      split at h1
      · cases h1
      · rename_i h; simpa using h
  have hcv := cndV_of t1
  have hdt := domTy hcv.dom
  obtain ⟨p1, p2⟩ := paramsCode_ok hcv.par
  have hao := argsFault_ok t2.1
  have hpos := hcv.pos
  have h30 := hcv.len
  have hok : CsOk _ (nd d c.nodes (c.nodes.length - 1) args false).1 := (nd_ok hdt ho.nodes hcv.root (by omega) args hao false).1 rfl
  refine ⟨_, pow_ok (m := c.nodes.length - 1 + 1 - 0) (k := 6 - c.types.length) (by omega) (by omega) (Nat.le_refl _), by rw [e]; exact hok, ?_⟩
  rw [e, nd_T hdt ho.nodes (c.nodes.length - 1) 0 c.types args false hcv.root (by omega) hao t2.2]
  unfold evalB
  rw [h2, decide_eq_true rfl, Bool.true_and]
  simp
def c_L1_ConditionCasesAreEquivalent : Cmd :=
 (qS [qx 4 448262 6 0, qx 5 448322 2 1, qb 8 false]
 (qT (qS [qk 17 9 [], qq 18 (.not (.t 17))]
 (.cond (.t 18) (.seq (.ops [qb 8 false]) .ret) .skip))
 (qS [qL 20 6 4, qL 21 2 5, qm 22 2, qm 23 3, qk 24 14 [20, 21, 22, 23], qm 19 24, qq 25 (.extract (.t 19) 0), qq 26 (.extract (.t 19) 1), qq 10 (.alloc 448642 (.agg [.int .i64 0, .int .i64 0])), qm 9 25, qs 2 10 26]
 (qS [qL 28 6 4, qL 29 2 5, qm 30 3, qk 31 21 [28, 29, 30], qm 27 31, qq 32 (.extract (.t 27) 0), qq 33 (.extract (.t 27) 1), qq 12 (.alloc 448770 (.agg [.int .i64 0, .int .i64 0])), qm 11 32, qs 2 12 33]
 (qT (qS [qf 34 0 10, ql 35 1 34, qv 36 .neq [.i] 35 0, qm 37 36, qg 38 37 false (.faddr 0 (.t 12)), qg 39 37 false (.load false 1 (.t 38)), qg 40 37 false (.bin .neq false [.i] (.t 39) (.c (.int .i64 0))), qq 41 (.pick (.t 37) (.c (.bool true)) (.t 40))]
 (.cond (.t 41) (.seq (.ops [qf 42 0 12, ql 43 1 42, qv 44 .eql [.i] 43 0, qm 45 44, qg 46 45 false (.mov (.t 11)), qg 47 45 false (.len false (.t 46)), qg 48 45 false (.bin .eql false [.i] (.t 47) (.c (.int .i64 0))), qq 49 (.pick (.t 45) (.c (.bool true)) (.t 48)), qm 8 49]) .ret) .skip))
 (qS [qb 13 false]
 (qT (qS [qc 14 0]
 (.block 0 (.loop (qT (qS [qm 50 14, qm 51 11, qn 52 51, qu 53 .lss [] 50 52]
 (.cond (.t 53) .skip (.exit 0)))
 (qT (.block 1 (qS [qb 15 true]
 (qT (qS [qc 16 0]
 (.block 2 (.loop (qT (qS [qm 56 16, qm 57 11, qm 58 14, qi 59 1 57 58, ql 60 1 59, qn 61 60, qu 62 .lss [] 56 61]
 (.cond (.t 62) .skip (.exit 2)))
 (qT (.block 3 (.ops [qm 65 15, qm 66 65, qg 67 66 true (.mov (.t 2)), qg 68 66 true (.mov (.t 11)), qg 69 66 true (.mov (.t 14)), qg 70 66 true (.iaddr 1 (.t 68) (.t 69)), qg 71 66 true (.load false 1 (.t 70)), qg 72 66 true (.mov (.t 16)), qg 73 66 true (.iaddr 3 (.t 71) (.t 72)), qg 74 66 true (.faddr 1 (.t 73)), qg 75 66 true (.load true 2 (.t 74)), qg 76 66 true (.call .f (.c (.fn 23 [])) [.t 67, .t 75]), qg 77 66 true (.mov (.t 11)), qg 78 66 true (.mov (.t 14)), qg 79 66 true (.iaddr 1 (.t 77) (.t 78)), qg 80 66 true (.load false 1 (.t 79)), qg 81 66 true (.mov (.t 16)), qg 82 66 true (.iaddr 3 (.t 80) (.t 81)), qg 83 66 true (.faddr 0 (.t 82)), qg 84 66 true (.load false 1 (.t 83)), qg 85 66 true (.bin .neq false [.b] (.t 76) (.t 84)), qq 86 (.pick (.t 66) (.t 85) (.c (.bool false))), qm 15 86]))
 (.ops [qm 63 16, qv 64 .add [] 63 1, qm 16 64]))))))
 (.ops [qm 87 13, qm 88 87, qg 89 88 false (.mov (.t 15)), qq 90 (.pick (.t 88) (.c (.bool true)) (.t 89)), qm 13 90]))))
 (.ops [qm 54 14, qv 55 .add [] 54 1, qm 14 55]))))))
 (.seq (.ops [qm 91 13, qm 92 9, qu 93 .eql [.b] 91 92, qm 8 93]) .ret))))))))
def r_L1_ConditionCasesAreEquivalent : List RVar := [.tmp 8]
def n_L1_ConditionCasesAreEquivalent : Nat := 94
theorem k_L1_ConditionCasesAreEquivalent : chkFn Go.Proofs.Tryz.prog 7 n_L1_ConditionCasesAreEquivalent r_L1_ConditionCasesAreEquivalent c_L1_ConditionCasesAreEquivalent = true := by kernel_rfl
theorem f_L1_ConditionCasesAreEquivalent (d : Dom) (hdo : DoOk d) (c : Cnd) (ho : CndOk c) (l : List At) (hl : l.length ≤ 140737488355328) (hlo : ∀ a ∈ l, AtOk a) (args : List Int) (hal : args.length ≤ 140737488355328) :
    Fc Go.Proofs.Tryz.prog 7 [domV d, cndV c, .sl .p (l.map atV), .sl .p (args.map i64V)] (.bool true) := by
  have hLc := f_L1_conditions
  have hE := f_condition_Eval d hdo c ho l hl hlo args hal
  have hC := f_condition_Cases d hdo c ho args hal
  by_cases t1 : casesFault d c args = okF
  · by_cases t2 : evalFault d c l args = okF
    · obtain ⟨B, hB, hok, hT⟩ := cases_T ho t1 t2
      have h40 := hok.len
      rw [t1] at hC
      rw [t2, ← hT] at hE
      generalize casesOut d c args = CS at *
      unfold csV at hC
      clear hT t1 t2 hdo ho
      refine Fn.step mixed k_L1_ConditionCasesAreEquivalent ?_
      repeat' (first | refine i_s rfl ?_ | refine sw ?_ | refine i_gt rfl ?_ | refine c_f rfl ?_ | refine i_stb rfl ?_ | refine i_alloc rfl ?_ | refine i_box rfl rfl ?_ | refine sf rfl rfl hLc ?_ | refine sf rfl rfl hE ?_ | refine sf rfl rfl hC ?_ | fail)
      all_goals first
        | (exfalso; clear hLc hE hC; simp [okF] at *; done)
        | skip
      clear hLc hE hC
      refine c_for CS.length (fun i => [(2, .sl .p (l.map atV)), (9, .bool (csT l CS)), (11, .sl .p (CS.map caV)), (13, .bool (csT l (CS.take i))), (14, .int .i64 i)])
        (fun _ => []) (fun _ => True) trivial ft fun i hi _ => ?_
      by_cases hlt : i < CS.length
      · obtain ⟨L, hL⟩ := get_some hlt
        have hLo := hok.ca L (mem_get hL)
        have hLl := hLo.len
        have hLat := hLo.at_
        have hsn : csT l (CS.take (i + 1)) = (csT l (CS.take i) || caseT l L) := by rw [take_succ_get hL]; unfold csT; simp
        generalize csT l CS = fin at *
        clear hok hLo
        repeat' (first | refine i_len rfl ?_ | refine i_s rfl ?_ | refine sw ?_ | refine c_cond rfl (fun h => ?_) (fun h => ?_))
        all_goals first
          | (exfalso; simp at *; omega)
          | skip
        refine c_for L.length (fun k => [(2, .sl .p (l.map atV)), (9, .bool fin), (11, .sl .p (CS.map caV)), (13, .bool (csT l (CS.take i))), (14, .int .i64 i), (15, .bool (caseT l (L.take k))), (16, .int .i64 k)])
          (fun _ => []) (fun _ => True) trivial ft fun k hk _ => ?_
        by_cases hlt2 : k < L.length
        · obtain ⟨x, hx⟩ := get_some hlt2
          have hH := f_R1_HasAtom l x.at_ hl hlo (hLat x (mem_get hx))
          have hsn2 : caseT l (L.take (k + 1)) = (caseT l (L.take k) && (decide (x.at_ ∈ l) != x.neg)) := by rw [take_succ_get hx, caseT_app]; simp [caseT]
          generalize decide (x.at_ ∈ l) = hb at *
          clear hLat hlo hsn
          cases hacc : caseT l (L.take k)
          all_goals
            rw [hacc] at hsn2
            repeat' (first | refine i_len rfl ?_ | refine i_s rfl ?_ | refine sw ?_ | refine i_gt rfl ?_ | refine i_gf rfl ?_ | refine ja rfl rfl ?_ | refine jd rfl rfl ?_ | (refine sp ?_ ?_ <;> try intro h) | refine sf rfl rfl hH ?_ | fail)
          all_goals first
            | (exfalso; clear hH; simp at *; done)
            | (exfalso; clear hH; simp at *; omega)
            | (refine e_for hlt2 trivial ⟨⟨rfl, rfl, rfl, rfl, rfl, ?_, rfl, trivial⟩, trivial, rfl⟩; rw [hsn2]; rfl)
        · have hge : k = L.length := by omega
          subst hge
          rw [List.take_length]
          generalize caseT l L = w at *
          generalize csT l (CS.take i) = acc at *
          clear hLat hlo
          cases acc
          all_goals
            repeat' (first | refine i_len rfl ?_ | refine i_s rfl ?_ | refine sw ?_ | refine i_gt rfl ?_ | refine i_gf rfl ?_ | refine ja rfl rfl ?_ | refine jd rfl rfl ?_ | (refine sp ?_ ?_ <;> try intro h) | fail)
          all_goals first
            | (exfalso; simp at *; done)
            | (exfalso; simp at *; omega)
            | (refine e_for hlt trivial ⟨⟨rfl, rfl, rfl, ?_, rfl, trivial⟩, trivial, rfl⟩; rw [hsn]; rfl)
      · have hge : i = CS.length := by omega
        subst hge
        rw [List.take_length]
        generalize csT l CS = fin at *
        clear hok hlo
        cases fin
        all_goals
          repeat' (first | refine i_len rfl ?_ | refine i_s rfl ?_ | refine sw ?_ | refine c_cond rfl (fun h => ?_) (fun h => ?_))
        all_goals first
          | exact e_ret ⟨rfl, _, rfl, rfl⟩
          | (exfalso; simp at *; done)
          | (exfalso; simp at *; omega)
    · have hc3 : ¬ (evalFault d c l args).code = 0 := fun h => t2 ((evalFault_code _ _ _ _).1 h)
      rw [t1] at hC
      generalize evalFault d c l args = ff at *
      generalize evalB d c l args = bb at *
      generalize casesOut d c args = CS at *
      unfold csV at hC
      clear t1 t2 hdo ho hlo
      refine Fn.step mixed k_L1_ConditionCasesAreEquivalent ?_
      repeat' (first | refine i_s rfl ?_ | refine sw ?_ | refine i_gt rfl ?_ | refine i_gf rfl ?_ | refine c_t rfl ?_ | refine c_f rfl ?_ | refine i_stb rfl ?_ | refine i_alloc rfl ?_ | refine i_box rfl rfl ?_ | refine i_g rfl (fun h => ?_) (fun h => ?_) | refine sf rfl rfl hLc ?_ | refine sf rfl rfl hE ?_ | refine sf rfl rfl hC ?_ | fail)
      all_goals first
        | exact e_ret ⟨rfl, _, rfl, rfl⟩
        | (exfalso; clear hLc hE hC; simp [okF] at *; done)
        | (exfalso; clear hLc hE hC; simp_all [okF]; done)
  · have hc3 : ¬ (casesFault d c args).code = 0 := fun h => t1 ((casesFault_code _ _ _).1 h)
    unfold casesOut at hC
    rw [if_neg t1] at hC
    generalize evalFault d c l args = ff at *
    generalize evalB d c l args = bb at *
    generalize casesFault d c args = cf at *
    unfold csV at hC
    clear t1 hdo ho hlo
    refine Fn.step mixed k_L1_ConditionCasesAreEquivalent ?_
    repeat' (first | refine i_len rfl ?_ | refine i_s rfl ?_ | refine sw ?_ | refine i_gt rfl ?_ | refine i_gf rfl ?_ | refine c_t rfl ?_ | refine c_f rfl ?_ | refine i_stb rfl ?_ | refine i_alloc rfl ?_ | refine i_box rfl rfl ?_ | (refine sp ?_ ?_ <;> try intro h) | refine sf rfl rfl hLc ?_ | refine sf rfl rfl hE ?_ | refine sf rfl rfl hC ?_ | fail)
    all_goals first
      | exact e_ret ⟨rfl, _, rfl, rfl⟩
      | (exfalso; clear hLc hE hC; simp [okF] at *; done)
      | (exfalso; clear hLc hE hC; simp_all [okF]; done)
end Hm
end
