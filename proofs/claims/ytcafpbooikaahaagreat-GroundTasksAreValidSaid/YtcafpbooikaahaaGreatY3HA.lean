/- Part Y3HA of the proof. -/
import Derived.Test.YtcafpbooikaahaaGreatYHA
import Derived.Test.YtcafpbooikaahaaGreatY3PA
set_option linter.unusedVariables false
set_option linter.unusedSimpArgs false
section
namespace Hm
open Go
set_option maxRecDepth 100000
set_option maxHeartbeats 4000000
structure GrOk (g : Grd) : Prop where
  sk : SkOk g.task
  f : GFOk g.facts
  n : g.insts.length ≤ 1000000
  a : ∀ i ∈ g.insts, i.2.length ≤ 1000
theorem grZ_ok : GrOk grZ := by
  refine ⟨⟨by simp [grZ, skZ], by simp [grZ, skZ], by simp [grZ, skZ], fun o ho => by simp [grZ, skZ] at ho⟩, ⟨by simp [grZ], fun x hx => by simp [grZ] at hx⟩, by simp [grZ], fun i hi => by simp [grZ] at hi⟩
theorem nums_len (F l : List Lit) : (nums F l).length ≤ F.length := selK_len _ _
theorem buildG_ok {d : Dom} {F : List Lit} {L : List Ac} (hF : GFOk F) (hL : L.length ≤ 1000000) (ha : ∀ a ∈ L, a.args.length ≤ 1000) : GrOk (buildG d F L) := by
  unfold buildG
  split
  · exact grZ_ok
  · have := hF.len
    refine ⟨⟨?_, ?_, ?_, fun o ho => ?_⟩, hF, by simpa [grdOf] using hL, fun i hi => ?_⟩
    · have h := selK_len (trueAt d F) F.length
      show (initOf d F).length ≤ _
      unfold initOf
      omega
    · have h := nums_len F d.goal
      show (nums F d.goal).length ≤ _
      omega
    · simp only [grdOf, List.length_map]; omega
    · simp only [grdOf, List.mem_map] at ho
      obtain ⟨a, h1, rfl⟩ := ho
      have q1 := nums_len F a.pre
      have q2 := nums_len F a.add
      have q3 := nums_len F a.del
      simp only [opOf]
      exact ⟨by omega, by omega, by omega⟩
    · simp only [grdOf, List.mem_map] at hi
      obtain ⟨a, h1, rfl⟩ := hi
      exact ha a h1
theorem actsP_args {d : Dom} (hd : DomV d) {a : Ac} (h : a ∈ actsP d) : a.args.length ≤ 1000 := by
  obtain ⟨i, s, args, n, hs, hl, _, _, rfl⟩ := actsP_mem h
  have := (argL_rng hl).1
  have := (schV2_of hd hs).val.types.1
  simp only
  omega
theorem rF_ok {d : Dom} (hd : DomV d) (s : RS) : GFOk (rFacts d s) := ⟨Nat.le_trans (List.length_filter_le _ _) (factL_ok hd).len, fun x hx => (factL_ok hd).ok x (List.mem_filter.1 hx).1⟩
theorem fuG_ok (d : Dom) : GrOk (fuG d) := by
  unfold fuG
  split
  · rename_i h
    have hd := domV_of (atF_dom h).1
    exact buildG_ok (factL_ok hd) (by have := actsP_len hd; omega) (fun a ha => actsP_args hd ha)
  · exact grZ_ok
theorem reG_ok (d : Dom) : GrOk (reG d) := by
  unfold reG
  split
  · rename_i h
    have hd := domV_of (atF_dom h).1
    exact buildG_ok (rF_ok hd _) (by have := actsP_len hd; have := rActs_len (actsP d) (rsOf d (actsP d)); omega) (fun a ha => actsP_args hd (rActs_sub ha))
  · exact grZ_ok
theorem buildG_valid {d : Dom} (hd : DomV d) {F : List Lit} {L : List Ac} (h : (buildF F L).code = 0) (ha : ∀ a ∈ L, a ∈ actsP d) : SV (buildG d F L).task ∧ bigG F L = false := by
  have hb : bigG F L = false := by
    cases hb : bigG F L with
    | false => rfl
    | true => unfold buildF at h; rw [if_pos hb] at h; cases h
  unfold buildG
  rw [if_neg (by rw [hb]; simp)]
  exact ⟨grd_valid (doVal_of hd) hb ha, hb⟩
theorem fu_valid {d : Dom} (h : (fuF d).code = 0) : atF d = okF ∧ SV (fuG d).task ∧ bigG (factL d) (actsP d) = false := by
  have ha : atF d = okF := Classical.byContradiction fun h' => by
    unfold fuF at h; rw [if_neg h'] at h; exact atF_code h' h
  have hd := domV_of (atF_dom ha).1
  unfold fuF at h
  rw [if_pos ha] at h
  unfold fuG
  rw [if_pos ha]
  exact ⟨ha, buildG_valid hd h (fun a h => h)⟩
theorem re_valid {d : Dom} (h : (reF d).code = 0) : atF d = okF ∧ SV (reG d).task ∧ bigG (rFacts d (rsOf d (actsP d))) (rActs (actsP d) (rsOf d (actsP d))) = false := by
  have ha : atF d = okF := Classical.byContradiction fun h' => by
    unfold reF at h; rw [if_neg h'] at h; exact atF_code h' h
  have hd := domV_of (atF_dom ha).1
  unfold reF at h
  rw [if_pos ha] at h
  unfold reG
  rw [if_pos ha]
  exact ⟨ha, buildG_valid hd h (fun a h => rActs_sub h)⟩
theorem fu_eq {d : Dom} (h : (fuF d).code = 0) : fuG d = fullT d := by
  obtain ⟨h1, _, h2⟩ := fu_valid h
  unfold fuG buildG
  rw [if_pos h1, if_neg (by rw [h2]; simp)]
  rfl
theorem re_eq {d : Dom} (h : (reF d).code = 0) : reG d = reachT d := by
  obtain ⟨h1, _, h2⟩ := re_valid h
  unfold reG buildG
  rw [if_pos h1, if_neg (by rw [h2]; simp)]
  rfl
theorem fu_re {d : Dom} (h : (fuF d).code = 0) : (reF d).code = 0 ∧ (reG d).facts.length ≤ (fuG d).facts.length ∧ (reG d).insts.length ≤ (fuG d).insts.length := by
  obtain ⟨h1, _, h2⟩ := fu_valid h
  obtain ⟨n1, n2⟩ := bigG_no h2
  have l1 : (rFacts d (rsOf d (actsP d))).length ≤ (factL d).length := List.length_filter_le _ _
  have l2 := rActs_len (actsP d) (rsOf d (actsP d))
  have hb : bigG (rFacts d (rsOf d (actsP d))) (rActs (actsP d) (rsOf d (actsP d))) = false := by
    unfold bigG
    rw [decide_eq_false (by omega), decide_eq_false (by omega)]; rfl
  have hc : (reF d).code = 0 := by
    unfold reF buildF
    rw [if_pos h1, if_neg (by rw [hb]; simp)]; rfl
  refine ⟨hc, ?_, ?_⟩
  · rw [re_eq hc, fu_eq h]; exact l1
  · rw [re_eq hc, fu_eq h]
    simp only [reachT, fullT, grdOf, List.length_map]
    exact l2
theorem reG_nodup (d : Dom) : (reG d).facts.Nodup := by
  unfold reG
  split
  · unfold buildG
    split
    · exact List.nodup_nil
    · exact (factL_nodup d).filter _
  · exact List.nodup_nil
def c_L1_GroundTasksAreValid : Cmd :=
 (qS [qx 1 320070 6 0, qb 2 false]
 (qS [qL 10 6 1, qk 11 13 [10], qm 9 11, qq 12 (.extract (.t 9) 0), qq 13 (.extract (.t 9) 1), qq 3 (.alloc 320198 (.agg [.int .i64 0, .sl .nil [], .sl .nil [], .sl .nil [], .sl .nil [], .sl .nil []])), qq 4 (.alloc 320258 (.agg [.int .i64 0, .int .i64 0])), qs 6 3 12, qs 2 4 13]
 (qS [qL 15 6 1, qk 16 15 [15], qm 14 16, qq 17 (.extract (.t 14) 0), qq 18 (.extract (.t 14) 1), qq 5 (.alloc 320326 (.agg [.int .i64 0, .sl .nil [], .sl .nil [], .sl .nil [], .sl .nil [], .sl .nil []])), qq 6 (.alloc 320386 (.agg [.int .i64 0, .int .i64 0])), qs 6 5 17, qs 2 6 18]
 (qT (qS [qk 19 10 [], qq 20 (.not (.t 19)), qm 21 20, qg 22 21 false (.faddr 0 (.t 4)), qg 23 21 false (.load false 1 (.t 22)), qg 24 21 false (.bin .eql false [.i] (.t 23) (.c (.int .i64 0))), qg 25 21 false (.mov (.t 24)), qg 26 25 true (.faddr 0 (.t 3)), qg 27 25 true (.load true 4 (.t 26)), qg 28 25 true (.call .f (.c (.fn 18 [])) [.t 27]), qg 29 25 true (.build [.int .i64 0, .int .i64 0] []), qg 30 25 true (.bin .neq true [.i, .i] (.t 28) (.t 29)), qg 31 21 false (.pick (.t 25) (.t 30) (.c (.bool false))), qq 32 (.pick (.t 21) (.c (.bool true)) (.t 31)), qm 33 32, qg 34 33 false (.faddr 0 (.t 6)), qg 35 33 false (.load false 1 (.t 34)), qg 36 33 false (.bin .eql false [.i] (.t 35) (.c (.int .i64 0))), qg 37 33 false (.mov (.t 36)), qg 38 37 true (.faddr 0 (.t 5)), qg 39 37 true (.load true 4 (.t 38)), qg 40 37 true (.call .f (.c (.fn 18 [])) [.t 39]), qg 41 37 true (.build [.int .i64 0, .int .i64 0] []), qg 42 37 true (.bin .neq true [.i, .i] (.t 40) (.t 41)), qg 43 33 false (.pick (.t 37) (.t 42) (.c (.bool false))), qq 44 (.pick (.t 33) (.c (.bool true)) (.t 43))]
 (.cond (.t 44) (.seq (.ops [qb 2 false]) .ret) .skip))
 (qT (qS [qc 7 0]
 (.block 0 (.loop (qT (qS [qm 45 7, qf 46 4 5, ql 47 1 46, qn 48 47, qu 49 .lss [] 45 48]
 (.cond (.t 49) .skip (.exit 0)))
 (qT (.block 1 (qS [qc 8 0]
 (.block 2 (.loop (qT (qS [qm 52 8, qm 53 7, qu 54 .lss [] 52 53]
 (.cond (.t 54) .skip (.exit 2)))
 (qT (.block 3 (qS [qf 57 4 5, ql 58 1 57, qm 59 7, qi 60 3 58 59, qL 61 3 60, qf 62 4 5, ql 63 1 62, qm 64 8, qi 65 3 63 64, qL 66 3 65, qk 67 19 [61, 66], qv 68 .eql [.i] 67 0]
 (.cond (.t 68) (.seq (.ops [qb 2 false]) .ret) .skip)))
 (.ops [qm 55 8, qv 56 .add [] 55 1, qm 8 56])))))))
 (.ops [qm 50 7, qv 51 .add [] 50 1, qm 7 51]))))))
 (.seq (.ops [qf 69 0 4, ql 70 1 69, qv 71 .neq [.i] 70 0, qm 72 71, qg 73 72 false (.faddr 0 (.t 6)), qg 74 72 false (.load false 1 (.t 73)), qg 75 72 false (.bin .eql false [.i] (.t 74) (.c (.int .i64 0))), qg 76 72 false (.mov (.t 75)), qg 77 76 true (.faddr 4 (.t 5)), qg 78 76 true (.load false 1 (.t 77)), qg 79 76 true (.len false (.t 78)), qg 80 76 true (.faddr 4 (.t 3)), qg 81 76 true (.load false 1 (.t 80)), qg 82 76 true (.len false (.t 81)), qg 83 76 true (.bin .leq false [] (.t 79) (.t 82)), qg 84 72 false (.pick (.t 76) (.t 83) (.c (.bool false))), qg 85 72 false (.mov (.t 84)), qg 86 85 true (.faddr 5 (.t 5)), qg 87 85 true (.load false 1 (.t 86)), qg 88 85 true (.len false (.t 87)), qg 89 85 true (.faddr 5 (.t 3)), qg 90 85 true (.load false 1 (.t 89)), qg 91 85 true (.len false (.t 90)), qg 92 85 true (.bin .leq false [] (.t 88) (.t 91)), qg 93 72 false (.pick (.t 85) (.t 92) (.c (.bool false))), qq 94 (.pick (.t 72) (.c (.bool true)) (.t 93)), qm 2 94]) .ret))))))
def r_L1_GroundTasksAreValid : List RVar := [.tmp 2]
def n_L1_GroundTasksAreValid : Nat := 95
theorem k_L1_GroundTasksAreValid : chkFn Go.Proofs.Tryz.prog 5 n_L1_GroundTasksAreValid r_L1_GroundTasksAreValid c_L1_GroundTasksAreValid = true := by kernel_rfl
theorem f_L1_GroundTasksAreValid (d : Dom) (ho : DoOk d) : Fc Go.Proofs.Tryz.prog 5 [domV d] (.bool true) := by
  have hG := f_L1_grounds
  have h1 := f_Full d ho
  have h3 := f_Reach d ho
  have v1 := f_strips_Validate (fuG d).task (fuG_ok d).sk
  have v2 := f_strips_Validate (reG d).task (reG_ok d).sk
  have q1 : (fuF d).code = 0 → sFault (fuG d).task = okF := fun h => sFault_of (fu_valid h).2.1
  have q2 : (reF d).code = 0 → sFault (reG d).task = okF := fun h => sFault_of (re_valid h).2.1
  have q3 := fun h => fu_re (d := d) h
  have hnd := reG_nodup d
  have hbf := (reG_ok d).f
  have hbl := hbf.len
  have hbn := (reG_ok d).n
  have haf := (fuG_ok d).f.len
  have han := (fuG_ok d).n
  generalize fuG d = a at *
  generalize reG d = b at *
  generalize fuF d = f at *
  generalize reF d = g at *
  have hv1 : f.code = 0 → Fc Go.Proofs.Tryz.prog 18 [skV a.task] (ftV okF) := fun h => by rw [← q1 h]; exact v1
  have hv2 : g.code = 0 → Fc Go.Proofs.Tryz.prog 18 [skV b.task] (ftV okF) := fun h => by rw [← q2 h]; exact v2
  clear v1 v2 q1 q2
  have hcase : (f.code = 0 ∧ g.code = 0) ∨ (f.code ≠ 0 ∧ g.code = 0) ∨ (f.code ≠ 0 ∧ g.code ≠ 0) := by
    by_cases c1 : f.code = 0
    · exact .inl ⟨c1, (q3 c1).1⟩
    · by_cases c2 : g.code = 0
      · exact .inr (.inl ⟨c1, c2⟩)
      · exact .inr (.inr ⟨c1, c2⟩)
  refine Fn.step mixed k_L1_GroundTasksAreValid ?_
  rcases hcase with ⟨c1, c2⟩ | ⟨c1, c2⟩ | ⟨c1, c2⟩
  · have v1 := hv1 c1
    have v2 := hv2 c2
    obtain ⟨_, q4, q5⟩ := q3 c1
    clear q3
    repeat' (first | refine i_s rfl ?_ | refine sw ?_ | refine i_gt rfl ?_ | refine i_gf rfl ?_ | refine c_f rfl ?_ | refine i_stb rfl ?_ | refine i_alloc rfl ?_ | refine i_box rfl rfl ?_ | refine i_g rfl (fun h => ?_) (fun h => ?_) | refine sf rfl rfl hG ?_ | refine sf rfl rfl h1 ?_ | refine sf rfl rfl h3 ?_ | refine sf rfl rfl v1 ?_ | refine sf rfl rfl v2 ?_ | fail)
    all_goals first
      | (exfalso; clear hG h1 h3 hv1 hv2 v1 v2; simp at *; done)
      | (exfalso; clear hG h1 h3 hv1 hv2 v1 v2; simp at *; omega)
      | skip
    clear hG h1 h3 hv1 hv2
    refine c_for b.facts.length (fun i => [(3, .bptr 320198 0), (4, .bptr 320258 0), (5, .bptr 320326 0), (6, .bptr 320386 0), (7, .int .i64 i)]) (fun _ => [(320198, .box (grdV a)), (320258, .box (ftV f)), (320326, .box (grdV b)), (320386, .box (ftV g))]) (fun _ => True) trivial ft fun i hi _ => ?_
    by_cases hlt : i < b.facts.length
    · obtain ⟨x, hx⟩ := get_some hlt
      repeat' (first | refine i_len rfl ?_ | refine i_s rfl ?_ | refine sw ?_ | refine i_gt rfl ?_ | refine i_gf rfl ?_ | refine i_gd rfl ?_ | (refine sp ?_ ?_ <;> try intro h) | fail)
      all_goals first
        | (exfalso; simp at *; done)
        | (exfalso; simp at *; omega)
        | skip
      refine c_for i (fun j => [(3, .bptr 320198 0), (4, .bptr 320258 0), (5, .bptr 320326 0), (6, .bptr 320386 0), (7, .int .i64 i), (8, .int .i64 j)]) (fun _ => [(320198, .box (grdV a)), (320258, .box (ftV f)), (320326, .box (grdV b)), (320386, .box (ftV g))]) (fun _ => True) trivial ft fun j hj _ => ?_
      by_cases hlj : j < i
      · obtain ⟨y, hy⟩ := get_some (l := b.facts) (k := j) (by omega)
        have hO := f_R2_LiteralOrder x y (hbf.ok x (mem_get hx)) (hbf.ok y (mem_get hy))
        have hne : litOrd x y ≠ 0 := fun h => by
          have e := litOrd_zero.1 h
          rw [← e] at hy
          have := (List.getElem?_inj (by have := get_lt hy; omega) hnd).1 (hy.trans hx.symm)
          omega
        generalize litOrd x y = o at *
        repeat' (first | refine i_s rfl ?_ | refine sw ?_ | refine ja rfl rfl ?_ | refine jd rfl rfl ?_ | refine c_cond rfl (fun h => ?_) (fun h => ?_) | refine sf rfl rfl hO ?_ | fail)
        all_goals first
          | exact e_for hlj trivial ft
          | (exfalso; clear hO; simp at *; done)
          | (exfalso; clear hO; simp at *; omega)
      have hge : j = i := by omega
      subst hge
      repeat' (first | refine i_s rfl ?_ | refine sw ?_ | refine ja rfl rfl ?_ | refine jd rfl rfl ?_ | refine c_cond rfl (fun h => ?_) (fun h => ?_))
      all_goals first
        | exact e_for hlt trivial ft
        | (exfalso; simp at *; done)
        | (exfalso; simp at *; omega)
    have hge : i = b.facts.length := by omega
    subst hge
    repeat' (first | refine i_len rfl ?_ | refine i_s rfl ?_ | refine sw ?_ | refine i_gt rfl ?_ | refine i_gf rfl ?_ | refine i_gd rfl ?_ | (refine sp ?_ ?_ <;> try intro h) | fail)
    all_goals first
      | exact e_ret ⟨rfl, _, rfl, rfl⟩
      | exact e_ret ⟨rfl, _, rfl, congrArg V.bool (by first | rfl | (simp; done) | (simp; omega) | (simp_all; done))⟩
      | (exfalso; simp at *; done)
      | (exfalso; simp at *; omega)
  · have v2 := hv2 c2
    clear q3
    repeat' (first | refine i_s rfl ?_ | refine sw ?_ | refine i_gt rfl ?_ | refine i_gf rfl ?_ | refine c_f rfl ?_ | refine i_stb rfl ?_ | refine i_alloc rfl ?_ | refine i_box rfl rfl ?_ | refine i_g rfl (fun h => ?_) (fun h => ?_) | refine sf rfl rfl hG ?_ | refine sf rfl rfl h1 ?_ | refine sf rfl rfl h3 ?_ | refine sf rfl rfl v2 ?_ | fail)
    all_goals first
      | (exfalso; clear hG h1 h3 hv1 hv2 v2; simp at *; done)
      | (exfalso; clear hG h1 h3 hv1 hv2 v2; simp at *; omega)
      | skip
    clear hG h1 h3 hv1 hv2
    refine c_for b.facts.length (fun i => [(3, .bptr 320198 0), (4, .bptr 320258 0), (5, .bptr 320326 0), (6, .bptr 320386 0), (7, .int .i64 i)]) (fun _ => [(320198, .box (grdV a)), (320258, .box (ftV f)), (320326, .box (grdV b)), (320386, .box (ftV g))]) (fun _ => True) trivial ft fun i hi _ => ?_
    by_cases hlt : i < b.facts.length
    · obtain ⟨x, hx⟩ := get_some hlt
      repeat' (first | refine i_len rfl ?_ | refine i_s rfl ?_ | refine sw ?_ | refine i_gt rfl ?_ | refine i_gf rfl ?_ | refine i_gd rfl ?_ | (refine sp ?_ ?_ <;> try intro h) | fail)
      all_goals first
        | (exfalso; simp at *; done)
        | (exfalso; simp at *; omega)
        | skip
      refine c_for i (fun j => [(3, .bptr 320198 0), (4, .bptr 320258 0), (5, .bptr 320326 0), (6, .bptr 320386 0), (7, .int .i64 i), (8, .int .i64 j)]) (fun _ => [(320198, .box (grdV a)), (320258, .box (ftV f)), (320326, .box (grdV b)), (320386, .box (ftV g))]) (fun _ => True) trivial ft fun j hj _ => ?_
      by_cases hlj : j < i
      · obtain ⟨y, hy⟩ := get_some (l := b.facts) (k := j) (by omega)
        have hO := f_R2_LiteralOrder x y (hbf.ok x (mem_get hx)) (hbf.ok y (mem_get hy))
        have hne : litOrd x y ≠ 0 := fun h => by
          have e := litOrd_zero.1 h
          rw [← e] at hy
          have := (List.getElem?_inj (by have := get_lt hy; omega) hnd).1 (hy.trans hx.symm)
          omega
        generalize litOrd x y = o at *
        repeat' (first | refine i_s rfl ?_ | refine sw ?_ | refine ja rfl rfl ?_ | refine jd rfl rfl ?_ | refine c_cond rfl (fun h => ?_) (fun h => ?_) | refine sf rfl rfl hO ?_ | fail)
        all_goals first
          | exact e_for hlj trivial ft
          | (exfalso; clear hO; simp at *; done)
          | (exfalso; clear hO; simp at *; omega)
      have hge : j = i := by omega
      subst hge
      repeat' (first | refine i_s rfl ?_ | refine sw ?_ | refine ja rfl rfl ?_ | refine jd rfl rfl ?_ | refine c_cond rfl (fun h => ?_) (fun h => ?_))
      all_goals first
        | exact e_for hlt trivial ft
        | (exfalso; simp at *; done)
        | (exfalso; simp at *; omega)
    have hge : i = b.facts.length := by omega
    subst hge
    repeat' (first | refine i_len rfl ?_ | refine i_s rfl ?_ | refine sw ?_ | refine i_gt rfl ?_ | refine i_gf rfl ?_ | refine i_gd rfl ?_ | (refine sp ?_ ?_ <;> try intro h) | fail)
    all_goals first
      | exact e_ret ⟨rfl, _, rfl, rfl⟩
      | exact e_ret ⟨rfl, _, rfl, congrArg V.bool (by first | rfl | (simp; done) | (simp; omega) | (simp_all; done))⟩
      | (exfalso; simp at *; done)
      | (exfalso; simp at *; omega)
  · clear q3
    repeat' (first | refine i_s rfl ?_ | refine sw ?_ | refine i_gt rfl ?_ | refine i_gf rfl ?_ | refine c_f rfl ?_ | refine i_stb rfl ?_ | refine i_alloc rfl ?_ | refine i_box rfl rfl ?_ | refine i_g rfl (fun h => ?_) (fun h => ?_) | refine sf rfl rfl hG ?_ | refine sf rfl rfl h1 ?_ | refine sf rfl rfl h3 ?_ | fail)
    all_goals first
      | (exfalso; clear hG h1 h3 hv1 hv2; simp at *; done)
      | (exfalso; clear hG h1 h3 hv1 hv2; simp at *; omega)
      | skip
    clear hG h1 h3 hv1 hv2
    refine c_for b.facts.length (fun i => [(3, .bptr 320198 0), (4, .bptr 320258 0), (5, .bptr 320326 0), (6, .bptr 320386 0), (7, .int .i64 i)]) (fun _ => [(320198, .box (grdV a)), (320258, .box (ftV f)), (320326, .box (grdV b)), (320386, .box (ftV g))]) (fun _ => True) trivial ft fun i hi _ => ?_
    by_cases hlt : i < b.facts.length
    · obtain ⟨x, hx⟩ := get_some hlt
      repeat' (first | refine i_len rfl ?_ | refine i_s rfl ?_ | refine sw ?_ | refine i_gt rfl ?_ | refine i_gf rfl ?_ | refine i_gd rfl ?_ | (refine sp ?_ ?_ <;> try intro h) | fail)
      all_goals first
        | (exfalso; simp at *; done)
        | (exfalso; simp at *; omega)
        | skip
      refine c_for i (fun j => [(3, .bptr 320198 0), (4, .bptr 320258 0), (5, .bptr 320326 0), (6, .bptr 320386 0), (7, .int .i64 i), (8, .int .i64 j)]) (fun _ => [(320198, .box (grdV a)), (320258, .box (ftV f)), (320326, .box (grdV b)), (320386, .box (ftV g))]) (fun _ => True) trivial ft fun j hj _ => ?_
      by_cases hlj : j < i
      · obtain ⟨y, hy⟩ := get_some (l := b.facts) (k := j) (by omega)
        have hO := f_R2_LiteralOrder x y (hbf.ok x (mem_get hx)) (hbf.ok y (mem_get hy))
        have hne : litOrd x y ≠ 0 := fun h => by
          have e := litOrd_zero.1 h
          rw [← e] at hy
          have := (List.getElem?_inj (by have := get_lt hy; omega) hnd).1 (hy.trans hx.symm)
          omega
        generalize litOrd x y = o at *
        repeat' (first | refine i_s rfl ?_ | refine sw ?_ | refine ja rfl rfl ?_ | refine jd rfl rfl ?_ | refine c_cond rfl (fun h => ?_) (fun h => ?_) | refine sf rfl rfl hO ?_ | fail)
        all_goals first
          | exact e_for hlj trivial ft
          | (exfalso; clear hO; simp at *; done)
          | (exfalso; clear hO; simp at *; omega)
      have hge : j = i := by omega
      subst hge
      repeat' (first | refine i_s rfl ?_ | refine sw ?_ | refine ja rfl rfl ?_ | refine jd rfl rfl ?_ | refine c_cond rfl (fun h => ?_) (fun h => ?_))
      all_goals first
        | exact e_for hlt trivial ft
        | (exfalso; simp at *; done)
        | (exfalso; simp at *; omega)
    have hge : i = b.facts.length := by omega
    subst hge
    repeat' (first | refine i_len rfl ?_ | refine i_s rfl ?_ | refine sw ?_ | refine i_gt rfl ?_ | refine i_gf rfl ?_ | refine i_gd rfl ?_ | (refine sp ?_ ?_ <;> try intro h) | fail)
    all_goals first
      | exact e_ret ⟨rfl, _, rfl, rfl⟩
      | exact e_ret ⟨rfl, _, rfl, congrArg V.bool (by first | rfl | (simp; done) | (simp; omega) | (simp_all; done))⟩
      | (exfalso; simp at *; done)
      | (exfalso; simp at *; omega)
end Hm
end
