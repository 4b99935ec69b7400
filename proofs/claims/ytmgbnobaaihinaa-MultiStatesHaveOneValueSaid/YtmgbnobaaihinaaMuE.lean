/- A multi-valued task and its translation take the same steps. No program in sight. -/
import Derived.Test.YtmgbnobaaihinaaMuD
import Derived.Test.YtmgbnobaaihinaaStC
section
/- A multi-valued task and its translation take the same steps. No program in sight. -/
namespace Hm
set_option linter.unusedVariables false
set_option linter.unusedSimpArgs false
open Go
def stS (sizes s : List Int) : List Int := (List.range s.length).map fun v => fv sizes v ((s[v]?).getD 0)
theorem vx_st {sizes s : List Int} (h : stB sizes s = true) {v : Nat} {x : Int} (hx : s[v]? = some x) : VX sizes v x := by
  unfold stB at h
  simp only [Bool.and_eq_true] at h
  have := allN_get h.2 (get_lt hx)
  unfold stAt at this
  rw [hx] at this
  split at this
  · rename_i x' z h1 h2
    cases h1
    simp at this
    exact ⟨z, h2, this.1, this.2⟩
  · cases this
theorem stB_of {sizes s : List Int} (hl : s.length = sizes.length) (h : ∀ (v : Nat) (x : Int), s[v]? = some x → VX sizes v x) : stB sizes s = true := by
  unfold stB
  rw [Bool.and_eq_true]
  refine ⟨decide_eq_true hl, allN_ok fun v hv => ?_⟩
  obtain ⟨x, hx⟩ := get_some hv
  obtain ⟨z, hz, h0, h1⟩ := h v x hx
  unfold stAt
  rw [hx, hz]
  simp [h0, h1]
theorem mem_stS {sizes s : List Int} (hz : ∀ z ∈ sizes, 1 ≤ z ∧ z ≤ 6) (h : stB sizes s = true) {v : Nat} {x : Int} (hv : VX sizes v x) : fv sizes v x ∈ stS sizes s ↔ s[v]? = some x := by
  unfold stS
  simp only [List.mem_map, List.mem_range]
  constructor
  · rintro ⟨u, hu, e⟩
    obtain ⟨y, hy⟩ := get_some hu
    rw [hy] at e
    obtain ⟨e1, e2⟩ := fv_inj hz (vx_st h hy) hv e
    subst e1
    rw [hy]
    exact congrArg some e2
  · intro e
    exact ⟨v, get_lt e, by rw [e]; rfl⟩
theorem stS_vx {sizes s : List Int} (h : stB sizes s = true) {p : Int} (hp : p ∈ stS sizes s) : ∃ v x, VX sizes v x ∧ p = fv sizes v x := by
  unfold stS at hp
  simp only [List.mem_map, List.mem_range] at hp
  obtain ⟨u, hu, e⟩ := hp
  obtain ⟨y, hy⟩ := get_some hu
  rw [hy] at e
  exact ⟨u, y, vx_st h hy, e.symm⟩
theorem stS_ss {sizes s : List Int} (hz : ∀ z ∈ sizes, 1 ≤ z ∧ z ≤ 6) (h : stB sizes s = true) : SS (stS sizes s) := by
  unfold SS stS
  rw [List.pairwise_map]
  refine List.Pairwise.imp_of_mem (fun {a b} ha hb hab => ?_) (List.pairwise_lt_range (n := s.length))
  obtain ⟨x, hx⟩ := get_some (List.mem_range.1 ha)
  obtain ⟨y, hy⟩ := get_some (List.mem_range.1 hb)
  rw [hx, hy]
  exact fv_lt hz (vx_st h hx) (vx_st h hy) hab
theorem incl_holds {sizes s : List Int} (hz : ∀ z ∈ sizes, 1 ≤ z ∧ z ≤ 6) (h : stB sizes s = true) {l : List Asg} (hl : asB sizes l = true) : inclB (l.map (factAt (baseFrom 0 sizes))) (stS sizes s) = holds s l := by
  have key : ∀ a ∈ l, decide (factAt (baseFrom 0 sizes) a ∈ stS sizes s) = holdAt s a := fun a ha => by
    obtain ⟨h1, h2⟩ := as_vx hl a ha
    rw [fact_fv hl ha, Bool.eq_iff_iff, decide_eq_true_eq, mem_stS hz h h1]
    unfold holdAt szAt
    rw [if_neg (by omega)]
    cases hg : s[a.var.toNat]? with
    | none => simp
    | some y => simp
  unfold inclB holds
  rw [List.all_map, Bool.eq_iff_iff, List.all_eq_true, List.all_eq_true]
  constructor
  · intro q a ha
    rw [← key a ha]; exact q a ha
  · intro q a ha
    show decide (factAt (baseFrom 0 sizes) a ∈ stS sizes s) = true
    rw [key a ha]; exact q a ha
theorem setAll_out : ∀ (l : List Asg) (s : List Int) (v : Nat), (∀ a ∈ l, a.var.toNat ≠ v) → (setAll s l)[v]? = s[v]?
  | [], _, _, _ => rfl
  | a :: l, s, v, h => by
    show (setAll (s.set a.var.toNat a.value) l)[v]? = _
    rw [setAll_out l _ v fun b hb => h b (by simp [hb]), List.getElem?_set_ne (h a (by simp))]
theorem setAll_in : ∀ (l : List Asg) (s : List Int) (a : Asg), l.Pairwise (fun a b => a.var < b.var) → (∀ b ∈ l, 0 ≤ b.var ∧ b.var < s.length) → a ∈ l → (setAll s l)[a.var.toNat]? = some a.value
  | [], _, _, _, _, h => by simp at h
  | b :: l, s, a, hp, hr, h => by
    have hp' := List.pairwise_cons.1 hp
    show (setAll (s.set b.var.toNat b.value) l)[a.var.toNat]? = _
    rcases List.mem_cons.1 h with rfl | h
    · have := hr a (by simp)
      rw [setAll_out l _ _ fun c hc => by have := hp'.1 c hc; omega, List.getElem?_set_self (by omega)]
    · exact setAll_in l _ a hp'.2 (fun c hc => by have := hr c (by simp [hc]); simpa using this) h
theorem setAll_st {sizes s : List Int} (h : stB sizes s = true) {l : List Asg} (hl : asB sizes l = true) : stB sizes (setAll s l) = true := by
  have hlen := stB_len h
  refine stB_of (by rw [setAll_len]; exact hlen) fun v x hx => ?_
  by_cases c : ∃ a ∈ l, a.var.toNat = v
  · obtain ⟨a, ha, rfl⟩ := c
    have hin := asB_in hl
    rw [setAll_in l s a (asB_sorted hl) (fun b hb => by have := hin b hb; omega) ha] at hx
    cases hx
    exact (as_vx hl a ha).1
  · rw [setAll_out l s v fun a ha e => c ⟨a, ha, e⟩] at hx
    exact vx_st h hx
theorem upd_sim {sizes s : List Int} (hz : ∀ z ∈ sizes, 1 ≤ z ∧ z ≤ 6) (h : stB sizes s = true) {l : List Asg} (hl : asB sizes l = true) : updL (stS sizes s) (l.map (factAt (baseFrom 0 sizes))) (dels (baseFrom 0 sizes) sizes l) = stS sizes (setAll s l) := by
  have hlen := stB_len h
  have hin := asB_in hl
  have h' := setAll_st h hl
  have key : ∀ (v : Nat) (x : Int), VX sizes v x → (fv sizes v x ∈ updL (stS sizes s) (l.map (factAt (baseFrom 0 sizes))) (dels (baseFrom 0 sizes) sizes l) ↔ fv sizes v x ∈ stS sizes (setAll s l)) := fun v x hv => by
    have e1 := has_map hz hl hv
    have e2 := has_dels hz hl hv
    rw [updL_mem, mem_stS hz h hv, mem_stS hz h' hv]
    have e1' : fv sizes v x ∈ l.map (factAt (baseFrom 0 sizes)) ↔ asgB l v x = true := by rw [← e1, decide_eq_true_eq]
    have e2' : fv sizes v x ∈ dels (baseFrom 0 sizes) sizes l ↔ (setsB l v && !asgB l v x) = true := by rw [← e2, decide_eq_true_eq]
    rw [e1', e2']
    by_cases c : ∃ a ∈ l, a.var.toNat = v
    · obtain ⟨a, ha, rfl⟩ := c
      have ha0 := (hin a ha).1
      rw [setAll_in l s a (asB_sorted hl) (fun b hb => by have := hin b hb; omega) ha]
      have hs : setsB l ((a.var.toNat : Nat) : Int) = true := List.any_eq_true.2 ⟨a, ha, by simp; omega⟩
      have hg : asgB l ((a.var.toNat : Nat) : Int) x = true ↔ a.value = x := by
        unfold asgB
        rw [List.any_eq_true]
        constructor
        · rintro ⟨b, hb, e⟩
          simp only [Bool.and_eq_true, decide_eq_true_eq] at e
          have := asB_uniq hl ha hb (by omega)
          subst this
          exact e.2
        · intro e
          exact ⟨a, ha, by simp only [Bool.and_eq_true, decide_eq_true_eq]; exact ⟨by omega, e⟩⟩
      rw [hs, hg]
      constructor
      · rintro (⟨_, h2⟩ | e)
        · have : asgB l ((a.var.toNat : Nat) : Int) x = true := by
            cases hq : asgB l ((a.var.toNat : Nat) : Int) x with
            | true => rfl
            | false => rw [hq] at h2; simp at h2
          rw [hg.1 this]
        · rw [e]
      · intro e
        cases e
        exact .inr rfl
    · have hs : setsB l (v : Int) = false := by
        unfold setsB
        rw [List.any_eq_false]
        intro a ha e
        have := hin a ha
        exact c ⟨a, ha, by simp at e; omega⟩
      have hg : asgB l (v : Int) x = false := by
        unfold asgB
        rw [List.any_eq_false]
        intro a ha e
        have := hin a ha
        simp only [Bool.and_eq_true, decide_eq_true_eq] at e
        exact c ⟨a, ha, by omega⟩
      rw [hs, hg, setAll_out l s v fun a ha e => c ⟨a, ha, e⟩]
      simp
  refine ss_ext (updL_ss _ _ _) (stS_ss hz h') fun p => ⟨fun hp => ?_, fun hp => ?_⟩
  · have : ∃ v x, VX sizes v x ∧ p = fv sizes v x := by
      rcases updL_mem.1 hp with q | q
      · exact stS_vx h q.1
      · obtain ⟨a, ha, rfl⟩ := List.mem_map.1 q
        exact ⟨_, _, (as_vx hl a ha).1, fact_fv hl ha⟩
    obtain ⟨v, x, hv, rfl⟩ := this
    exact (key v x hv).1 hp
  · obtain ⟨v, x, hv, rfl⟩ := stS_vx h' hp
    exact (key v x hv).2 hp
theorem step_sim {m : MTask} (hv : MV m) {s : List Int} (h : stB m.sizes s = true) {op : Int} {o : MOp} (ho : m.ops[op.toNat]? = some o) : stepS (mStrips m) (stS m.sizes s) op = if holds s o.pre = true then some (stS m.sizes (setAll s o.post)) else none := by
  obtain ⟨p1, p2, _, _⟩ := hv.op o (mem_get ho)
  have e : (mStrips m).ops[op.toNat]? = some (opT (baseFrom 0 m.sizes) m.sizes o) := by simp [mStrips, ho]
  rw [stepS_op e, ← upd_sim hv.rng h p2, ← incl_holds hv.rng h p1]
  rfl
theorem run_sim {m : MTask} (hv : MV m) : ∀ (plan s : List Int), stB m.sizes s = true → (∀ x ∈ plan, 0 ≤ x ∧ x < m.ops.length) →
    endS (mStrips m) (stS m.sizes s) plan = (mRun m s plan).map (stS m.sizes) ∧ ∀ e, mRun m s plan = some e → stB m.sizes e = true
  | [], s, h, _ => ⟨rfl, fun e he => by cases he; exact h⟩
  | op :: r, s, h, hr => by
    have h0 := hr op (by simp)
    obtain ⟨o, ho⟩ := get_some (l := m.ops) (k := op.toNat) (by omega)
    obtain ⟨p1, p2, _, _⟩ := hv.op o (mem_get ho)
    simp only [endS, mRun, step_sim hv h ho, ho]
    by_cases c : holds s o.pre = true
    · rw [if_pos c, if_pos c]
      exact run_sim hv r _ (setAll_st h p2) fun x hx => hr x (by simp [hx])
    · rw [if_neg c, if_neg c]
      exact ⟨rfl, fun e he => by cases he⟩
theorem init_sim {m : MTask} (hv : MV m) : (mStrips m).init = stS m.sizes m.init := init_eq hv
theorem solves_sim {m : MTask} (hv : MV m) (plan : List Int) (hr : ∀ x ∈ plan, 0 ≤ x ∧ x < m.ops.length) : worksB (mStrips m) (mStrips m).init plan = mSolves m plan := by
  obtain ⟨h1, h2⟩ := run_sim hv plan m.init hv.init hr
  unfold worksB mSolves
  rw [init_sim hv, h1]
  cases hm : mRun m m.init plan with
  | none => rfl
  | some e => exact incl_holds hv.rng (h2 e hm) hv.goal
theorem cost_sim (m : MTask) : ∀ plan : List Int, costS (mStrips m) plan = costL m plan
  | [] => rfl
  | op :: r => by
    simp only [costS, costL, cost_sim m r]
    congr 1
    unfold costAtS costAt
    simp only [mStrips, List.getElem?_map]
    cases m.ops[op.toNat]? <;> rfl
end Hm
end

section
/- The law of equal plans of a task and its translation answers true. -/
namespace Hm
open Go
set_option maxRecDepth 100000
set_option maxHeartbeats 4000000
set_option linter.unusedSimpArgs false
set_option linter.unusedVariables false
theorem set_le24 {t : STask} (hv : SV t) {l : List Int} (h : IsSet t.facts l) : l.length ≤ 24 := by
  have := isSet_len h hv.f0
  have := hv.f1
  omega
theorem sv_ok {t : STask} (h : SV t) : SkOk t := ⟨by have := set_le24 h h.init; omega, by have := set_le24 h h.goal; omega, by have := h.opl; omega, fun o ho => by
    have h2 := h.op o ho
    exact ⟨by have := set_le24 h h2.pre; omega, by have := set_le24 h h2.add; omega, by have := set_le24 h h2.del; omega⟩⟩
def c_L1_MultiStripsHasTheSamePlans : Cmd :=
  (.seq
   (.ops [
   .op (some 2) none (.box 448132 4 (.t 0)),
   .op (some 4) none (.mov (.c (.bool false)))])
   (.cut
   (.seq
   (.ops [
   .op (some 16) none (.load true 4 (.t 2)),
   .op (some 17) none (.call .f (.c (.fn 23 [])) [.t 16]),
   .op (some 15) none (.mov (.t 17)),
   .op (some 18) none (.extract (.t 15) 0),
   .op (some 19) none (.extract (.t 15) 1),
   .op (some 5) none (.alloc 448324 (.agg [.int .i64 (0), .sl .nil [], .sl .nil [], .sl .nil []])),
   .op (some 6) none (.alloc 448386 (.agg [.int .i64 (0), .int .i64 (0)])),
   .op none none (.store 4 (.t 5) (.t 18)),
   .op none none (.store 2 (.t 6) (.t 19))])
   (.cut
   (.seq
   (.seq
   (.ops [
   .op (some 20) none (.call .f (.c (.fn 9 [])) []),
   .op (some 21) none (.not (.t 20)),
   .op (some 22) none (.mov (.t 21)),
   .op (some 23) (some (22, false)) (.faddr 0 (.t 6)),
   .op (some 24) (some (22, false)) (.load false 1 (.t 23)),
   .op (some 25) (some (22, false)) (.bin .neq false [.i] (.t 24) (.c (.int .i64 (0)))),
   .op (some 26) none (.pick (.t 22) (.c (.bool true)) (.t 25))])
   (.cut
   (.cond (.t 26)
   (.seq
   (.ops [
   .op (some 27) none (.call .f (.c (.fn 9 [])) []),
   .op (some 28) none (.mov (.t 27)),
   .op (some 29) (some (28, true)) (.faddr 0 (.t 5)),
   .op (some 30) (some (28, true)) (.load false 1 (.t 29)),
   .op (some 31) (some (28, true)) (.bin .eql false [.i] (.t 30) (.c (.int .i64 (0)))),
   .op (some 32) none (.pick (.t 28) (.t 31) (.c (.bool false))),
   .op (some 4) none (.mov (.t 32))])
   .ret)
   .skip)))
   (.cut
   (.seq
   (.ops [
   .op (some 34) none (.load true 4 (.t 2)),
   .op (some 35) none (.mov (.t 1)),
   .op (some 36) none (.call .f (.c (.fn 20 [])) [.t 34, .t 35]),
   .op (some 33) none (.mov (.t 36)),
   .op (some 37) none (.extract (.t 33) 0),
   .op (some 38) none (.extract (.t 33) 1),
   .op (some 8) none (.alloc 448514 (.agg [.int .i64 (0), .int .i64 (0)])),
   .op (some 7) none (.mov (.t 37)),
   .op none none (.store 2 (.t 8) (.t 38))])
   (.cut
   (.seq
   (.ops [
   .op (some 40) none (.load true 4 (.t 5)),
   .op (some 41) none (.mov (.t 1)),
   .op (some 42) none (.call .f (.c (.fn 29 [])) [.t 40, .t 41]),
   .op (some 39) none (.mov (.t 42)),
   .op (some 43) none (.extract (.t 39) 0),
   .op (some 44) none (.extract (.t 39) 1),
   .op (some 10) none (.alloc 448642 (.agg [.int .i64 (0), .int .i64 (0)])),
   .op (some 9) none (.mov (.t 43)),
   .op none none (.store 2 (.t 10) (.t 44))])
   (.cut
   (.seq
   (.ops [
   .op (some 46) none (.load true 4 (.t 2)),
   .op (some 47) none (.mov (.t 1)),
   .op (some 48) none (.call .f (.c (.fn 21 [])) [.t 46, .t 47]),
   .op (some 45) none (.mov (.t 48)),
   .op (some 49) none (.extract (.t 45) 0),
   .op (some 50) none (.extract (.t 45) 1),
   .op (some 12) none (.alloc 448770 (.agg [.int .i64 (0), .int .i64 (0)])),
   .op (some 11) none (.mov (.t 49)),
   .op none none (.store 2 (.t 12) (.t 50))])
   (.cut
   (.seq
   (.ops [
   .op (some 52) none (.load true 4 (.t 5)),
   .op (some 53) none (.mov (.t 1)),
   .op (some 54) none (.call .f (.c (.fn 30 [])) [.t 52, .t 53]),
   .op (some 51) none (.mov (.t 54)),
   .op (some 55) none (.extract (.t 51) 0),
   .op (some 56) none (.extract (.t 51) 1),
   .op (some 14) none (.alloc 448898 (.agg [.int .i64 (0), .int .i64 (0)])),
   .op (some 13) none (.mov (.t 55)),
   .op none none (.store 2 (.t 14) (.t 56))])
   (.cut
   (.seq
   (.ops [
   .op (some 57) none (.load true 4 (.t 5)),
   .op (some 58) none (.call .f (.c (.fn 27 [])) [.t 57]),
   .op (some 59) none (.build [.int .i64 (0), .int .i64 (0)] []),
   .op (some 60) none (.bin .eql true [.i, .i] (.t 58) (.t 59)),
   .op (some 61) none (.mov (.t 60)),
   .op (some 62) (some (61, true)) (.load true 2 (.t 8)),
   .op (some 63) (some (61, true)) (.load true 2 (.t 10)),
   .op (some 64) (some (61, true)) (.bin .eql true [.i, .i] (.t 62) (.t 63)),
   .op (some 65) none (.pick (.t 61) (.t 64) (.c (.bool false))),
   .op (some 66) none (.mov (.t 65)),
   .op (some 67) (some (66, true)) (.load true 2 (.t 12)),
   .op (some 68) (some (66, true)) (.load true 2 (.t 14)),
   .op (some 69) (some (66, true)) (.bin .eql true [.i, .i] (.t 67) (.t 68)),
   .op (some 70) none (.pick (.t 66) (.t 69) (.c (.bool false))),
   .op (some 71) none (.mov (.t 70)),
   .op (some 72) (some (71, true)) (.mov (.t 7)),
   .op (some 73) (some (71, true)) (.mov (.t 9)),
   .op (some 74) (some (71, true)) (.bin .eql false [.b] (.t 72) (.t 73)),
   .op (some 75) none (.pick (.t 71) (.t 74) (.c (.bool false))),
   .op (some 76) none (.mov (.t 75)),
   .op (some 77) (some (76, true)) (.mov (.t 11)),
   .op (some 78) (some (76, true)) (.mov (.t 13)),
   .op (some 79) (some (76, true)) (.bin .eql false [.i] (.t 77) (.t 78)),
   .op (some 80) none (.pick (.t 76) (.t 79) (.c (.bool false))),
   .op (some 4) none (.mov (.t 80))])
   .ret)))))))))))))))
def r_L1_MultiStripsHasTheSamePlans : List RVar := [.tmp 4]
def n_L1_MultiStripsHasTheSamePlans : Nat := 81
theorem k_L1_MultiStripsHasTheSamePlans : chkFn Go.Proofs.Try.prog 7 n_L1_MultiStripsHasTheSamePlans r_L1_MultiStripsHasTheSamePlans c_L1_MultiStripsHasTheSamePlans = true := by kernel_rfl
theorem f_L1_MultiStripsHasTheSamePlans (m : MTask) (ho : MOk m) (plan : List Int) (hl : plan.length ≤ 140737488355328) : Fc Go.Proofs.Try.prog 7 [mtV m, .sl .p (plan.map i64V)] (.bool true) := by
  have hT := f_L1_turns
  by_cases hb : mFault m = okF
  · have hv := mFault_ok hb
    by_cases hbig : sumL m.sizes > 24
    · have hS := f_multi_Strips_big m ho hb hbig
      refine Fn.step mixed k_L1_MultiStripsHasTheSamePlans ?_
      repeat' (first | refine i_len rfl ?_ | refine i_s rfl ?_ | refine i_lenm rfl rfl rfl ?_ | refine c_seq ?_ | refine c_cut0 ?_ | refine c_ops ?_ | refine i_nil ?_ | refine e_seq ?_ | refine e_block ?_ | refine c_block ?_ | refine c_skip ?_ | refine c_ret ?_ | refine c_exit ?_ | refine e_exit rfl ?_ | refine i_s0 rfl ?_ | refine c_leaf ?_ | refine i_gt rfl ?_ | refine i_gf rfl ?_ | refine i_gd rfl ?_ | refine c_t rfl ?_ | refine c_f rfl ?_ | refine i_conv rfl (by simp only [InR, List.length_map]; omega) ?_ | refine i_add rfl rfl (by simp only [InR, List.length_map]; omega) ?_ | refine i_sub rfl rfl (by simp only [InR, List.length_map]; omega) ?_ | refine i_ixm rfl rfl (by assumption) ?_ | refine i_iai rfl rfl (by omega) (by assumption) rfl ?_ | refine i_iam rfl rfl (by assumption) rfl ?_ | refine i_tk rfl rfl (by omega) ?_ | refine i_stb rfl ?_ | refine i_alloc rfl ?_ | refine i_box rfl rfl ?_ | refine i_nv rfl ?_ | refine c_node ?_ ?_ | refine i_g rfl (fun h => ?_) (fun h => ?_) | refine c_cond rfl (fun h => ?_) (fun h => ?_) | refine i_f rfl rfl (hS) rfl ?_ | refine i_f rfl rfl (hT) rfl ?_)
      all_goals first
        | (exfalso; clear hS hT ho hv hb; simp at *; done)
        | (exfalso; clear hS hT ho hv hb; simp at *; omega)
        | (refine e_ret ⟨rfl, _, rfl, congrArg V.bool ?_⟩; first | rfl | (simp; done))
    have hsm : sumL m.sizes ≤ 24 := by omega
    have hS := f_multi_Strips_ok m ho hb hsm
    have hsv := mStrips_sv hv hsm
    have hok := sv_ok hsv
    have hV := f_strips_Validate (mStrips m) hok
    rw [sFault_of hsv] at hV
    have hTl : (mStrips m).ops.length = m.ops.length := by simp [mStrips]
    have hF : plFault (mStrips m) plan = mPlanFault m plan := by
      unfold plFault mPlanFault
      rw [if_pos (sFault_of hsv), if_pos hb, hTl]
    by_cases hp : mPlanFault m plan = okF
    · obtain ⟨_, h60, hr⟩ := mPlan_ok hp
      have h1 := f_multi_Solves_ok m ho plan hp
      have h3 := f_multi_Cost_ok m ho plan hp
      have h2 := f_strips_Solves_ok (mStrips m) hok plan (by rw [hF]; exact hp)
      have h4 := f_strips_Cost_ok (mStrips m) hok plan (by rw [hF]; exact hp)
      rw [solves_sim hv plan hr] at h2
      rw [cost_sim] at h4
      clear hF hTl hsv hok hr hp
      generalize mSolves m plan = a at *
      generalize costL m plan = c at *
      generalize mStrips m = T at *
      refine Fn.step mixed k_L1_MultiStripsHasTheSamePlans ?_
      repeat' (first | refine i_len rfl ?_ | refine i_s rfl ?_ | refine i_lenm rfl rfl rfl ?_ | refine c_seq ?_ | refine c_cut0 ?_ | refine c_ops ?_ | refine i_nil ?_ | refine e_seq ?_ | refine e_block ?_ | refine c_block ?_ | refine c_skip ?_ | refine c_ret ?_ | refine c_exit ?_ | refine e_exit rfl ?_ | refine i_s0 rfl ?_ | refine c_leaf ?_ | refine i_gt rfl ?_ | refine i_gf rfl ?_ | refine i_gd rfl ?_ | refine c_t rfl ?_ | refine c_f rfl ?_ | refine i_conv rfl (by simp only [InR, List.length_map]; omega) ?_ | refine i_add rfl rfl (by simp only [InR, List.length_map]; omega) ?_ | refine i_sub rfl rfl (by simp only [InR, List.length_map]; omega) ?_ | refine i_ixm rfl rfl (by assumption) ?_ | refine i_iai rfl rfl (by omega) (by assumption) rfl ?_ | refine i_iam rfl rfl (by assumption) rfl ?_ | refine i_tk rfl rfl (by omega) ?_ | refine i_stb rfl ?_ | refine i_alloc rfl ?_ | refine i_box rfl rfl ?_ | refine i_nv rfl ?_ | refine c_node ?_ ?_ | refine i_g rfl (fun h => ?_) (fun h => ?_) | refine c_cond rfl (fun h => ?_) (fun h => ?_) | refine i_f rfl rfl (hS) rfl ?_ | refine i_f rfl rfl (hT) rfl ?_ | refine i_f rfl rfl (h1) rfl ?_ | refine i_f rfl rfl (h2) rfl ?_ | refine i_f rfl rfl (h3) rfl ?_ | refine i_f rfl rfl (h4) rfl ?_ | refine i_f rfl rfl (hV) rfl ?_)
      all_goals clear hS hT h1 h2 h3 h4 hV ho hv hb
      all_goals first
        | (exfalso; simp at *; done)
        | (refine e_ret ⟨rfl, _, rfl, congrArg V.bool ?_⟩; first | rfl | (simp; done))
    · have h1 := f_multi_Solves_bad m ho plan hl hp
      have h3 := f_multi_Cost_bad m ho plan hl hp
      have h2 := f_strips_Solves_bad (mStrips m) hok plan hl (by rw [hF]; exact hp)
      have h4 := f_strips_Cost_bad (mStrips m) hok plan hl (by rw [hF]; exact hp)
      rw [hF] at h2 h4
      clear hF hTl hsv hok hp
      generalize mPlanFault m plan = F at *
      generalize mStrips m = T at *
      refine Fn.step mixed k_L1_MultiStripsHasTheSamePlans ?_
      repeat' (first | refine i_len rfl ?_ | refine i_s rfl ?_ | refine i_lenm rfl rfl rfl ?_ | refine c_seq ?_ | refine c_cut0 ?_ | refine c_ops ?_ | refine i_nil ?_ | refine e_seq ?_ | refine e_block ?_ | refine c_block ?_ | refine c_skip ?_ | refine c_ret ?_ | refine c_exit ?_ | refine e_exit rfl ?_ | refine i_s0 rfl ?_ | refine c_leaf ?_ | refine i_gt rfl ?_ | refine i_gf rfl ?_ | refine i_gd rfl ?_ | refine c_t rfl ?_ | refine c_f rfl ?_ | refine i_conv rfl (by simp only [InR, List.length_map]; omega) ?_ | refine i_add rfl rfl (by simp only [InR, List.length_map]; omega) ?_ | refine i_sub rfl rfl (by simp only [InR, List.length_map]; omega) ?_ | refine i_ixm rfl rfl (by assumption) ?_ | refine i_iai rfl rfl (by omega) (by assumption) rfl ?_ | refine i_iam rfl rfl (by assumption) rfl ?_ | refine i_tk rfl rfl (by omega) ?_ | refine i_stb rfl ?_ | refine i_alloc rfl ?_ | refine i_box rfl rfl ?_ | refine i_nv rfl ?_ | refine c_node ?_ ?_ | refine i_g rfl (fun h => ?_) (fun h => ?_) | refine c_cond rfl (fun h => ?_) (fun h => ?_) | refine i_f rfl rfl (hS) rfl ?_ | refine i_f rfl rfl (hT) rfl ?_ | refine i_f rfl rfl (h1) rfl ?_ | refine i_f rfl rfl (h2) rfl ?_ | refine i_f rfl rfl (h3) rfl ?_ | refine i_f rfl rfl (h4) rfl ?_ | refine i_f rfl rfl (hV) rfl ?_)
      all_goals clear hS hT h1 h2 h3 h4 hV ho hv hb
      all_goals first
        | (exfalso; simp at *; done)
        | (refine e_ret ⟨rfl, _, rfl, congrArg V.bool ?_⟩; first | rfl | (simp; done))
  · have hS := f_multi_Strips_bad m ho hb
    have hne : (mFault m).code ≠ 0 := fun h => hb ((mFault_iff m).1 h)
    clear hb
    generalize mFault m = F at *
    refine Fn.step mixed k_L1_MultiStripsHasTheSamePlans ?_
    repeat' (first | refine i_len rfl ?_ | refine i_s rfl ?_ | refine i_lenm rfl rfl rfl ?_ | refine c_seq ?_ | refine c_cut0 ?_ | refine c_ops ?_ | refine i_nil ?_ | refine e_seq ?_ | refine e_block ?_ | refine c_block ?_ | refine c_skip ?_ | refine c_ret ?_ | refine c_exit ?_ | refine e_exit rfl ?_ | refine i_s0 rfl ?_ | refine c_leaf ?_ | refine i_gt rfl ?_ | refine i_gf rfl ?_ | refine i_gd rfl ?_ | refine c_t rfl ?_ | refine c_f rfl ?_ | refine i_conv rfl (by simp only [InR, List.length_map]; omega) ?_ | refine i_add rfl rfl (by simp only [InR, List.length_map]; omega) ?_ | refine i_sub rfl rfl (by simp only [InR, List.length_map]; omega) ?_ | refine i_ixm rfl rfl (by assumption) ?_ | refine i_iai rfl rfl (by omega) (by assumption) rfl ?_ | refine i_iam rfl rfl (by assumption) rfl ?_ | refine i_tk rfl rfl (by omega) ?_ | refine i_stb rfl ?_ | refine i_alloc rfl ?_ | refine i_box rfl rfl ?_ | refine i_nv rfl ?_ | refine c_node ?_ ?_ | refine i_g rfl (fun h => ?_) (fun h => ?_) | refine c_cond rfl (fun h => ?_) (fun h => ?_) | refine i_f rfl rfl (hS) rfl ?_ | refine i_f rfl rfl (hT) rfl ?_)
    all_goals first
      | (exfalso; clear hT hS ho; simp at *; done)
      | (exfalso; clear hT hS ho; simp at *; omega)
      | (refine e_ret ⟨rfl, _, rfl, congrArg V.bool ?_⟩; first | rfl | (simp; done))
end Hm
end
