/- Multi-valued tasks: valid tasks, plans. No program in sight. -/
import Derived.Test.YtmgbnobaaihinaaStB
import Derived.Test.YtmgbnobaaihinaaStA
import Derived.Test.YtmgbnobaaihinaaCoreC
section
/- Multi-valued tasks: valid tasks, plans. No program in sight. -/
namespace Hm
set_option linter.unusedVariables false
set_option linter.unusedSimpArgs false
open Go
def asIn (n : Nat) (l : List Asg) : Prop := ∀ a ∈ l, 0 ≤ a.var ∧ a.var < n
theorem asB_in {sizes : List Int} {l : List Asg} (h : asB sizes l = true) : asIn sizes.length l := by
  intro a ha
  obtain ⟨i, hi, e⟩ := List.getElem_of_mem ha
  have hg : l[i]? = some a := by rw [← e]; exact List.getElem?_eq_getElem hi
  have := allN_get h hi
  unfold asAt at this
  rw [hg] at this
  simp only at this
  split at this
  · cases this
  · rename_i z hz
    unfold szAt at hz
    split at hz
    · cases hz
    · have := get_lt hz; omega
structure MV (m : MTask) : Prop where
  rng : ∀ z ∈ m.sizes, 1 ≤ z ∧ z ≤ 6
  len : m.sizes.length ≤ 8
  pos : 1 ≤ m.sizes.length
  init : stB m.sizes m.init = true
  goal : asB m.sizes m.goal = true
  opl : m.ops.length ≤ 40
  op : ∀ o ∈ m.ops, asB m.sizes o.pre = true ∧ asB m.sizes o.post = true ∧ 0 ≤ o.cost ∧ o.cost ≤ 100
theorem scan_allM {α : Type} {bad : Nat → Option α} : ∀ (n i : Nat), scan bad i n = none → ∀ j, i ≤ j → j < i + n → bad j = none
  | 0, i, _, j, h1, h2 => by omega
  | n + 1, i, h, j, h1, h2 => by
    simp only [scan] at h
    split at h
    · cases h
    · rename_i e
      by_cases hj : j = i
      · rw [hj]; exact e
      · exact scan_allM n (i + 1) h j (by omega) (by omega)
theorem opBad_code (sizes : List Int) (ops : List MOp) (i : Nat) : ∀ f, opBad sizes ops i = some f → f.code ≠ 0 := by
  intro f h
  unfold opBad at h
  split at h
  · cases h
  · repeat' split at h
    all_goals cases h
    all_goals simp
theorem scan_code {bad : Nat → Option Flt} (hb : ∀ i f, bad i = some f → f.code ≠ 0) : ∀ n i f, scan bad i n = some f → f.code ≠ 0
  | 0, _, _, h => by cases h
  | n + 1, i, f, h => by
    simp only [scan] at h
    split at h
    · rename_i g e; cases h; exact hb _ _ e
    · exact scan_code hb n (i + 1) f h
theorem getD_code {o : Option Flt} (hc : ∀ f, o = some f → f.code ≠ 0) (h : (o.getD okF).code = 0) : o = none := by
  cases o with
  | none => rfl
  | some f => exact absurd h (hc f rfl)
theorem mFault_code (m : MTask) : (mFault m).code = 0 → MV m := by
  intro h
  unfold mFault at h
  split at h
  · cases h
  · rename_i h1
    split at h
    · cases h
    · rename_i h2
      split at h
      · cases h
      · rename_i h3
        split at h
        · cases h
        · rename_i h4
          split at h
          · cases h
          · rename_i h5
            have hs := getD_code (scan_code (opBad_code m.sizes m.ops) _ _) h
            refine ⟨fun z hz => ?_, by omega, by omega, by simpa using h3, by simpa using h4, by omega, fun o ho => ?_⟩
            · rw [Bool.not_eq_true, List.any_eq_false] at h2
              have := h2 z hz
              simp [szBad] at this
              omega
            · obtain ⟨i, hi, e⟩ := List.getElem_of_mem ho
              have hg : m.ops[i]? = some o := by rw [← e]; exact List.getElem?_eq_getElem hi
              have := scan_allM _ _ hs i (Nat.zero_le _) (by omega)
              unfold opBad at this
              rw [hg] at this
              simp only at this
              split at this
              · cases this
              · rename_i q1
                split at this
                · cases this
                · rename_i q2
                  simp only [not_or, Bool.not_eq_false] at q1
                  exact ⟨q1.1, q1.2, by omega, by omega⟩
theorem mFault_ok {m : MTask} (h : mFault m = okF) : MV m := mFault_code m (by rw [h]; rfl)
theorem mFault_iff (m : MTask) : (mFault m).code = 0 ↔ mFault m = okF := by
  refine ⟨fun h => ?_, fun h => by rw [h]; rfl⟩
  have hv := mFault_code m h
  have h0 := h
  unfold mFault at h ⊢
  split at h
  · cases h
  · rename_i h1
    rw [if_neg h1]
    split at h
    · cases h
    · rename_i h2
      rw [if_neg h2]
      split at h
      · cases h
      · rename_i h3
        rw [if_neg h3]
        split at h
        · cases h
        · rename_i h4
          rw [if_neg h4]
          split at h
          · cases h
          · rename_i h5
            rw [if_neg h5]
            have hs := getD_code (scan_code (opBad_code m.sizes m.ops) _ _) h
            rw [hs]; rfl
def mStFault (m : MTask) (s : List Int) : Flt := if mFault m = okF then (if stB m.sizes s = true then okF else ⟨5, -4⟩) else mFault m
theorem stB_len {sizes s : List Int} (h : stB sizes s = true) : s.length = sizes.length := by
  unfold stB at h
  simp only [Bool.and_eq_true] at h
  exact of_decide_eq_true h.1
def appAt (m : MTask) (s : List Int) (i : Nat) : Bool := match m.ops[i]? with
  | some o => holds s o.pre
  | none => false
def appL (m : MTask) (s : List Int) : List Int := selK (appAt m s) m.ops.length
def mPlanFault (m : MTask) (plan : List Int) : Flt := if mFault m = okF then stepsF m.ops.length plan else mFault m
theorem mPlanFault_iff (m : MTask) (plan : List Int) : (mPlanFault m plan).code = 0 ↔ mPlanFault m plan = okF := by
  unfold mPlanFault
  split
  · exact stepsF_iff _ _
  · exact mFault_iff m
def mRun (m : MTask) : List Int → List Int → Option (List Int)
  | s, [] => some s
  | s, op :: r => match m.ops[op.toNat]? with
    | some o => if holds s o.pre = true then mRun m (setAll s o.post) r else none
    | none => none
theorem mRun_append (m : MTask) : ∀ (a : List Int) (s : List Int) (b : List Int), mRun m s (a ++ b) = match mRun m s a with
    | some s' => mRun m s' b
    | none => none
  | [], s, b => rfl
  | op :: r, s, b => by
    simp only [List.cons_append, mRun]
    split
    · split
      · exact mRun_append m r _ b
      · rfl
    · rfl
def mSolves (m : MTask) (plan : List Int) : Bool := match mRun m m.init plan with
  | some s => holds s m.goal
  | none => false
def costAt (m : MTask) (op : Int) : Int := match m.ops[op.toNat]? with
  | some o => o.cost
  | none => 0
def costL (m : MTask) : List Int → Int
  | [] => 0
  | op :: r => costAt m op + costL m r
theorem costL_snoc (m : MTask) : ∀ (l : List Int) (op : Int), costL m (l ++ [op]) = costL m l + costAt m op
  | [], op => by simp [costL]
  | a :: l, op => by simp only [List.cons_append, costL, costL_snoc m l op]; omega
theorem setAll_len (s : List Int) : ∀ l : List Asg, (setAll s l).length = s.length
  | [] => rfl
  | a :: l => by
    show (setAll (s.set a.var.toNat a.value) l).length = _
    rw [setAll_len _ l]; simp
theorem setAll_snoc (s : List Int) (l : List Asg) (a : Asg) : setAll s (l ++ [a]) = (setAll s l).set a.var.toNat a.value := by simp [setAll]
end Hm
end

section
/- Contracts: assignments that hold; states after operators. -/
namespace Hm
open Go
set_option maxRecDepth 100000
set_option maxHeartbeats 1000000
set_option linter.unusedSimpArgs false
set_option linter.unusedVariables false
theorem holdAt_get {s : List Int} {a : Asg} {x : Int} (h0 : 0 ≤ a.var) (hx : s[a.var.toNat]? = some x) : holdAt s a = (x == a.value) := by
  simp [holdAt, szAt, hx, show ¬ a.var < 0 from by omega]
def c_R1_MultiHolds : Cmd :=
  (.seq
   (.ops [
   .op (some 4) none (.mov (.c (.bool false)))])
   (.cut
   (.seq
   (.seq
   (.ops [
   .op (some 5) none (.mov (.c (.int .i64 (0))))])
   (.cut
   (.block 0
   (.loop
   (.seq
   (.seq
   (.ops [
   .op (some 6) none (.mov (.t 5)),
   .op (some 7) none (.mov (.t 1)),
   .op (some 8) none (.len false (.t 7)),
   .op (some 9) none (.bin .lss false [] (.t 6) (.t 8))])
   (.cut
   (.cond (.t 9)
   .skip
   (.exit 0))))
   (.cut
   (.seq
   (.block 1
   (.seq
   (.ops [
   .op (some 12) none (.mov (.t 0)),
   .op (some 13) none (.mov (.t 1)),
   .op (some 14) none (.mov (.t 5)),
   .op (some 15) none (.iaddr 2 (.t 13) (.t 14)),
   .op (some 16) none (.faddr 0 (.t 15)),
   .op (some 17) none (.load false 1 (.t 16)),
   .op (some 18) none (.iaddr 1 (.t 12) (.t 17)),
   .op (some 19) none (.load false 1 (.t 18)),
   .op (some 20) none (.mov (.t 1)),
   .op (some 21) none (.mov (.t 5)),
   .op (some 22) none (.iaddr 2 (.t 20) (.t 21)),
   .op (some 23) none (.faddr 1 (.t 22)),
   .op (some 24) none (.load false 1 (.t 23)),
   .op (some 25) none (.bin .neq false [.i] (.t 19) (.t 24))])
   (.cut
   (.cond (.t 25)
   (.seq
   (.ops [
   .op (some 4) none (.mov (.c (.bool false)))])
   .ret)
   .skip))))
   (.cut
   (.ops [
   .op (some 10) none (.mov (.t 5)),
   .op (some 11) none (.bin .add false [] (.t 10) (.c (.int .i64 (1)))),
   .op (some 5) none (.mov (.t 11))])))))))))
   (.cut
   (.seq
   (.ops [
   .op (some 4) none (.mov (.c (.bool true)))])
   .ret)))))
def r_R1_MultiHolds : List RVar := [.tmp 4]
def n_R1_MultiHolds : Nat := 26
theorem k_R1_MultiHolds : chkFn Go.Proofs.Try.prog 13 n_R1_MultiHolds r_R1_MultiHolds c_R1_MultiHolds = true := by kernel_rfl
theorem f_R1_MultiHolds (s : List Int) (l : List Asg) (hl : l.length ≤ 140737488355328) (hv : asIn s.length l) : Fc Go.Proofs.Try.prog 13 [.sl .p (s.map i64V), .sl .p (l.map asV)] (.bool (holds s l)) := by
  refine Fn.step mixed k_R1_MultiHolds ?_
  repeat' (first | refine i_len rfl ?_ | refine i_s rfl ?_ | refine i_lenm rfl rfl rfl ?_ | refine c_seq ?_ | refine c_cut0 ?_ | refine c_ops ?_ | refine i_nil ?_ | refine e_seq ?_ | refine e_block ?_ | refine c_block ?_ | refine c_skip ?_ | refine c_ret ?_ | refine c_exit ?_ | refine e_exit rfl ?_ | refine i_s0 rfl ?_ | refine c_leaf ?_ | refine i_gt rfl ?_ | refine i_gf rfl ?_ | refine i_gd rfl ?_ | refine c_t rfl ?_ | refine c_f rfl ?_ | refine i_conv rfl (by simp only [InR, List.length_map]; omega) ?_ | refine i_add rfl rfl (by simp only [InR, List.length_map]; omega) ?_ | refine i_sub rfl rfl (by simp only [InR, List.length_map]; omega) ?_ | refine i_ixm rfl rfl (by assumption) ?_ | refine i_iai rfl rfl (by omega) (by assumption) rfl ?_ | refine i_iam rfl rfl (by assumption) rfl ?_ | refine i_tk rfl rfl (by omega) ?_ | refine i_stb rfl ?_ | refine i_alloc rfl ?_ | refine i_box rfl rfl ?_ | refine i_nv rfl ?_ | refine c_node ?_ ?_ | refine i_g rfl (fun h => ?_) (fun h => ?_) | refine c_cond rfl (fun h => ?_) (fun h => ?_))
  refine c_for l.length (fun k => [(0, .sl .p (s.map i64V)), (1, .sl .p (l.map asV)), (5, .int .i64 k)]) (fun _ => []) (fun k => (l.take k).all (holdAt s) = true) (by simp) ⟨by repeat (first | exact trivial | refine ⟨rfl, ?_⟩), by repeat (first | exact trivial | refine ⟨rfl, ?_⟩), rfl⟩ fun k hk hi => ?_
  repeat (first | refine i_len rfl ?_ | refine i_s rfl ?_ | refine i_lenm rfl rfl rfl ?_ | refine c_seq ?_ | refine c_cut0 ?_ | refine c_ops ?_ | refine i_nil ?_ | refine e_seq ?_ | refine e_block ?_ | refine c_block ?_ | refine c_skip ?_ | refine c_ret ?_ | refine c_exit ?_ | refine e_exit rfl ?_ | refine i_s0 rfl ?_ | refine c_leaf ?_ | refine i_gt rfl ?_ | refine i_gf rfl ?_ | refine i_gd rfl ?_ | refine c_t rfl ?_ | refine c_f rfl ?_ | refine i_conv rfl (by simp only [InR, List.length_map]; omega) ?_ | refine i_add rfl rfl (by simp only [InR, List.length_map]; omega) ?_ | refine i_sub rfl rfl (by simp only [InR, List.length_map]; omega) ?_ | refine i_ixm rfl rfl (by assumption) ?_ | refine i_iai rfl rfl (by omega) (by assumption) rfl ?_ | refine i_iam rfl rfl (by assumption) rfl ?_ | refine i_tk rfl rfl (by omega) ?_ | refine i_stb rfl ?_ | refine i_alloc rfl ?_ | refine i_box rfl rfl ?_ | refine i_nv rfl ?_)
  refine c_cond rfl (fun h => ?_) (fun h => ?_)
  · have hlt : k < l.length := by simpa using h
    obtain ⟨a, ha⟩ := get_some hlt
    obtain ⟨h0, h1⟩ := hv a (mem_get ha)
    obtain ⟨x, hx⟩ := get_some (l := s) (k := a.var.toNat) (by omega)
    have hh := holdAt_get h0 hx
    clear h
    repeat' (first | refine i_len rfl ?_ | refine i_s rfl ?_ | refine i_lenm rfl rfl rfl ?_ | refine c_seq ?_ | refine c_cut0 ?_ | refine c_ops ?_ | refine i_nil ?_ | refine e_seq ?_ | refine e_block ?_ | refine c_block ?_ | refine c_skip ?_ | refine c_ret ?_ | refine c_exit ?_ | refine e_exit rfl ?_ | refine i_s0 rfl ?_ | refine c_leaf ?_ | refine i_gt rfl ?_ | refine i_gf rfl ?_ | refine i_gd rfl ?_ | refine c_t rfl ?_ | refine c_f rfl ?_ | refine i_conv rfl (by simp only [InR, List.length_map]; omega) ?_ | refine i_add rfl rfl (by simp only [InR, List.length_map]; omega) ?_ | refine i_sub rfl rfl (by simp only [InR, List.length_map]; omega) ?_ | refine i_ixm rfl rfl (by assumption) ?_ | refine i_iai rfl rfl (by omega) (by assumption) rfl ?_ | refine i_iam rfl rfl (by assumption) rfl ?_ | refine i_tk rfl rfl (by omega) ?_ | refine i_stb rfl ?_ | refine i_alloc rfl ?_ | refine i_box rfl rfl ?_ | refine i_nv rfl ?_ | refine c_node ?_ ?_ | refine i_g rfl (fun h => ?_) (fun h => ?_) | refine c_cond rfl (fun h => ?_) (fun h => ?_))
    · refine e_ret ⟨rfl, _, rfl, congrArg V.bool ?_⟩
      unfold holds
      rw [List.all_eq_false]
      exact ⟨a, mem_get ha, by rw [hh]; simpa using h⟩
    · refine e_for hlt ?_ ⟨by repeat (first | exact trivial | refine ⟨rfl, ?_⟩), by repeat (first | exact trivial | refine ⟨rfl, ?_⟩), rfl⟩
      rw [take_succ_get ha, List.all_append, hi]
      simp only [List.all_cons, List.all_nil, Bool.and_true, Bool.true_and, hh]
      simpa using h
  · have hge : ¬ k < l.length := by simpa using h
    rw [List.take_of_length_le (by omega)] at hi
    repeat' (first | refine i_len rfl ?_ | refine i_s rfl ?_ | refine i_lenm rfl rfl rfl ?_ | refine c_seq ?_ | refine c_cut0 ?_ | refine c_ops ?_ | refine i_nil ?_ | refine e_seq ?_ | refine e_block ?_ | refine c_block ?_ | refine c_skip ?_ | refine c_ret ?_ | refine c_exit ?_ | refine e_exit rfl ?_ | refine i_s0 rfl ?_ | refine c_leaf ?_ | refine i_gt rfl ?_ | refine i_gf rfl ?_ | refine i_gd rfl ?_ | refine c_t rfl ?_ | refine c_f rfl ?_ | refine i_conv rfl (by simp only [InR, List.length_map]; omega) ?_ | refine i_add rfl rfl (by simp only [InR, List.length_map]; omega) ?_ | refine i_sub rfl rfl (by simp only [InR, List.length_map]; omega) ?_ | refine i_ixm rfl rfl (by assumption) ?_ | refine i_iai rfl rfl (by omega) (by assumption) rfl ?_ | refine i_iam rfl rfl (by assumption) rfl ?_ | refine i_tk rfl rfl (by omega) ?_ | refine i_stb rfl ?_ | refine i_alloc rfl ?_ | refine i_box rfl rfl ?_ | refine i_nv rfl ?_ | refine c_node ?_ ?_ | refine i_g rfl (fun h => ?_) (fun h => ?_) | refine c_cond rfl (fun h => ?_) (fun h => ?_))
    exact e_ret ⟨rfl, _, rfl, congrArg V.bool hi⟩
def c_multi_Holds_1 : Cmd :=
  (.seq
   (.ops [
   .op (some 2) none (.box 3456130 2 (.t 0)),
   .op (some 3) none (.mov (.c (.bool false)))])
   (.cut
   (.seq
   (.ops [
   .op (some 4) none (.load false 1 (.t 1)),
   .op (some 5) none (.faddr 0 (.t 2)),
   .op (some 6) none (.load false 1 (.t 5)),
   .op (some 7) none (.iaddr 1 (.t 4) (.t 6)),
   .op (some 8) none (.load false 1 (.t 7)),
   .op (some 9) none (.faddr 1 (.t 2)),
   .op (some 10) none (.load false 1 (.t 9)),
   .op (some 11) none (.bin .neq false [.i] (.t 8) (.t 10)),
   .op (some 3) none (.mov (.t 11))])
   .ret)))
def r_multi_Holds_1 : List RVar := [.tmp 3]
def n_multi_Holds_1 : Nat := 12
theorem k_multi_Holds_1 : chkFn Go.Proofs.Try.prog 54 n_multi_Holds_1 r_multi_Holds_1 c_multi_Holds_1 = true := by kernel_rfl
theorem f_multi_Holds_1 (s : List Int) (a : Asg) (h0 : 0 ≤ a.var) (h1 : a.var < s.length) : Fc Go.Proofs.Try.prog 54 [asV a, .cptr .p (.sl .p (s.map i64V)) 0] (.bool (!holdAt s a)) := by
  obtain ⟨x, hx⟩ := get_some (l := s) (k := a.var.toNat) (by omega)
  refine Fn.step mixed k_multi_Holds_1 ?_
  repeat' (first | refine i_len rfl ?_ | refine i_s rfl ?_ | refine i_lenm rfl rfl rfl ?_ | refine c_seq ?_ | refine c_cut0 ?_ | refine c_ops ?_ | refine i_nil ?_ | refine e_seq ?_ | refine e_block ?_ | refine c_block ?_ | refine c_skip ?_ | refine c_ret ?_ | refine c_exit ?_ | refine e_exit rfl ?_ | refine i_s0 rfl ?_ | refine c_leaf ?_ | refine i_gt rfl ?_ | refine i_gf rfl ?_ | refine i_gd rfl ?_ | refine c_t rfl ?_ | refine c_f rfl ?_ | refine i_conv rfl (by simp only [InR, List.length_map]; omega) ?_ | refine i_add rfl rfl (by simp only [InR, List.length_map]; omega) ?_ | refine i_sub rfl rfl (by simp only [InR, List.length_map]; omega) ?_ | refine i_ixm rfl rfl (by assumption) ?_ | refine i_iai rfl rfl (by omega) (by assumption) rfl ?_ | refine i_iam rfl rfl (by assumption) rfl ?_ | refine i_tk rfl rfl (by omega) ?_ | refine i_stb rfl ?_ | refine i_alloc rfl ?_ | refine i_box rfl rfl ?_ | refine i_nv rfl ?_ | refine c_node ?_ ?_ | refine i_g rfl (fun h => ?_) (fun h => ?_) | refine c_cond rfl (fun h => ?_) (fun h => ?_))
  exact e_ret ⟨rfl, _, rfl, congrArg V.bool (by rw [holdAt_get h0 hx])⟩
def c_multi_Holds : Cmd :=
  (.seq
   (.ops [
   .op (some 2) none (.box 2496129 1 (.t 0)),
   .op (some 4) none (.mov (.c (.bool false)))])
   (.cut
   (.seq
   (.ops [
   .op (some 5) none (.mov (.t 1)),
   .op (some 6) none (.mkfn 54 [.t 2]),
   .op (some 7) none (.call .f (.c (.fn 53 [])) [.t 5, .t 6]),
   .op (some 8) none (.not (.t 7)),
   .op (some 4) none (.mov (.t 8))])
   .ret)))
def r_multi_Holds : List RVar := [.tmp 4]
def n_multi_Holds : Nat := 9
theorem k_multi_Holds : chkFn Go.Proofs.Try.prog 39 n_multi_Holds r_multi_Holds c_multi_Holds = true := by kernel_rfl
theorem f_multi_Holds (s : List Int) (l : List Asg) (hl : l.length ≤ 140737488355328) (hv : asIn s.length l) : Fc Go.Proofs.Try.prog 39 [.sl .p (s.map i64V), .sl .p (l.map asV)] (.bool (holds s l)) := by
  have hC := f_ContainsFunc_Assign l (fun a => !holdAt s a) 54 [.cptr .p (.sl .p (s.map i64V)) 0] hl (fun _ _ => rfl) rfl (fun a h => f_multi_Holds_1 s a (hv a h).1 (hv a h).2)
  refine Fn.step mixed k_multi_Holds ?_
  repeat' (first | refine i_len rfl ?_ | refine i_s rfl ?_ | refine i_lenm rfl rfl rfl ?_ | refine c_seq ?_ | refine c_cut0 ?_ | refine c_ops ?_ | refine i_nil ?_ | refine e_seq ?_ | refine e_block ?_ | refine c_block ?_ | refine c_skip ?_ | refine c_ret ?_ | refine c_exit ?_ | refine e_exit rfl ?_ | refine i_s0 rfl ?_ | refine c_leaf ?_ | refine i_gt rfl ?_ | refine i_gf rfl ?_ | refine i_gd rfl ?_ | refine c_t rfl ?_ | refine c_f rfl ?_ | refine i_conv rfl (by simp only [InR, List.length_map]; omega) ?_ | refine i_add rfl rfl (by simp only [InR, List.length_map]; omega) ?_ | refine i_sub rfl rfl (by simp only [InR, List.length_map]; omega) ?_ | refine i_ixm rfl rfl (by assumption) ?_ | refine i_iai rfl rfl (by omega) (by assumption) rfl ?_ | refine i_iam rfl rfl (by assumption) rfl ?_ | refine i_tk rfl rfl (by omega) ?_ | refine i_stb rfl ?_ | refine i_alloc rfl ?_ | refine i_box rfl rfl ?_ | refine i_nv rfl ?_ | refine c_node ?_ ?_ | refine i_g rfl (fun h => ?_) (fun h => ?_) | refine c_cond rfl (fun h => ?_) (fun h => ?_) | refine i_f rfl rfl (hC) rfl ?_)
  exact e_ret ⟨rfl, _, rfl, congrArg V.bool (by unfold holds; rw [← List.not_all_eq_any_not]; simp)⟩
def c_CloneM : Cmd :=
  (.seq
   (.ops [
   .op (some 2) none (.mov (.c (.sl .nil [])))])
   (.cut
   (.seq
   (.seq
   (.ops [
   .op (some 3) none (.mov (.t 0)),
   .op (some 4) none (.isnil false (.t 3))])
   (.cut
   (.cond (.t 4)
   (.seq
   (.ops [
   .op (some 2) none (.newArr 3520321)])
   .ret)
   .skip)))
   (.cut
   (.seq
   (.ops [
   .op (some 5) none (.bslA 3520321 1 []),
   .op (some 6) none (.mov (.t 0)),
   .op (some 7) none (.append 1 8 (.t 5) (.t 6)),
   .op (some 2) none (.mov (.t 7))])
   .ret)))))
def r_CloneM : List RVar := [.tmp 2]
def n_CloneM : Nat := 8
theorem k_CloneM : chkFn Go.Proofs.Try.prog 55 n_CloneM r_CloneM c_CloneM = true := by kernel_rfl
theorem c_slices_Clone_int_ct {G : Type} {H : HT G} (s : List Int) (hl : s.length ≤ 17592186044416) (σ : Store) (g : G) (h1 : σ 3520321 = .unused) (hp : ∀ nm, σ nm ≠ .unused → nm ∈ [3520321]) :
    Cc Go.Proofs.Try.prog H 55 [.sl .p (s.map i64V)] [3520321] σ g fun r σ' g' => (∃ gen, r = .msl 3520321 gen 0 s.length ∧ σ' = stOf [(3520321, .arr gen (s.map i64V))]) ∧ g' = g := by
  refine CT.step _ mixed k_CloneM hp fun hM => ?_
  repeat (first | refine i_len rfl ?_ | refine i_s rfl ?_ | refine i_lenm rfl rfl rfl ?_ | refine c_seq ?_ | refine c_cut0 ?_ | refine c_ops ?_ | refine i_nil ?_ | refine e_seq ?_ | refine e_block ?_ | refine c_block ?_ | refine c_skip ?_ | refine c_ret ?_ | refine c_exit ?_ | refine e_exit rfl ?_ | refine i_s0 rfl ?_ | refine c_leaf ?_ | refine i_gt rfl ?_ | refine i_gf rfl ?_ | refine i_gd rfl ?_ | refine c_t rfl ?_ | refine c_f rfl ?_ | refine i_conv rfl (by simp only [InR, List.length_map]; omega) ?_ | refine i_add rfl rfl (by simp only [InR, List.length_map]; omega) ?_ | refine i_sub rfl rfl (by simp only [InR, List.length_map]; omega) ?_ | refine i_ixm rfl rfl (by assumption) ?_ | refine i_iai rfl rfl (by omega) (by assumption) rfl ?_ | refine i_iam rfl rfl (by assumption) rfl ?_ | refine i_tk rfl rfl (by omega) ?_ | refine i_stb rfl ?_ | refine i_alloc rfl ?_ | refine i_box rfl rfl ?_ | refine i_nv rfl ?_)
  refine i_isnil rfl fun b hb => ?_
  repeat (first | refine i_len rfl ?_ | refine i_s rfl ?_ | refine i_lenm rfl rfl rfl ?_ | refine c_seq ?_ | refine c_cut0 ?_ | refine c_ops ?_ | refine i_nil ?_ | refine e_seq ?_ | refine e_block ?_ | refine c_block ?_ | refine c_skip ?_ | refine c_ret ?_ | refine c_exit ?_ | refine e_exit rfl ?_ | refine i_s0 rfl ?_ | refine c_leaf ?_ | refine i_gt rfl ?_ | refine i_gf rfl ?_ | refine i_gd rfl ?_ | refine c_t rfl ?_ | refine c_f rfl ?_ | refine i_conv rfl (by simp only [InR, List.length_map]; omega) ?_ | refine i_add rfl rfl (by simp only [InR, List.length_map]; omega) ?_ | refine i_sub rfl rfl (by simp only [InR, List.length_map]; omega) ?_ | refine i_ixm rfl rfl (by assumption) ?_ | refine i_iai rfl rfl (by omega) (by assumption) rfl ?_ | refine i_iam rfl rfl (by assumption) rfl ?_ | refine i_tk rfl rfl (by omega) ?_ | refine i_stb rfl ?_ | refine i_alloc rfl ?_ | refine i_box rfl rfl ?_ | refine i_nv rfl ?_)
  refine c_cond rfl (fun h => ?_) (fun h => ?_)
  · have e : s = [] := by simpa using hb (by simpa using h)
    subst e
    repeat (first | refine i_len rfl ?_ | refine i_s rfl ?_ | refine i_lenm rfl rfl rfl ?_ | refine c_seq ?_ | refine c_cut0 ?_ | refine c_ops ?_ | refine i_nil ?_ | refine e_seq ?_ | refine e_block ?_ | refine c_block ?_ | refine c_skip ?_ | refine c_ret ?_ | refine c_exit ?_ | refine e_exit rfl ?_ | refine i_s0 rfl ?_ | refine c_leaf ?_ | refine i_gt rfl ?_ | refine i_gf rfl ?_ | refine i_gd rfl ?_ | refine c_t rfl ?_ | refine c_f rfl ?_ | refine i_conv rfl (by simp only [InR, List.length_map]; omega) ?_ | refine i_add rfl rfl (by simp only [InR, List.length_map]; omega) ?_ | refine i_sub rfl rfl (by simp only [InR, List.length_map]; omega) ?_ | refine i_ixm rfl rfl (by assumption) ?_ | refine i_iai rfl rfl (by omega) (by assumption) rfl ?_ | refine i_iam rfl rfl (by assumption) rfl ?_ | refine i_tk rfl rfl (by omega) ?_ | refine i_stb rfl ?_ | refine i_alloc rfl ?_ | refine i_box rfl rfl ?_ | refine i_nv rfl ?_)
    refine i_na h1 ?_
    repeat (first | refine i_len rfl ?_ | refine i_s rfl ?_ | refine i_lenm rfl rfl rfl ?_ | refine c_seq ?_ | refine c_cut0 ?_ | refine c_ops ?_ | refine i_nil ?_ | refine e_seq ?_ | refine e_block ?_ | refine c_block ?_ | refine c_skip ?_ | refine c_ret ?_ | refine c_exit ?_ | refine e_exit rfl ?_ | refine i_s0 rfl ?_ | refine c_leaf ?_ | refine i_gt rfl ?_ | refine i_gf rfl ?_ | refine i_gd rfl ?_ | refine c_t rfl ?_ | refine c_f rfl ?_ | refine i_conv rfl (by simp only [InR, List.length_map]; omega) ?_ | refine i_add rfl rfl (by simp only [InR, List.length_map]; omega) ?_ | refine i_sub rfl rfl (by simp only [InR, List.length_map]; omega) ?_ | refine i_ixm rfl rfl (by assumption) ?_ | refine i_iai rfl rfl (by omega) (by assumption) rfl ?_ | refine i_iam rfl rfl (by assumption) rfl ?_ | refine i_tk rfl rfl (by omega) ?_ | refine i_stb rfl ?_ | refine i_alloc rfl ?_ | refine i_box rfl rfl ?_ | refine i_nv rfl ?_)
    exact e_ret ⟨rfl, _, rfl, rfl, rfl, ⟨0, rfl, restr_stOf _ _⟩, rfl⟩
  · repeat (first | refine i_len rfl ?_ | refine i_s rfl ?_ | refine i_lenm rfl rfl rfl ?_ | refine c_seq ?_ | refine c_cut0 ?_ | refine c_ops ?_ | refine i_nil ?_ | refine e_seq ?_ | refine e_block ?_ | refine c_block ?_ | refine c_skip ?_ | refine c_ret ?_ | refine c_exit ?_ | refine e_exit rfl ?_ | refine i_s0 rfl ?_ | refine c_leaf ?_ | refine i_gt rfl ?_ | refine i_gf rfl ?_ | refine i_gd rfl ?_ | refine c_t rfl ?_ | refine c_f rfl ?_ | refine i_conv rfl (by simp only [InR, List.length_map]; omega) ?_ | refine i_add rfl rfl (by simp only [InR, List.length_map]; omega) ?_ | refine i_sub rfl rfl (by simp only [InR, List.length_map]; omega) ?_ | refine i_ixm rfl rfl (by assumption) ?_ | refine i_iai rfl rfl (by omega) (by assumption) rfl ?_ | refine i_iam rfl rfl (by assumption) rfl ?_ | refine i_tk rfl rfl (by omega) ?_ | refine i_stb rfl ?_ | refine i_alloc rfl ?_ | refine i_box rfl rfl ?_ | refine i_nv rfl ?_)
    refine i_bsla h1 rfl rfl rfl ?_
    repeat (first | refine i_len rfl ?_ | refine i_s rfl ?_ | refine i_lenm rfl rfl rfl ?_ | refine c_seq ?_ | refine c_cut0 ?_ | refine c_ops ?_ | refine i_nil ?_ | refine e_seq ?_ | refine e_block ?_ | refine c_block ?_ | refine c_skip ?_ | refine c_ret ?_ | refine c_exit ?_ | refine e_exit rfl ?_ | refine i_s0 rfl ?_ | refine c_leaf ?_ | refine i_gt rfl ?_ | refine i_gf rfl ?_ | refine i_gd rfl ?_ | refine c_t rfl ?_ | refine c_f rfl ?_ | refine i_conv rfl (by simp only [InR, List.length_map]; omega) ?_ | refine i_add rfl rfl (by simp only [InR, List.length_map]; omega) ?_ | refine i_sub rfl rfl (by simp only [InR, List.length_map]; omega) ?_ | refine i_ixm rfl rfl (by assumption) ?_ | refine i_iai rfl rfl (by omega) (by assumption) rfl ?_ | refine i_iam rfl rfl (by assumption) rfl ?_ | refine i_tk rfl rfl (by omega) ?_ | refine i_stb rfl ?_ | refine i_alloc rfl ?_ | refine i_box rfl rfl ?_ | refine i_nv rfl ?_)
    refine i_appm rfl rfl rfl rfl rfl (fun row hrow => ?_) (by simp; omega) (by simp; omega) ?_
    · obtain ⟨n, _, rfl⟩ := List.mem_map.1 hrow
      exact ⟨rfl, rfl⟩
    repeat (first | refine i_len rfl ?_ | refine i_s rfl ?_ | refine i_lenm rfl rfl rfl ?_ | refine c_seq ?_ | refine c_cut0 ?_ | refine c_ops ?_ | refine i_nil ?_ | refine e_seq ?_ | refine e_block ?_ | refine c_block ?_ | refine c_skip ?_ | refine c_ret ?_ | refine c_exit ?_ | refine e_exit rfl ?_ | refine i_s0 rfl ?_ | refine c_leaf ?_ | refine i_gt rfl ?_ | refine i_gf rfl ?_ | refine i_gd rfl ?_ | refine c_t rfl ?_ | refine c_f rfl ?_ | refine i_conv rfl (by simp only [InR, List.length_map]; omega) ?_ | refine i_add rfl rfl (by simp only [InR, List.length_map]; omega) ?_ | refine i_sub rfl rfl (by simp only [InR, List.length_map]; omega) ?_ | refine i_ixm rfl rfl (by assumption) ?_ | refine i_iai rfl rfl (by omega) (by assumption) rfl ?_ | refine i_iam rfl rfl (by assumption) rfl ?_ | refine i_tk rfl rfl (by omega) ?_ | refine i_stb rfl ?_ | refine i_alloc rfl ?_ | refine i_box rfl rfl ?_ | refine i_nv rfl ?_)
    refine e_ret ⟨rfl, _, rfl, rfl, rfl, ⟨1, ?_, ?_⟩, rfl⟩
    · show V.msl _ _ _ _ = V.msl _ _ _ _
      simp
    · rw [restr_stOf]; rfl
def c_R1_Copy : Cmd :=
  (.seq
   (.ops [
   .op (some 2) none (.mov (.c (.sl .nil [])))])
   (.cut
   (.seq
   (.ops [
   .op (some 3) none (.newArr 2624193)])
   (.cut
   (.seq
   (.ops [
   .op (some 4) none (.mov (.t 3)),
   .op (some 5) none (.mov (.t 0)),
   .op (some 6) none (.append 1 8 (.t 4) (.t 5)),
   .op (some 2) none (.mov (.t 6))])
   .ret)))))
def r_R1_Copy : List RVar := [.tmp 2]
def n_R1_Copy : Nat := 7
theorem k_R1_Copy : chkFn Go.Proofs.Try.prog 41 n_R1_Copy r_R1_Copy c_R1_Copy = true := by kernel_rfl
theorem c_R1_Copy_ct {G : Type} {H : HT G} (s : List Int) (hl : s.length ≤ 17592186044416) (σ : Store) (g : G) (h1 : σ 2624193 = .unused) (hp : ∀ nm, σ nm ≠ .unused → nm ∈ [2624193]) :
    Cc Go.Proofs.Try.prog H 41 [.sl .p (s.map i64V)] [2624193] σ g fun r σ' g' => (∃ gen, r = .msl 2624193 gen 0 s.length ∧ σ' = stOf [(2624193, .arr gen (s.map i64V))]) ∧ g' = g := by
  refine CT.step _ mixed k_R1_Copy hp fun hM => ?_
  repeat (first | refine i_len rfl ?_ | refine i_s rfl ?_ | refine i_lenm rfl rfl rfl ?_ | refine c_seq ?_ | refine c_cut0 ?_ | refine c_ops ?_ | refine i_nil ?_ | refine e_seq ?_ | refine e_block ?_ | refine c_block ?_ | refine c_skip ?_ | refine c_ret ?_ | refine c_exit ?_ | refine e_exit rfl ?_ | refine i_s0 rfl ?_ | refine c_leaf ?_ | refine i_gt rfl ?_ | refine i_gf rfl ?_ | refine i_gd rfl ?_ | refine c_t rfl ?_ | refine c_f rfl ?_ | refine i_conv rfl (by simp only [InR, List.length_map]; omega) ?_ | refine i_add rfl rfl (by simp only [InR, List.length_map]; omega) ?_ | refine i_sub rfl rfl (by simp only [InR, List.length_map]; omega) ?_ | refine i_ixm rfl rfl (by assumption) ?_ | refine i_iai rfl rfl (by omega) (by assumption) rfl ?_ | refine i_iam rfl rfl (by assumption) rfl ?_ | refine i_tk rfl rfl (by omega) ?_ | refine i_stb rfl ?_ | refine i_alloc rfl ?_ | refine i_box rfl rfl ?_ | refine i_nv rfl ?_)
  refine i_na h1 ?_
  repeat (first | refine i_len rfl ?_ | refine i_s rfl ?_ | refine i_lenm rfl rfl rfl ?_ | refine c_seq ?_ | refine c_cut0 ?_ | refine c_ops ?_ | refine i_nil ?_ | refine e_seq ?_ | refine e_block ?_ | refine c_block ?_ | refine c_skip ?_ | refine c_ret ?_ | refine c_exit ?_ | refine e_exit rfl ?_ | refine i_s0 rfl ?_ | refine c_leaf ?_ | refine i_gt rfl ?_ | refine i_gf rfl ?_ | refine i_gd rfl ?_ | refine c_t rfl ?_ | refine c_f rfl ?_ | refine i_conv rfl (by simp only [InR, List.length_map]; omega) ?_ | refine i_add rfl rfl (by simp only [InR, List.length_map]; omega) ?_ | refine i_sub rfl rfl (by simp only [InR, List.length_map]; omega) ?_ | refine i_ixm rfl rfl (by assumption) ?_ | refine i_iai rfl rfl (by omega) (by assumption) rfl ?_ | refine i_iam rfl rfl (by assumption) rfl ?_ | refine i_tk rfl rfl (by omega) ?_ | refine i_stb rfl ?_ | refine i_alloc rfl ?_ | refine i_box rfl rfl ?_ | refine i_nv rfl ?_)
  refine i_appm rfl rfl rfl rfl rfl (fun row hrow => ?_) (by simp; omega) (by simp; omega) ?_
  · obtain ⟨n, _, rfl⟩ := List.mem_map.1 hrow
    exact ⟨rfl, rfl⟩
  repeat (first | refine i_len rfl ?_ | refine i_s rfl ?_ | refine i_lenm rfl rfl rfl ?_ | refine c_seq ?_ | refine c_cut0 ?_ | refine c_ops ?_ | refine i_nil ?_ | refine e_seq ?_ | refine e_block ?_ | refine c_block ?_ | refine c_skip ?_ | refine c_ret ?_ | refine c_exit ?_ | refine e_exit rfl ?_ | refine i_s0 rfl ?_ | refine c_leaf ?_ | refine i_gt rfl ?_ | refine i_gf rfl ?_ | refine i_gd rfl ?_ | refine c_t rfl ?_ | refine c_f rfl ?_ | refine i_conv rfl (by simp only [InR, List.length_map]; omega) ?_ | refine i_add rfl rfl (by simp only [InR, List.length_map]; omega) ?_ | refine i_sub rfl rfl (by simp only [InR, List.length_map]; omega) ?_ | refine i_ixm rfl rfl (by assumption) ?_ | refine i_iai rfl rfl (by omega) (by assumption) rfl ?_ | refine i_iam rfl rfl (by assumption) rfl ?_ | refine i_tk rfl rfl (by omega) ?_ | refine i_stb rfl ?_ | refine i_alloc rfl ?_ | refine i_box rfl rfl ?_ | refine i_nv rfl ?_)
  refine e_ret ⟨rfl, _, rfl, rfl, rfl, ⟨1, ?_, ?_⟩, rfl⟩
  · show V.msl _ _ _ _ = V.msl _ _ _ _
    simp
  · rw [restr_stOf]; rfl
def c_multi_Next : Cmd :=
  (.seq
   (.ops [
   .op (some 3) none (.box 2560196 4 (.t 0)),
   .op (some 6) none (.mov (.c (.sl .nil [])))])
   (.cut
   (.seq
   (.ops [
   .op (some 10) none (.mov (.t 1)),
   .op (some 11) none (.call (.s [3520321]) (.c (.fn 55 [])) [.t 10]),
   .op (some 7) none (.mov (.t 11))])
   (.cut
   (.seq
   (.seq
   (.ops [
   .op (some 12) none (.faddr 3 (.t 3)),
   .op (some 13) none (.load false 1 (.t 12)),
   .op (some 14) none (.mov (.t 2)),
   .op (some 15) none (.iaddr 3 (.t 13) (.t 14)),
   .op (some 16) none (.faddr 1 (.t 15)),
   .op (some 17) none (.load false 1 (.t 16)),
   .op (some 18) none (.len false (.t 17)),
   .op (some 19) none (.mov (.c (.int .i64 (0))))])
   (.cut
   (.block 0
   (.loop
   (.seq
   (.ops [
   .op (some 20) none (.bin .lss false [] (.t 19) (.t 18))])
   (.cut
   (.seq
   (.cond (.t 20)
   .skip
   (.exit 0))
   (.cut
   (.seq
   (.block 1
   (.seq
   (.ops [
   .op (some 21) none (.iaddr 2 (.t 17) (.t 19)),
   .op (some 22) none (.load true 2 (.t 21)),
   .op (some 9) none (.alloc 2560578 (.agg [.int .i64 (0), .int .i64 (0)])),
   .op none none (.store 2 (.t 9) (.t 22))])
   (.cut
   (.ops [
   .op (some 23) none (.mov (.t 7)),
   .op (some 24) none (.faddr 0 (.t 9)),
   .op (some 25) none (.load false 1 (.t 24)),
   .op (some 26) none (.faddr 1 (.t 9)),
   .op (some 27) none (.load false 1 (.t 26)),
   .op (some 28) none (.iaddr 1 (.t 23) (.t 25)),
   .op none none (.store 1 (.t 28) (.t 27))]))))
   (.cut
   (.ops [
   .op (some 29) none (.bin .add false [] (.t 19) (.c (.int .i64 (1)))),
   .op (some 19) none (.mov (.t 29))])))))))))))
   (.cut
   (.seq
   (.ops [
   .op (some 30) none (.mov (.t 7)),
   .op (some 6) none (.mov (.t 30))])
   .ret)))))))
def r_multi_Next : List RVar := [.tmp 6]
def n_multi_Next : Nat := 31
theorem k_multi_Next : chkFn Go.Proofs.Try.prog 40 n_multi_Next r_multi_Next c_multi_Next = true := by kernel_rfl
theorem f_multi_Next (m : MTask) (s : List Int) (hs : s.length ≤ 17592186044416) (op : Int) (h0 : 0 ≤ op) (o : MOp) (ho : m.ops[op.toNat]? = some o) (hl : o.post.length ≤ 140737488355328) (hv : asIn s.length o.post) :
    Fc Go.Proofs.Try.prog 40 [mtV m, .sl .p (s.map i64V), .int .i64 op] (.sl .p ((setAll s o.post).map i64V)) := by
  refine Fn.step mixed k_multi_Next ?_
  repeat (first | refine i_len rfl ?_ | refine i_s rfl ?_ | refine i_lenm rfl rfl rfl ?_ | refine c_seq ?_ | refine c_cut0 ?_ | refine c_ops ?_ | refine i_nil ?_ | refine e_seq ?_ | refine e_block ?_ | refine c_block ?_ | refine c_skip ?_ | refine c_ret ?_ | refine c_exit ?_ | refine e_exit rfl ?_ | refine i_s0 rfl ?_ | refine c_leaf ?_ | refine i_gt rfl ?_ | refine i_gf rfl ?_ | refine i_gd rfl ?_ | refine c_t rfl ?_ | refine c_f rfl ?_ | refine i_conv rfl (by simp only [InR, List.length_map]; omega) ?_ | refine i_add rfl rfl (by simp only [InR, List.length_map]; omega) ?_ | refine i_sub rfl rfl (by simp only [InR, List.length_map]; omega) ?_ | refine i_ixm rfl rfl (by assumption) ?_ | refine i_iai rfl rfl (by omega) (by assumption) rfl ?_ | refine i_iam rfl rfl (by assumption) rfl ?_ | refine i_tk rfl rfl (by omega) ?_ | refine i_stb rfl ?_ | refine i_alloc rfl ?_ | refine i_box rfl rfl ?_ | refine i_nv rfl ?_)
  refine i_c rfl rfl rfl (c_slices_Clone_int_ct s hs _ _ rfl fun nm h => restr_mem nm h) ?_
  rintro _ _ _ ⟨⟨gen, rfl, rfl⟩, rfl⟩
  repeat (first | refine i_len rfl ?_ | refine i_s rfl ?_ | refine i_lenm rfl rfl rfl ?_ | refine c_seq ?_ | refine c_cut0 ?_ | refine c_ops ?_ | refine i_nil ?_ | refine e_seq ?_ | refine e_block ?_ | refine c_block ?_ | refine c_skip ?_ | refine c_ret ?_ | refine c_exit ?_ | refine e_exit rfl ?_ | refine i_s0 rfl ?_ | refine c_leaf ?_ | refine i_gt rfl ?_ | refine i_gf rfl ?_ | refine i_gd rfl ?_ | refine c_t rfl ?_ | refine c_f rfl ?_ | refine i_conv rfl (by simp only [InR, List.length_map]; omega) ?_ | refine i_add rfl rfl (by simp only [InR, List.length_map]; omega) ?_ | refine i_sub rfl rfl (by simp only [InR, List.length_map]; omega) ?_ | refine i_ixm rfl rfl (by assumption) ?_ | refine i_iai rfl rfl (by omega) (by assumption) rfl ?_ | refine i_iam rfl rfl (by assumption) rfl ?_ | refine i_tk rfl rfl (by omega) ?_ | refine i_stb rfl ?_ | refine i_alloc rfl ?_ | refine i_box rfl rfl ?_ | refine i_nv rfl ?_)
  refine c_for o.post.length (fun k => [(7, .msl 3520321 gen 0 s.length), (17, .sl .p (o.post.map asV)), (18, .int .i64 o.post.length), (19, .int .i64 k)]) (fun k => [(3520321, .arr gen ((setAll s (o.post.take k)).map i64V))]) (fun _ => True) trivial ⟨by repeat (first | exact trivial | refine ⟨rfl, ?_⟩), by repeat (first | exact trivial | refine ⟨rfl, ?_⟩), rfl⟩ fun k hk _ => ?_
  repeat (first | refine i_len rfl ?_ | refine i_s rfl ?_ | refine i_lenm rfl rfl rfl ?_ | refine c_seq ?_ | refine c_cut0 ?_ | refine c_ops ?_ | refine i_nil ?_ | refine e_seq ?_ | refine e_block ?_ | refine c_block ?_ | refine c_skip ?_ | refine c_ret ?_ | refine c_exit ?_ | refine e_exit rfl ?_ | refine i_s0 rfl ?_ | refine c_leaf ?_ | refine i_gt rfl ?_ | refine i_gf rfl ?_ | refine i_gd rfl ?_ | refine c_t rfl ?_ | refine c_f rfl ?_ | refine i_conv rfl (by simp only [InR, List.length_map]; omega) ?_ | refine i_add rfl rfl (by simp only [InR, List.length_map]; omega) ?_ | refine i_sub rfl rfl (by simp only [InR, List.length_map]; omega) ?_ | refine i_ixm rfl rfl (by assumption) ?_ | refine i_iai rfl rfl (by omega) (by assumption) rfl ?_ | refine i_iam rfl rfl (by assumption) rfl ?_ | refine i_tk rfl rfl (by omega) ?_ | refine i_stb rfl ?_ | refine i_alloc rfl ?_ | refine i_box rfl rfl ?_ | refine i_nv rfl ?_)
  refine c_cond rfl (fun h => ?_) (fun h => ?_)
  · have hlt : k < o.post.length := by simpa using h
    obtain ⟨a, ha⟩ := get_some hlt
    obtain ⟨v0, v1⟩ := hv a (mem_get ha)
    have hsl := setAll_len s (o.post.take k)
    clear h
    repeat (first | refine i_len rfl ?_ | refine i_s rfl ?_ | refine i_lenm rfl rfl rfl ?_ | refine c_seq ?_ | refine c_cut0 ?_ | refine c_ops ?_ | refine i_nil ?_ | refine e_seq ?_ | refine e_block ?_ | refine c_block ?_ | refine c_skip ?_ | refine c_ret ?_ | refine c_exit ?_ | refine e_exit rfl ?_ | refine i_s0 rfl ?_ | refine c_leaf ?_ | refine i_gt rfl ?_ | refine i_gf rfl ?_ | refine i_gd rfl ?_ | refine c_t rfl ?_ | refine c_f rfl ?_ | refine i_conv rfl (by simp only [InR, List.length_map]; omega) ?_ | refine i_add rfl rfl (by simp only [InR, List.length_map]; omega) ?_ | refine i_sub rfl rfl (by simp only [InR, List.length_map]; omega) ?_ | refine i_ixm rfl rfl (by assumption) ?_ | refine i_iai rfl rfl (by omega) (by assumption) rfl ?_ | refine i_iam rfl rfl (by assumption) rfl ?_ | refine i_tk rfl rfl (by omega) ?_ | refine i_stb rfl ?_ | refine i_alloc rfl ?_ | refine i_box rfl rfl ?_ | refine i_nv rfl ?_)
    refine i_ima rfl rfl rfl rfl v0 v1 rfl ?_
    repeat (first | refine i_len rfl ?_ | refine i_s rfl ?_ | refine i_lenm rfl rfl rfl ?_ | refine c_seq ?_ | refine c_cut0 ?_ | refine c_ops ?_ | refine i_nil ?_ | refine e_seq ?_ | refine e_block ?_ | refine c_block ?_ | refine c_skip ?_ | refine c_ret ?_ | refine c_exit ?_ | refine e_exit rfl ?_ | refine i_s0 rfl ?_ | refine c_leaf ?_ | refine i_gt rfl ?_ | refine i_gf rfl ?_ | refine i_gd rfl ?_ | refine c_t rfl ?_ | refine c_f rfl ?_ | refine i_conv rfl (by simp only [InR, List.length_map]; omega) ?_ | refine i_add rfl rfl (by simp only [InR, List.length_map]; omega) ?_ | refine i_sub rfl rfl (by simp only [InR, List.length_map]; omega) ?_ | refine i_ixm rfl rfl (by assumption) ?_ | refine i_iai rfl rfl (by omega) (by assumption) rfl ?_ | refine i_iam rfl rfl (by assumption) rfl ?_ | refine i_tk rfl rfl (by omega) ?_ | refine i_stb rfl ?_ | refine i_alloc rfl ?_ | refine i_box rfl rfl ?_ | refine i_nv rfl ?_)
    refine i_sti rfl rfl rfl rfl rfl (by omega) ?_
    repeat (first | refine i_len rfl ?_ | refine i_s rfl ?_ | refine i_lenm rfl rfl rfl ?_ | refine c_seq ?_ | refine c_cut0 ?_ | refine c_ops ?_ | refine i_nil ?_ | refine e_seq ?_ | refine e_block ?_ | refine c_block ?_ | refine c_skip ?_ | refine c_ret ?_ | refine c_exit ?_ | refine e_exit rfl ?_ | refine i_s0 rfl ?_ | refine c_leaf ?_ | refine i_gt rfl ?_ | refine i_gf rfl ?_ | refine i_gd rfl ?_ | refine c_t rfl ?_ | refine c_f rfl ?_ | refine i_conv rfl (by simp only [InR, List.length_map]; omega) ?_ | refine i_add rfl rfl (by simp only [InR, List.length_map]; omega) ?_ | refine i_sub rfl rfl (by simp only [InR, List.length_map]; omega) ?_ | refine i_ixm rfl rfl (by assumption) ?_ | refine i_iai rfl rfl (by omega) (by assumption) rfl ?_ | refine i_iam rfl rfl (by assumption) rfl ?_ | refine i_tk rfl rfl (by omega) ?_ | refine i_stb rfl ?_ | refine i_alloc rfl ?_ | refine i_box rfl rfl ?_ | refine i_nv rfl ?_)
    refine e_for hlt trivial ⟨⟨rfl, rfl, rfl, rfl, trivial⟩, ⟨?_, trivial⟩, rfl⟩
    rw [take_succ_get ha, setAll_snoc, Nat.zero_add]; rfl
  · have hge : ¬ k < o.post.length := by simpa using h
    rw [List.take_of_length_le (by omega)]
    repeat (first | refine i_len rfl ?_ | refine i_s rfl ?_ | refine i_lenm rfl rfl rfl ?_ | refine c_seq ?_ | refine c_cut0 ?_ | refine c_ops ?_ | refine i_nil ?_ | refine e_seq ?_ | refine e_block ?_ | refine c_block ?_ | refine c_skip ?_ | refine c_ret ?_ | refine c_exit ?_ | refine e_exit rfl ?_ | refine i_s0 rfl ?_ | refine c_leaf ?_ | refine i_gt rfl ?_ | refine i_gf rfl ?_ | refine i_gd rfl ?_ | refine c_t rfl ?_ | refine c_f rfl ?_ | refine i_conv rfl (by simp only [InR, List.length_map]; omega) ?_ | refine i_add rfl rfl (by simp only [InR, List.length_map]; omega) ?_ | refine i_sub rfl rfl (by simp only [InR, List.length_map]; omega) ?_ | refine i_ixm rfl rfl (by assumption) ?_ | refine i_iai rfl rfl (by omega) (by assumption) rfl ?_ | refine i_iam rfl rfl (by assumption) rfl ?_ | refine i_tk rfl rfl (by omega) ?_ | refine i_stb rfl ?_ | refine i_alloc rfl ?_ | refine i_box rfl rfl ?_ | refine i_nv rfl ?_)
    exact e_ret ⟨rfl, _, rfl, ((er_msl (i := 0) (len := s.length) (n := 5) rfl).trans (msl_all (setAll_len _ _))).symm⟩
end Hm
end

section
/- Contracts: states and plans of multi-valued tasks. -/
namespace Hm
open Go
set_option maxRecDepth 100000
set_option maxHeartbeats 1000000
set_option linter.unusedSimpArgs false
set_option linter.unusedVariables false
def c_R1_MultiAfter : Cmd :=
  (.seq
   (.ops [
   .op (some 3) none (.box 1152196 4 (.t 0)),
   .op (some 6) none (.mov (.c (.sl .nil [])))])
   (.cut
   (.seq
   (.ops [
   .op (some 9) none (.mov (.t 1)),
   .op (some 10) none (.call (.s [2624193]) (.c (.fn 41 [])) [.t 9]),
   .op (some 7) none (.mov (.t 10))])
   (.cut
   (.seq
   (.seq
   (.ops [
   .op (some 8) none (.mov (.c (.int .i64 (0))))])
   (.cut
   (.block 0
   (.loop
   (.seq
   (.seq
   (.ops [
   .op (some 11) none (.mov (.t 8)),
   .op (some 12) none (.faddr 3 (.t 3)),
   .op (some 13) none (.load false 1 (.t 12)),
   .op (some 14) none (.mov (.t 2)),
   .op (some 15) none (.iaddr 3 (.t 13) (.t 14)),
   .op (some 16) none (.faddr 1 (.t 15)),
   .op (some 17) none (.load false 1 (.t 16)),
   .op (some 18) none (.len false (.t 17)),
   .op (some 19) none (.bin .lss false [] (.t 11) (.t 18))])
   (.cut
   (.cond (.t 19)
   .skip
   (.exit 0))))
   (.cut
   (.seq
   (.block 1
   (.ops [
   .op (some 22) none (.mov (.t 7)),
   .op (some 23) none (.faddr 3 (.t 3)),
   .op (some 24) none (.load false 1 (.t 23)),
   .op (some 25) none (.mov (.t 2)),
   .op (some 26) none (.iaddr 3 (.t 24) (.t 25)),
   .op (some 27) none (.faddr 1 (.t 26)),
   .op (some 28) none (.load false 1 (.t 27)),
   .op (some 29) none (.mov (.t 8)),
   .op (some 30) none (.iaddr 2 (.t 28) (.t 29)),
   .op (some 31) none (.faddr 0 (.t 30)),
   .op (some 32) none (.load false 1 (.t 31)),
   .op (some 33) none (.faddr 3 (.t 3)),
   .op (some 34) none (.load false 1 (.t 33)),
   .op (some 35) none (.mov (.t 2)),
   .op (some 36) none (.iaddr 3 (.t 34) (.t 35)),
   .op (some 37) none (.faddr 1 (.t 36)),
   .op (some 38) none (.load false 1 (.t 37)),
   .op (some 39) none (.mov (.t 8)),
   .op (some 40) none (.iaddr 2 (.t 38) (.t 39)),
   .op (some 41) none (.faddr 1 (.t 40)),
   .op (some 42) none (.load false 1 (.t 41)),
   .op (some 43) none (.iaddr 1 (.t 22) (.t 32)),
   .op none none (.store 1 (.t 43) (.t 42))]))
   (.cut
   (.ops [
   .op (some 20) none (.mov (.t 8)),
   .op (some 21) none (.bin .add false [] (.t 20) (.c (.int .i64 (1)))),
   .op (some 8) none (.mov (.t 21))])))))))))
   (.cut
   (.seq
   (.ops [
   .op (some 44) none (.mov (.t 7)),
   .op (some 6) none (.mov (.t 44))])
   .ret)))))))
def r_R1_MultiAfter : List RVar := [.tmp 6]
def n_R1_MultiAfter : Nat := 45
theorem k_R1_MultiAfter : chkFn Go.Proofs.Try.prog 18 n_R1_MultiAfter r_R1_MultiAfter c_R1_MultiAfter = true := by kernel_rfl
theorem f_R1_MultiAfter (m : MTask) (s : List Int) (hs : s.length ≤ 17592186044416) (op : Int) (h0 : 0 ≤ op) (o : MOp) (ho : m.ops[op.toNat]? = some o) (hl : o.post.length ≤ 140737488355328) (hv : asIn s.length o.post) :
    Fc Go.Proofs.Try.prog 18 [mtV m, .sl .p (s.map i64V), .int .i64 op] (.sl .p ((setAll s o.post).map i64V)) := by
  refine Fn.step mixed k_R1_MultiAfter ?_
  repeat (first | refine i_len rfl ?_ | refine i_s rfl ?_ | refine i_lenm rfl rfl rfl ?_ | refine c_seq ?_ | refine c_cut0 ?_ | refine c_ops ?_ | refine i_nil ?_ | refine e_seq ?_ | refine e_block ?_ | refine c_block ?_ | refine c_skip ?_ | refine c_ret ?_ | refine c_exit ?_ | refine e_exit rfl ?_ | refine i_s0 rfl ?_ | refine c_leaf ?_ | refine i_gt rfl ?_ | refine i_gf rfl ?_ | refine i_gd rfl ?_ | refine c_t rfl ?_ | refine c_f rfl ?_ | refine i_conv rfl (by simp only [InR, List.length_map]; omega) ?_ | refine i_add rfl rfl (by simp only [InR, List.length_map]; omega) ?_ | refine i_sub rfl rfl (by simp only [InR, List.length_map]; omega) ?_ | refine i_ixm rfl rfl (by assumption) ?_ | refine i_iai rfl rfl (by omega) (by assumption) rfl ?_ | refine i_iam rfl rfl (by assumption) rfl ?_ | refine i_tk rfl rfl (by omega) ?_ | refine i_stb rfl ?_ | refine i_alloc rfl ?_ | refine i_box rfl rfl ?_ | refine i_nv rfl ?_)
  refine i_c rfl rfl rfl (c_R1_Copy_ct s hs _ _ rfl fun nm h => restr_mem nm h) ?_
  rintro _ _ _ ⟨⟨gen, rfl, rfl⟩, rfl⟩
  repeat (first | refine i_len rfl ?_ | refine i_s rfl ?_ | refine i_lenm rfl rfl rfl ?_ | refine c_seq ?_ | refine c_cut0 ?_ | refine c_ops ?_ | refine i_nil ?_ | refine e_seq ?_ | refine e_block ?_ | refine c_block ?_ | refine c_skip ?_ | refine c_ret ?_ | refine c_exit ?_ | refine e_exit rfl ?_ | refine i_s0 rfl ?_ | refine c_leaf ?_ | refine i_gt rfl ?_ | refine i_gf rfl ?_ | refine i_gd rfl ?_ | refine c_t rfl ?_ | refine c_f rfl ?_ | refine i_conv rfl (by simp only [InR, List.length_map]; omega) ?_ | refine i_add rfl rfl (by simp only [InR, List.length_map]; omega) ?_ | refine i_sub rfl rfl (by simp only [InR, List.length_map]; omega) ?_ | refine i_ixm rfl rfl (by assumption) ?_ | refine i_iai rfl rfl (by omega) (by assumption) rfl ?_ | refine i_iam rfl rfl (by assumption) rfl ?_ | refine i_tk rfl rfl (by omega) ?_ | refine i_stb rfl ?_ | refine i_alloc rfl ?_ | refine i_box rfl rfl ?_ | refine i_nv rfl ?_)
  refine c_for o.post.length (fun k => [(2, .int .i64 op), (3, .bptr 1152196 0), (7, .msl 2624193 gen 0 s.length), (8, .int .i64 k)]) (fun k => [(1152196, .box (mtV m)), (2624193, .arr gen ((setAll s (o.post.take k)).map i64V))]) (fun _ => True) trivial ⟨by repeat (first | exact trivial | refine ⟨rfl, ?_⟩), by repeat (first | exact trivial | refine ⟨rfl, ?_⟩), rfl⟩ fun k hk _ => ?_
  repeat (first | refine i_len rfl ?_ | refine i_s rfl ?_ | refine i_lenm rfl rfl rfl ?_ | refine c_seq ?_ | refine c_cut0 ?_ | refine c_ops ?_ | refine i_nil ?_ | refine e_seq ?_ | refine e_block ?_ | refine c_block ?_ | refine c_skip ?_ | refine c_ret ?_ | refine c_exit ?_ | refine e_exit rfl ?_ | refine i_s0 rfl ?_ | refine c_leaf ?_ | refine i_gt rfl ?_ | refine i_gf rfl ?_ | refine i_gd rfl ?_ | refine c_t rfl ?_ | refine c_f rfl ?_ | refine i_conv rfl (by simp only [InR, List.length_map]; omega) ?_ | refine i_add rfl rfl (by simp only [InR, List.length_map]; omega) ?_ | refine i_sub rfl rfl (by simp only [InR, List.length_map]; omega) ?_ | refine i_ixm rfl rfl (by assumption) ?_ | refine i_iai rfl rfl (by omega) (by assumption) rfl ?_ | refine i_iam rfl rfl (by assumption) rfl ?_ | refine i_tk rfl rfl (by omega) ?_ | refine i_stb rfl ?_ | refine i_alloc rfl ?_ | refine i_box rfl rfl ?_ | refine i_nv rfl ?_)
  refine c_cond rfl (fun h => ?_) (fun h => ?_)
  · have hlt : k < o.post.length := by simpa using h
    obtain ⟨a, ha⟩ := get_some hlt
    obtain ⟨v0, v1⟩ := hv a (mem_get ha)
    have hsl := setAll_len s (o.post.take k)
    clear h
    repeat (first | refine i_len rfl ?_ | refine i_s rfl ?_ | refine i_lenm rfl rfl rfl ?_ | refine c_seq ?_ | refine c_cut0 ?_ | refine c_ops ?_ | refine i_nil ?_ | refine e_seq ?_ | refine e_block ?_ | refine c_block ?_ | refine c_skip ?_ | refine c_ret ?_ | refine c_exit ?_ | refine e_exit rfl ?_ | refine i_s0 rfl ?_ | refine c_leaf ?_ | refine i_gt rfl ?_ | refine i_gf rfl ?_ | refine i_gd rfl ?_ | refine c_t rfl ?_ | refine c_f rfl ?_ | refine i_conv rfl (by simp only [InR, List.length_map]; omega) ?_ | refine i_add rfl rfl (by simp only [InR, List.length_map]; omega) ?_ | refine i_sub rfl rfl (by simp only [InR, List.length_map]; omega) ?_ | refine i_ixm rfl rfl (by assumption) ?_ | refine i_iai rfl rfl (by omega) (by assumption) rfl ?_ | refine i_iam rfl rfl (by assumption) rfl ?_ | refine i_tk rfl rfl (by omega) ?_ | refine i_stb rfl ?_ | refine i_alloc rfl ?_ | refine i_box rfl rfl ?_ | refine i_nv rfl ?_)
    refine i_ima rfl rfl rfl rfl v0 v1 rfl ?_
    repeat (first | refine i_len rfl ?_ | refine i_s rfl ?_ | refine i_lenm rfl rfl rfl ?_ | refine c_seq ?_ | refine c_cut0 ?_ | refine c_ops ?_ | refine i_nil ?_ | refine e_seq ?_ | refine e_block ?_ | refine c_block ?_ | refine c_skip ?_ | refine c_ret ?_ | refine c_exit ?_ | refine e_exit rfl ?_ | refine i_s0 rfl ?_ | refine c_leaf ?_ | refine i_gt rfl ?_ | refine i_gf rfl ?_ | refine i_gd rfl ?_ | refine c_t rfl ?_ | refine c_f rfl ?_ | refine i_conv rfl (by simp only [InR, List.length_map]; omega) ?_ | refine i_add rfl rfl (by simp only [InR, List.length_map]; omega) ?_ | refine i_sub rfl rfl (by simp only [InR, List.length_map]; omega) ?_ | refine i_ixm rfl rfl (by assumption) ?_ | refine i_iai rfl rfl (by omega) (by assumption) rfl ?_ | refine i_iam rfl rfl (by assumption) rfl ?_ | refine i_tk rfl rfl (by omega) ?_ | refine i_stb rfl ?_ | refine i_alloc rfl ?_ | refine i_box rfl rfl ?_ | refine i_nv rfl ?_)
    refine i_sti rfl rfl rfl rfl rfl (by omega) ?_
    repeat (first | refine i_len rfl ?_ | refine i_s rfl ?_ | refine i_lenm rfl rfl rfl ?_ | refine c_seq ?_ | refine c_cut0 ?_ | refine c_ops ?_ | refine i_nil ?_ | refine e_seq ?_ | refine e_block ?_ | refine c_block ?_ | refine c_skip ?_ | refine c_ret ?_ | refine c_exit ?_ | refine e_exit rfl ?_ | refine i_s0 rfl ?_ | refine c_leaf ?_ | refine i_gt rfl ?_ | refine i_gf rfl ?_ | refine i_gd rfl ?_ | refine c_t rfl ?_ | refine c_f rfl ?_ | refine i_conv rfl (by simp only [InR, List.length_map]; omega) ?_ | refine i_add rfl rfl (by simp only [InR, List.length_map]; omega) ?_ | refine i_sub rfl rfl (by simp only [InR, List.length_map]; omega) ?_ | refine i_ixm rfl rfl (by assumption) ?_ | refine i_iai rfl rfl (by omega) (by assumption) rfl ?_ | refine i_iam rfl rfl (by assumption) rfl ?_ | refine i_tk rfl rfl (by omega) ?_ | refine i_stb rfl ?_ | refine i_alloc rfl ?_ | refine i_box rfl rfl ?_ | refine i_nv rfl ?_)
    refine e_for hlt trivial ⟨⟨rfl, rfl, rfl, rfl, trivial⟩, ⟨rfl, ?_, trivial⟩, rfl⟩
    rw [take_succ_get ha, setAll_snoc, Nat.zero_add]; rfl
  · have hge : ¬ k < o.post.length := by simpa using h
    rw [List.take_of_length_le (by omega)]
    repeat (first | refine i_len rfl ?_ | refine i_s rfl ?_ | refine i_lenm rfl rfl rfl ?_ | refine c_seq ?_ | refine c_cut0 ?_ | refine c_ops ?_ | refine i_nil ?_ | refine e_seq ?_ | refine e_block ?_ | refine c_block ?_ | refine c_skip ?_ | refine c_ret ?_ | refine c_exit ?_ | refine e_exit rfl ?_ | refine i_s0 rfl ?_ | refine c_leaf ?_ | refine i_gt rfl ?_ | refine i_gf rfl ?_ | refine i_gd rfl ?_ | refine c_t rfl ?_ | refine c_f rfl ?_ | refine i_conv rfl (by simp only [InR, List.length_map]; omega) ?_ | refine i_add rfl rfl (by simp only [InR, List.length_map]; omega) ?_ | refine i_sub rfl rfl (by simp only [InR, List.length_map]; omega) ?_ | refine i_ixm rfl rfl (by assumption) ?_ | refine i_iai rfl rfl (by omega) (by assumption) rfl ?_ | refine i_iam rfl rfl (by assumption) rfl ?_ | refine i_tk rfl rfl (by omega) ?_ | refine i_stb rfl ?_ | refine i_alloc rfl ?_ | refine i_box rfl rfl ?_ | refine i_nv rfl ?_)
    exact e_ret ⟨rfl, _, rfl, ((er_msl (i := 0) (len := s.length) (n := 5) rfl).trans (msl_all (setAll_len _ _))).symm⟩
def c_multi_StateFault : Cmd :=
  (.seq
   (.ops [
   .op (some 2) none (.box 2432132 4 (.t 0)),
   .op (some 4) none (.alloc 2432258 (.agg [.int .i64 (0), .int .i64 (0)]))])
   (.cut
   (.seq
   (.seq
   (.ops [
   .op (some 6) none (.load true 4 (.t 2)),
   .op (some 7) none (.call .f (.c (.fn 10 [])) [.t 6]),
   .op (some 5) none (.alloc 2432322 (.agg [.int .i64 (0), .int .i64 (0)])),
   .op none none (.store 2 (.t 5) (.t 7))])
   (.cut
   (.seq
   (.ops [
   .op (some 8) none (.load true 2 (.t 5)),
   .op (some 9) none (.build [.int .i64 (0), .int .i64 (0)] []),
   .op (some 10) none (.bin .neq true [.i, .i] (.t 8) (.t 9))])
   (.cut
   (.cond (.t 10)
   (.seq
   (.ops [
   .op (some 11) none (.load true 2 (.t 5)),
   .op none none (.store 2 (.t 4) (.t 11))])
   .ret)
   .skip)))))
   (.cut
   (.seq
   (.seq
   (.ops [
   .op (some 12) none (.load true 4 (.t 2)),
   .op (some 13) none (.mov (.t 1)),
   .op (some 14) none (.call .f (.c (.fn 36 [])) [.t 12, .t 13]),
   .op (some 15) none (.not (.t 14))])
   (.cut
   (.cond (.t 15)
   (.seq
   (.ops [
   .op (some 16) none (.build [.int .i64 (0), .int .i64 (0)] [(0, 1, .c (.int .i64 (5))), (1, 1, .c (.int .i64 (-4)))]),
   .op none none (.store 2 (.t 4) (.t 16))])
   .ret)
   .skip)))
   (.cut
   (.seq
   (.ops [
   .op (some 17) none (.build [.int .i64 (0), .int .i64 (0)] []),
   .op none none (.store 2 (.t 4) (.t 17))])
   .ret)))))))
def r_multi_StateFault : List RVar := [.cell true 2 4]
def n_multi_StateFault : Nat := 18
theorem k_multi_StateFault : chkFn Go.Proofs.Try.prog 38 n_multi_StateFault r_multi_StateFault c_multi_StateFault = true := by kernel_rfl
theorem f_multi_StateFault (m : MTask) (ho : MOk m) (s : List Int) (hs : s.length ≤ 140737488355328) : Fc Go.Proofs.Try.prog 38 [mtV m, .sl .p (s.map i64V)] (ftV (mStFault m s)) := by
  have hV := f_multi_Validate m ho
  have hI := f_multi_IsState m s hs
  refine Fn.step mixed k_multi_StateFault ?_
  repeat' (first | refine i_len rfl ?_ | refine i_s rfl ?_ | refine i_lenm rfl rfl rfl ?_ | refine c_seq ?_ | refine c_cut0 ?_ | refine c_ops ?_ | refine i_nil ?_ | refine e_seq ?_ | refine e_block ?_ | refine c_block ?_ | refine c_skip ?_ | refine c_ret ?_ | refine c_exit ?_ | refine e_exit rfl ?_ | refine i_s0 rfl ?_ | refine c_leaf ?_ | refine i_gt rfl ?_ | refine i_gf rfl ?_ | refine i_gd rfl ?_ | refine c_t rfl ?_ | refine c_f rfl ?_ | refine i_conv rfl (by simp only [InR, List.length_map]; omega) ?_ | refine i_add rfl rfl (by simp only [InR, List.length_map]; omega) ?_ | refine i_sub rfl rfl (by simp only [InR, List.length_map]; omega) ?_ | refine i_ixm rfl rfl (by assumption) ?_ | refine i_iai rfl rfl (by omega) (by assumption) rfl ?_ | refine i_iam rfl rfl (by assumption) rfl ?_ | refine i_tk rfl rfl (by omega) ?_ | refine i_stb rfl ?_ | refine i_alloc rfl ?_ | refine i_box rfl rfl ?_ | refine i_nv rfl ?_ | refine c_node ?_ ?_ | refine i_g rfl (fun h => ?_) (fun h => ?_) | refine c_cond rfl (fun h => ?_) (fun h => ?_) | refine i_f rfl rfl (hV) rfl ?_ | refine i_f rfl rfl (hI) rfl ?_)
  · exact e_ret ⟨rfl, _, rfl, congr_ft (by rw [mStFault, if_neg (ne_ok h)])⟩
  all_goals refine e_ret ⟨rfl, _, rfl, congr_ft ?_⟩
  · rw [mStFault, if_pos (eq_ok (by assumption)), if_neg (by simpa using h)]
  · rw [mStFault, if_pos (eq_ok (by assumption)), if_pos (by simpa using h)]; rfl
def c_multi_Applicable : Cmd :=
  (.seq
   (.ops [
   .op (some 2) none (.box 896132 4 (.t 0)),
   .op (some 4) none (.mov (.c (.sl .nil []))),
   .op (some 5) none (.alloc 896322 (.agg [.int .i64 (0), .int .i64 (0)]))])
   (.cut
   (.seq
   (.seq
   (.ops [
   .op (some 10) none (.load true 4 (.t 2)),
   .op (some 11) none (.mov (.t 1)),
   .op (some 12) none (.call .f (.c (.fn 38 [])) [.t 10, .t 11]),
   .op (some 6) none (.alloc 896386 (.agg [.int .i64 (0), .int .i64 (0)])),
   .op none none (.store 2 (.t 6) (.t 12))])
   (.cut
   (.seq
   (.ops [
   .op (some 13) none (.load true 2 (.t 6)),
   .op (some 14) none (.build [.int .i64 (0), .int .i64 (0)] []),
   .op (some 15) none (.bin .neq true [.i, .i] (.t 13) (.t 14))])
   (.cut
   (.cond (.t 15)
   (.seq
   (.ops [
   .op (some 16) none (.load true 2 (.t 6)),
   .op (some 4) none (.mov (.c (.sl .nil []))),
   .op none none (.store 2 (.t 5) (.t 16))])
   .ret)
   .skip)))))
   (.cut
   (.seq
   (.ops [
   .op (some 7) none (.newVec 896449)])
   (.cut
   (.seq
   (.seq
   (.ops [
   .op (some 17) none (.faddr 3 (.t 2)),
   .op (some 18) none (.load false 1 (.t 17)),
   .op (some 19) none (.len false (.t 18)),
   .op (some 20) none (.mov (.c (.int .i64 (0))))])
   (.cut
   (.block 0
   (.loop
   (.seq
   (.ops [
   .op (some 21) none (.bin .lss false [] (.t 20) (.t 19))])
   (.cut
   (.seq
   (.cond (.t 21)
   .skip
   (.exit 0))
   (.cut
   (.seq
   (.block 1
   (.seq
   (.ops [
   .op (some 22) none (.mov (.t 20)),
   .op (some 23) none (.iaddr 3 (.t 18) (.t 20)),
   .op (some 24) none (.load true 3 (.t 23)),
   .op (some 9) none (.alloc 896579 (.agg [.sl .nil [], .sl .nil [], .int .i64 (0)])),
   .op (some 8) none (.mov (.t 22)),
   .op none none (.store 3 (.t 9) (.t 24))])
   (.cut
   (.seq
   (.ops [
   .op (some 25) none (.mov (.t 1)),
   .op (some 26) none (.faddr 0 (.t 9)),
   .op (some 27) none (.load false 1 (.t 26)),
   .op (some 28) none (.call .f (.c (.fn 39 [])) [.t 25, .t 27])])
   (.cut
   (.cond (.t 28)
   (.ops [
   .op (some 29) none (.mov (.t 7)),
   .op (some 30) none (.mov (.t 8)),
   .op (some 31) none (.bsl 1 [.t 30]),
   .op (some 32) none (.append 1 8 (.t 29) (.t 31)),
   .op (some 7) none (.mov (.t 32))])
   .skip))))))
   (.cut
   (.ops [
   .op (some 33) none (.bin .add false [] (.t 20) (.c (.int .i64 (1)))),
   .op (some 20) none (.mov (.t 33))])))))))))))
   (.cut
   (.seq
   (.ops [
   .op (some 34) none (.mov (.t 7)),
   .op (some 35) none (.build [.int .i64 (0), .int .i64 (0)] []),
   .op (some 4) none (.mov (.t 34)),
   .op none none (.store 2 (.t 5) (.t 35))])
   .ret)))))))))
def r_multi_Applicable : List RVar := [.tmp 4, .cell true 2 5]
def n_multi_Applicable : Nat := 36
theorem k_multi_Applicable : chkFn Go.Proofs.Try.prog 14 n_multi_Applicable r_multi_Applicable c_multi_Applicable = true := by kernel_rfl
theorem f_multi_Applicable_bad (m : MTask) (ho : MOk m) (s : List Int) (hs : s.length ≤ 140737488355328) (hb : mStFault m s ≠ okF) : Fc Go.Proofs.Try.prog 14 [mtV m, .sl .p (s.map i64V)] (.tup [.sl .p [], ftV (mStFault m s)]) := by
  refine Fn.step mixed k_multi_Applicable ?_
  repeat' (first | refine i_len rfl ?_ | refine i_s rfl ?_ | refine i_lenm rfl rfl rfl ?_ | refine c_seq ?_ | refine c_cut0 ?_ | refine c_ops ?_ | refine i_nil ?_ | refine e_seq ?_ | refine e_block ?_ | refine c_block ?_ | refine c_skip ?_ | refine c_ret ?_ | refine c_exit ?_ | refine e_exit rfl ?_ | refine i_s0 rfl ?_ | refine c_leaf ?_ | refine i_gt rfl ?_ | refine i_gf rfl ?_ | refine i_gd rfl ?_ | refine c_t rfl ?_ | refine c_f rfl ?_ | refine i_conv rfl (by simp only [InR, List.length_map]; omega) ?_ | refine i_add rfl rfl (by simp only [InR, List.length_map]; omega) ?_ | refine i_sub rfl rfl (by simp only [InR, List.length_map]; omega) ?_ | refine i_ixm rfl rfl (by assumption) ?_ | refine i_iai rfl rfl (by omega) (by assumption) rfl ?_ | refine i_iam rfl rfl (by assumption) rfl ?_ | refine i_tk rfl rfl (by omega) ?_ | refine i_stb rfl ?_ | refine i_alloc rfl ?_ | refine i_box rfl rfl ?_ | refine i_nv rfl ?_ | refine c_node ?_ ?_ | refine i_g rfl (fun h => ?_) (fun h => ?_) | refine c_cond rfl (fun h => ?_) (fun h => ?_) | refine i_f rfl rfl (f_multi_StateFault m ho s hs) rfl ?_)
  · exact e_ret ⟨rfl, _, rfl, rfl⟩
  · exact absurd (eq_ok h) hb
theorem f_multi_Applicable_ok (m : MTask) (ho : MOk m) (s : List Int) (hv : MV m) (hst : stB m.sizes s = true) (hb : mStFault m s = okF) : Fc Go.Proofs.Try.prog 14 [mtV m, .sl .p (s.map i64V)] (.tup [.sl .p ((appL m s).map i64V), ftV okF]) := by
  have hsl := stB_len hst
  have hl8 := hv.len
  have hl40 := hv.opl
  have hF := f_multi_StateFault m ho s (by omega)
  rw [hb] at hF
  refine Fn.step mixed k_multi_Applicable ?_
  repeat' (first | refine i_len rfl ?_ | refine i_s rfl ?_ | refine i_lenm rfl rfl rfl ?_ | refine c_seq ?_ | refine c_cut0 ?_ | refine c_ops ?_ | refine i_nil ?_ | refine e_seq ?_ | refine e_block ?_ | refine c_block ?_ | refine c_skip ?_ | refine c_ret ?_ | refine c_exit ?_ | refine e_exit rfl ?_ | refine i_s0 rfl ?_ | refine c_leaf ?_ | refine i_gt rfl ?_ | refine i_gf rfl ?_ | refine i_gd rfl ?_ | refine c_t rfl ?_ | refine c_f rfl ?_ | refine i_conv rfl (by simp only [InR, List.length_map]; omega) ?_ | refine i_add rfl rfl (by simp only [InR, List.length_map]; omega) ?_ | refine i_sub rfl rfl (by simp only [InR, List.length_map]; omega) ?_ | refine i_ixm rfl rfl (by assumption) ?_ | refine i_iai rfl rfl (by omega) (by assumption) rfl ?_ | refine i_iam rfl rfl (by assumption) rfl ?_ | refine i_tk rfl rfl (by omega) ?_ | refine i_stb rfl ?_ | refine i_alloc rfl ?_ | refine i_box rfl rfl ?_ | refine i_nv rfl ?_ | refine c_node ?_ ?_ | refine i_g rfl (fun h => ?_) (fun h => ?_) | refine c_cond rfl (fun h => ?_) (fun h => ?_) | refine i_f rfl rfl (hF) rfl ?_)
  refine c_for m.ops.length (fun k => [(1, .sl .p (s.map i64V)), (5, .bptr 896322 0), (7, .sl (.own 896449) ((selK (appAt m s) k).map i64V)), (18, .sl .p (m.ops.map moV)), (19, .int .i64 m.ops.length), (20, .int .i64 k)]) (fun k => [(896322, .box (ftV okF)), (896449, .vec (selK (appAt m s) k).length)]) (fun _ => True) trivial ⟨by repeat (first | exact trivial | refine ⟨rfl, ?_⟩), by repeat (first | exact trivial | refine ⟨rfl, ?_⟩), rfl⟩ fun k hk _ => ?_
  have hml := selK_len (appAt m s) k
  repeat (first | refine i_len rfl ?_ | refine i_s rfl ?_ | refine i_lenm rfl rfl rfl ?_ | refine c_seq ?_ | refine c_cut0 ?_ | refine c_ops ?_ | refine i_nil ?_ | refine e_seq ?_ | refine e_block ?_ | refine c_block ?_ | refine c_skip ?_ | refine c_ret ?_ | refine c_exit ?_ | refine e_exit rfl ?_ | refine i_s0 rfl ?_ | refine c_leaf ?_ | refine i_gt rfl ?_ | refine i_gf rfl ?_ | refine i_gd rfl ?_ | refine c_t rfl ?_ | refine c_f rfl ?_ | refine i_conv rfl (by simp only [InR, List.length_map]; omega) ?_ | refine i_add rfl rfl (by simp only [InR, List.length_map]; omega) ?_ | refine i_sub rfl rfl (by simp only [InR, List.length_map]; omega) ?_ | refine i_ixm rfl rfl (by assumption) ?_ | refine i_iai rfl rfl (by omega) (by assumption) rfl ?_ | refine i_iam rfl rfl (by assumption) rfl ?_ | refine i_tk rfl rfl (by omega) ?_ | refine i_stb rfl ?_ | refine i_alloc rfl ?_ | refine i_box rfl rfl ?_ | refine i_nv rfl ?_)
  refine c_cond rfl (fun h => ?_) (fun h => ?_)
  · have hlt : k < m.ops.length := by simpa using h
    obtain ⟨o, hc⟩ := get_some hlt
    have hat : appAt m s k = holds s o.pre := by simp [appAt, hc]
    have hH := f_multi_Holds s o.pre (ho.2.2.2.2 o (mem_get hc)).1 (hsl ▸ asB_in (hv.op o (mem_get hc)).1)
    rw [← hat] at hH
    clear h
    repeat' (first | refine i_len rfl ?_ | refine i_s rfl ?_ | refine i_lenm rfl rfl rfl ?_ | refine c_seq ?_ | refine c_cut0 ?_ | refine c_ops ?_ | refine i_nil ?_ | refine e_seq ?_ | refine e_block ?_ | refine c_block ?_ | refine c_skip ?_ | refine c_ret ?_ | refine c_exit ?_ | refine e_exit rfl ?_ | refine i_s0 rfl ?_ | refine c_leaf ?_ | refine i_gt rfl ?_ | refine i_gf rfl ?_ | refine i_gd rfl ?_ | refine c_t rfl ?_ | refine c_f rfl ?_ | refine i_conv rfl (by simp only [InR, List.length_map]; omega) ?_ | refine i_add rfl rfl (by simp only [InR, List.length_map]; omega) ?_ | refine i_sub rfl rfl (by simp only [InR, List.length_map]; omega) ?_ | refine i_ixm rfl rfl (by assumption) ?_ | refine i_iai rfl rfl (by omega) (by assumption) rfl ?_ | refine i_iam rfl rfl (by assumption) rfl ?_ | refine i_tk rfl rfl (by omega) ?_ | refine i_stb rfl ?_ | refine i_alloc rfl ?_ | refine i_box rfl rfl ?_ | refine i_nv rfl ?_ | refine c_node ?_ ?_ | refine i_g rfl (fun h => ?_) (fun h => ?_) | refine c_cond rfl (fun h => ?_) (fun h => ?_) | refine i_f rfl rfl (hH) rfl ?_)
    · refine i_appM rfl rfl rfl rfl rfl (by omega) (by omega) ?_
      repeat' (first | refine i_len rfl ?_ | refine i_s rfl ?_ | refine i_lenm rfl rfl rfl ?_ | refine c_seq ?_ | refine c_cut0 ?_ | refine c_ops ?_ | refine i_nil ?_ | refine e_seq ?_ | refine e_block ?_ | refine c_block ?_ | refine c_skip ?_ | refine c_ret ?_ | refine c_exit ?_ | refine e_exit rfl ?_ | refine i_s0 rfl ?_ | refine c_leaf ?_ | refine i_gt rfl ?_ | refine i_gf rfl ?_ | refine i_gd rfl ?_ | refine c_t rfl ?_ | refine c_f rfl ?_ | refine i_conv rfl (by simp only [InR, List.length_map]; omega) ?_ | refine i_add rfl rfl (by simp only [InR, List.length_map]; omega) ?_ | refine i_sub rfl rfl (by simp only [InR, List.length_map]; omega) ?_ | refine i_ixm rfl rfl (by assumption) ?_ | refine i_iai rfl rfl (by omega) (by assumption) rfl ?_ | refine i_iam rfl rfl (by assumption) rfl ?_ | refine i_tk rfl rfl (by omega) ?_ | refine i_stb rfl ?_ | refine i_alloc rfl ?_ | refine i_box rfl rfl ?_ | refine i_nv rfl ?_ | refine c_node ?_ ?_ | refine i_g rfl (fun h => ?_) (fun h => ?_) | refine c_cond rfl (fun h => ?_) (fun h => ?_))
      refine e_for hlt trivial ⟨⟨rfl, rfl, ?_, rfl, rfl, rfl, trivial⟩, ⟨rfl, ?_, trivial⟩, rfl⟩
      · rw [selK_succ, if_pos h]; rfl
      · rw [selK_succ, if_pos h]; simp; rfl
    · refine e_for hlt trivial ⟨⟨rfl, rfl, ?_, rfl, rfl, rfl, trivial⟩, ⟨rfl, ?_, trivial⟩, rfl⟩
      · rw [selK_succ, if_neg (by simp [h])]; simp; rfl
      · rw [selK_succ, if_neg (by simp [h])]; simp; rfl
  · have hge : ¬ k < m.ops.length := by simpa using h
    have e : k = m.ops.length := by omega
    subst e
    repeat' (first | refine i_len rfl ?_ | refine i_s rfl ?_ | refine i_lenm rfl rfl rfl ?_ | refine c_seq ?_ | refine c_cut0 ?_ | refine c_ops ?_ | refine i_nil ?_ | refine e_seq ?_ | refine e_block ?_ | refine c_block ?_ | refine c_skip ?_ | refine c_ret ?_ | refine c_exit ?_ | refine e_exit rfl ?_ | refine i_s0 rfl ?_ | refine c_leaf ?_ | refine i_gt rfl ?_ | refine i_gf rfl ?_ | refine i_gd rfl ?_ | refine c_t rfl ?_ | refine c_f rfl ?_ | refine i_conv rfl (by simp only [InR, List.length_map]; omega) ?_ | refine i_add rfl rfl (by simp only [InR, List.length_map]; omega) ?_ | refine i_sub rfl rfl (by simp only [InR, List.length_map]; omega) ?_ | refine i_ixm rfl rfl (by assumption) ?_ | refine i_iai rfl rfl (by omega) (by assumption) rfl ?_ | refine i_iam rfl rfl (by assumption) rfl ?_ | refine i_tk rfl rfl (by omega) ?_ | refine i_stb rfl ?_ | refine i_alloc rfl ?_ | refine i_box rfl rfl ?_ | refine i_nv rfl ?_ | refine c_node ?_ ?_ | refine i_g rfl (fun h => ?_) (fun h => ?_) | refine c_cond rfl (fun h => ?_) (fun h => ?_))
    exact e_ret ⟨rfl, _, rfl, rfl⟩
def c_multi_Apply : Cmd :=
  (.seq
   (.ops [
   .op (some 3) none (.box 1088196 4 (.t 0)),
   .op (some 6) none (.mov (.c (.sl .nil []))),
   .op (some 7) none (.alloc 1088450 (.agg [.int .i64 (0), .int .i64 (0)]))])
   (.cut
   (.seq
   (.seq
   (.ops [
   .op (some 9) none (.load true 4 (.t 3)),
   .op (some 10) none (.mov (.t 1)),
   .op (some 11) none (.call .f (.c (.fn 38 [])) [.t 9, .t 10]),
   .op (some 8) none (.alloc 1088514 (.agg [.int .i64 (0), .int .i64 (0)])),
   .op none none (.store 2 (.t 8) (.t 11))])
   (.cut
   (.seq
   (.ops [
   .op (some 12) none (.load true 2 (.t 8)),
   .op (some 13) none (.build [.int .i64 (0), .int .i64 (0)] []),
   .op (some 14) none (.bin .neq true [.i, .i] (.t 12) (.t 13))])
   (.cut
   (.cond (.t 14)
   (.seq
   (.ops [
   .op (some 15) none (.load true 2 (.t 8)),
   .op (some 6) none (.mov (.c (.sl .nil []))),
   .op none none (.store 2 (.t 7) (.t 15))])
   .ret)
   .skip)))))
   (.cut
   (.seq
   (.block 0
   (.seq
   (.ops [
   .op (some 17) none (.mov (.t 2)),
   .op (some 18) none (.bin .lss false [] (.t 17) (.c (.int .i64 (0)))),
   .op (some 19) none (.mov (.t 18)),
   .op (some 20) (some (19, false)) (.mov (.t 2)),
   .op (some 21) (some (19, false)) (.faddr 3 (.t 3)),
   .op (some 22) (some (19, false)) (.load false 1 (.t 21)),
   .op (some 23) (some (19, false)) (.len false (.t 22)),
   .op (some 24) (some (19, false)) (.bin .geq false [] (.t 20) (.t 23)),
   .op (some 25) none (.pick (.t 19) (.c (.bool true)) (.t 24)),
   .op (some 16) none (.mov (.t 25))])
   (.cut
   (.cond (.t 16)
   (.seq
   (.ops [
   .op (some 26) none (.build [.int .i64 (0), .int .i64 (0)] [(0, 1, .c (.int .i64 (3))), (1, 1, .c (.int .i64 (-6)))]),
   .op (some 6) none (.mov (.c (.sl .nil []))),
   .op none none (.store 2 (.t 7) (.t 26))])
   .ret)
   (.seq
   (.ops [
   .op (some 28) none (.mov (.t 1)),
   .op (some 29) none (.faddr 3 (.t 3)),
   .op (some 30) none (.load false 1 (.t 29)),
   .op (some 31) none (.mov (.t 2)),
   .op (some 32) none (.iaddr 3 (.t 30) (.t 31)),
   .op (some 33) none (.faddr 0 (.t 32)),
   .op (some 34) none (.load false 1 (.t 33)),
   .op (some 35) none (.call .f (.c (.fn 39 [])) [.t 28, .t 34]),
   .op (some 36) none (.not (.t 35)),
   .op (some 27) none (.mov (.t 36))])
   (.cut
   (.cond (.t 27)
   (.seq
   (.ops [
   .op (some 37) none (.mov (.t 2)),
   .op (some 38) none (.build [.int .i64 (0), .int .i64 (0)] [(0, 1, .c (.int .i64 (11))), (1, 1, .t 37)]),
   .op (some 6) none (.mov (.c (.sl .nil []))),
   .op none none (.store 2 (.t 7) (.t 38))])
   .ret)
   .skip)))))))
   (.cut
   (.seq
   (.ops [
   .op (some 39) none (.load true 4 (.t 3)),
   .op (some 40) none (.mov (.t 1)),
   .op (some 41) none (.mov (.t 2)),
   .op (some 42) none (.call .f (.c (.fn 40 [])) [.t 39, .t 40, .t 41]),
   .op (some 43) none (.build [.int .i64 (0), .int .i64 (0)] []),
   .op (some 6) none (.mov (.t 42)),
   .op none none (.store 2 (.t 7) (.t 43))])
   .ret)))))))
def r_multi_Apply : List RVar := [.tmp 6, .cell true 2 7]
def n_multi_Apply : Nat := 44
theorem k_multi_Apply : chkFn Go.Proofs.Try.prog 17 n_multi_Apply r_multi_Apply c_multi_Apply = true := by kernel_rfl
theorem f_multi_Apply_bad (m : MTask) (ho : MOk m) (s : List Int) (hs : s.length ≤ 140737488355328) (op : Int) (hb : mStFault m s ≠ okF) : Fc Go.Proofs.Try.prog 17 [mtV m, .sl .p (s.map i64V), .int .i64 op] (.tup [.sl .p [], ftV (mStFault m s)]) := by
  refine Fn.step mixed k_multi_Apply ?_
  repeat' (first | refine i_len rfl ?_ | refine i_s rfl ?_ | refine i_lenm rfl rfl rfl ?_ | refine c_seq ?_ | refine c_cut0 ?_ | refine c_ops ?_ | refine i_nil ?_ | refine e_seq ?_ | refine e_block ?_ | refine c_block ?_ | refine c_skip ?_ | refine c_ret ?_ | refine c_exit ?_ | refine e_exit rfl ?_ | refine i_s0 rfl ?_ | refine c_leaf ?_ | refine i_gt rfl ?_ | refine i_gf rfl ?_ | refine i_gd rfl ?_ | refine c_t rfl ?_ | refine c_f rfl ?_ | refine i_conv rfl (by simp only [InR, List.length_map]; omega) ?_ | refine i_add rfl rfl (by simp only [InR, List.length_map]; omega) ?_ | refine i_sub rfl rfl (by simp only [InR, List.length_map]; omega) ?_ | refine i_ixm rfl rfl (by assumption) ?_ | refine i_iai rfl rfl (by omega) (by assumption) rfl ?_ | refine i_iam rfl rfl (by assumption) rfl ?_ | refine i_tk rfl rfl (by omega) ?_ | refine i_stb rfl ?_ | refine i_alloc rfl ?_ | refine i_box rfl rfl ?_ | refine i_nv rfl ?_ | refine c_node ?_ ?_ | refine i_g rfl (fun h => ?_) (fun h => ?_) | refine c_cond rfl (fun h => ?_) (fun h => ?_) | refine i_f rfl rfl (f_multi_StateFault m ho s hs) rfl ?_)
  · exact e_ret ⟨rfl, _, rfl, rfl⟩
  all_goals exact absurd (eq_ok (by assumption)) hb
theorem f_multi_Apply_rng (m : MTask) (ho : MOk m) (s : List Int) (hs : s.length ≤ 140737488355328) (op : Int) (hb : mStFault m s = okF) (hr : ¬ (0 ≤ op ∧ op < m.ops.length)) : Fc Go.Proofs.Try.prog 17 [mtV m, .sl .p (s.map i64V), .int .i64 op] (.tup [.sl .p [], ftV ⟨3, -6⟩]) := by
  have hF := f_multi_StateFault m ho s hs
  rw [hb] at hF
  refine Fn.step mixed k_multi_Apply ?_
  repeat' (first | refine i_len rfl ?_ | refine i_s rfl ?_ | refine i_lenm rfl rfl rfl ?_ | refine c_seq ?_ | refine c_cut0 ?_ | refine c_ops ?_ | refine i_nil ?_ | refine e_seq ?_ | refine e_block ?_ | refine c_block ?_ | refine c_skip ?_ | refine c_ret ?_ | refine c_exit ?_ | refine e_exit rfl ?_ | refine i_s0 rfl ?_ | refine c_leaf ?_ | refine i_gt rfl ?_ | refine i_gf rfl ?_ | refine i_gd rfl ?_ | refine c_t rfl ?_ | refine c_f rfl ?_ | refine i_conv rfl (by simp only [InR, List.length_map]; omega) ?_ | refine i_add rfl rfl (by simp only [InR, List.length_map]; omega) ?_ | refine i_sub rfl rfl (by simp only [InR, List.length_map]; omega) ?_ | refine i_ixm rfl rfl (by assumption) ?_ | refine i_iai rfl rfl (by omega) (by assumption) rfl ?_ | refine i_iam rfl rfl (by assumption) rfl ?_ | refine i_tk rfl rfl (by omega) ?_ | refine i_stb rfl ?_ | refine i_alloc rfl ?_ | refine i_box rfl rfl ?_ | refine i_nv rfl ?_ | refine c_node ?_ ?_ | refine i_g rfl (fun h => ?_) (fun h => ?_) | refine c_cond rfl (fun h => ?_) (fun h => ?_) | refine i_f rfl rfl (hF) rfl ?_)
  all_goals first
    | exact e_ret ⟨rfl, _, rfl, rfl⟩
    | (exfalso; clear hF ho; grind)
theorem f_multi_Apply_ok (m : MTask) (ho : MOk m) (s : List Int) (hv : MV m) (hst : stB m.sizes s = true) (hb : mStFault m s = okF) (op : Int) (h0 : 0 ≤ op) (h1 : op < m.ops.length) (o : MOp) (hc : m.ops[op.toNat]? = some o) :
    Fc Go.Proofs.Try.prog 17 [mtV m, .sl .p (s.map i64V), .int .i64 op] (if holds s o.pre = true then .tup [.sl .p ((setAll s o.post).map i64V), ftV okF] else .tup [.sl .p [], ftV ⟨11, op⟩]) := by
  have hsl := stB_len hst
  have hl8 := hv.len
  have hF := f_multi_StateFault m ho s (by omega)
  rw [hb] at hF
  have hH := f_multi_Holds s o.pre (ho.2.2.2.2 o (mem_get hc)).1 (hsl ▸ asB_in (hv.op o (mem_get hc)).1)
  have hN := f_multi_Next m s (by omega) op h0 o hc (ho.2.2.2.2 o (mem_get hc)).2 (hsl ▸ asB_in (hv.op o (mem_get hc)).2.1)
  cases hh : holds s o.pre with
  | true =>
    rw [hh] at hH
    refine Fn.step mixed k_multi_Apply ?_
    repeat' (first | refine i_len rfl ?_ | refine i_s rfl ?_ | refine i_lenm rfl rfl rfl ?_ | refine c_seq ?_ | refine c_cut0 ?_ | refine c_ops ?_ | refine i_nil ?_ | refine e_seq ?_ | refine e_block ?_ | refine c_block ?_ | refine c_skip ?_ | refine c_ret ?_ | refine c_exit ?_ | refine e_exit rfl ?_ | refine i_s0 rfl ?_ | refine c_leaf ?_ | refine i_gt rfl ?_ | refine i_gf rfl ?_ | refine i_gd rfl ?_ | refine c_t rfl ?_ | refine c_f rfl ?_ | refine i_conv rfl (by simp only [InR, List.length_map]; omega) ?_ | refine i_add rfl rfl (by simp only [InR, List.length_map]; omega) ?_ | refine i_sub rfl rfl (by simp only [InR, List.length_map]; omega) ?_ | refine i_ixm rfl rfl (by assumption) ?_ | refine i_iai rfl rfl (by omega) (by assumption) rfl ?_ | refine i_iam rfl rfl (by assumption) rfl ?_ | refine i_tk rfl rfl (by omega) ?_ | refine i_stb rfl ?_ | refine i_alloc rfl ?_ | refine i_box rfl rfl ?_ | refine i_nv rfl ?_ | refine c_node ?_ ?_ | refine i_g rfl (fun h => ?_) (fun h => ?_) | refine c_cond rfl (fun h => ?_) (fun h => ?_) | refine i_f rfl rfl (hF) rfl ?_ | refine i_f rfl rfl (hH) rfl ?_ | refine i_f rfl rfl (hN) rfl ?_)
    all_goals first
      | exact e_ret ⟨rfl, _, rfl, rfl⟩
      | (exfalso; clear hF hH hN ho hv; grind)
  | false =>
    rw [hh] at hH
    refine Fn.step mixed k_multi_Apply ?_
    repeat' (first | refine i_len rfl ?_ | refine i_s rfl ?_ | refine i_lenm rfl rfl rfl ?_ | refine c_seq ?_ | refine c_cut0 ?_ | refine c_ops ?_ | refine i_nil ?_ | refine e_seq ?_ | refine e_block ?_ | refine c_block ?_ | refine c_skip ?_ | refine c_ret ?_ | refine c_exit ?_ | refine e_exit rfl ?_ | refine i_s0 rfl ?_ | refine c_leaf ?_ | refine i_gt rfl ?_ | refine i_gf rfl ?_ | refine i_gd rfl ?_ | refine c_t rfl ?_ | refine c_f rfl ?_ | refine i_conv rfl (by simp only [InR, List.length_map]; omega) ?_ | refine i_add rfl rfl (by simp only [InR, List.length_map]; omega) ?_ | refine i_sub rfl rfl (by simp only [InR, List.length_map]; omega) ?_ | refine i_ixm rfl rfl (by assumption) ?_ | refine i_iai rfl rfl (by omega) (by assumption) rfl ?_ | refine i_iam rfl rfl (by assumption) rfl ?_ | refine i_tk rfl rfl (by omega) ?_ | refine i_stb rfl ?_ | refine i_alloc rfl ?_ | refine i_box rfl rfl ?_ | refine i_nv rfl ?_ | refine c_node ?_ ?_ | refine i_g rfl (fun h => ?_) (fun h => ?_) | refine c_cond rfl (fun h => ?_) (fun h => ?_) | refine i_f rfl rfl (hF) rfl ?_ | refine i_f rfl rfl (hH) rfl ?_ | refine i_f rfl rfl (hN) rfl ?_)
    all_goals first
      | exact e_ret ⟨rfl, _, rfl, rfl⟩
      | (exfalso; clear hF hH hN ho hv; grind)
end Hm
end

section
/- Contracts: plans of multi-valued tasks. -/
namespace Hm
open Go
set_option maxRecDepth 100000
set_option maxHeartbeats 1000000
set_option linter.unusedSimpArgs false
set_option linter.unusedVariables false
def c_multi_planFault : Cmd :=
  (.seq
   (.ops [
   .op (some 2) none (.box 2688132 4 (.t 0)),
   .op (some 4) none (.alloc 2688258 (.agg [.int .i64 (0), .int .i64 (0)]))])
   (.cut
   (.seq
   (.seq
   (.ops [
   .op (some 6) none (.load true 4 (.t 2)),
   .op (some 7) none (.call .f (.c (.fn 10 [])) [.t 6]),
   .op (some 5) none (.alloc 2688322 (.agg [.int .i64 (0), .int .i64 (0)])),
   .op none none (.store 2 (.t 5) (.t 7))])
   (.cut
   (.seq
   (.ops [
   .op (some 8) none (.load true 2 (.t 5)),
   .op (some 9) none (.build [.int .i64 (0), .int .i64 (0)] []),
   .op (some 10) none (.bin .neq true [.i, .i] (.t 8) (.t 9))])
   (.cut
   (.cond (.t 10)
   (.seq
   (.ops [
   .op (some 11) none (.load true 2 (.t 5)),
   .op none none (.store 2 (.t 4) (.t 11))])
   .ret)
   .skip)))))
   (.cut
   (.seq
   (.ops [
   .op (some 12) none (.faddr 3 (.t 2)),
   .op (some 13) none (.load false 1 (.t 12)),
   .op (some 14) none (.len false (.t 13)),
   .op (some 15) none (.mov (.t 1)),
   .op (some 16) none (.call .f (.c (.fn 48 [])) [.t 14, .t 15]),
   .op none none (.store 2 (.t 4) (.t 16))])
   .ret)))))
def r_multi_planFault : List RVar := [.cell true 2 4]
def n_multi_planFault : Nat := 17
theorem k_multi_planFault : chkFn Go.Proofs.Try.prog 42 n_multi_planFault r_multi_planFault c_multi_planFault = true := by kernel_rfl
theorem f_multi_planFault (m : MTask) (ho : MOk m) (plan : List Int) (hl : plan.length ≤ 140737488355328) : Fc Go.Proofs.Try.prog 42 [mtV m, .sl .p (plan.map i64V)] (ftV (mPlanFault m plan)) := by
  refine Fn.step mixed k_multi_planFault ?_
  repeat' (first | refine i_len rfl ?_ | refine i_s rfl ?_ | refine i_lenm rfl rfl rfl ?_ | refine c_seq ?_ | refine c_cut0 ?_ | refine c_ops ?_ | refine i_nil ?_ | refine e_seq ?_ | refine e_block ?_ | refine c_block ?_ | refine c_skip ?_ | refine c_ret ?_ | refine c_exit ?_ | refine e_exit rfl ?_ | refine i_s0 rfl ?_ | refine c_leaf ?_ | refine i_gt rfl ?_ | refine i_gf rfl ?_ | refine i_gd rfl ?_ | refine c_t rfl ?_ | refine c_f rfl ?_ | refine i_conv rfl (by simp only [InR, List.length_map]; omega) ?_ | refine i_add rfl rfl (by simp only [InR, List.length_map]; omega) ?_ | refine i_sub rfl rfl (by simp only [InR, List.length_map]; omega) ?_ | refine i_ixm rfl rfl (by assumption) ?_ | refine i_iai rfl rfl (by omega) (by assumption) rfl ?_ | refine i_iam rfl rfl (by assumption) rfl ?_ | refine i_tk rfl rfl (by omega) ?_ | refine i_stb rfl ?_ | refine i_alloc rfl ?_ | refine i_box rfl rfl ?_ | refine i_nv rfl ?_ | refine c_node ?_ ?_ | refine i_g rfl (fun h => ?_) (fun h => ?_) | refine c_cond rfl (fun h => ?_) (fun h => ?_) | refine i_f rfl rfl (f_multi_Validate m ho) rfl ?_ | refine i_f rfl rfl (f_strips_Steps m.ops.length plan hl) rfl ?_)
  · exact e_ret ⟨rfl, _, rfl, congr_ft (by rw [mPlanFault, if_neg (ne_ok h)])⟩
  · exact e_ret ⟨rfl, _, rfl, congr_ft (by rw [mPlanFault, if_pos (eq_ok h)])⟩
theorem mPlan_ok {m : MTask} {plan : List Int} (h : mPlanFault m plan = okF) : MV m ∧ plan.length ≤ 60 ∧ ∀ x ∈ plan, 0 ≤ x ∧ x < m.ops.length := by
  unfold mPlanFault at h
  split at h
  · rename_i h1; exact ⟨mFault_ok h1, stepsF_ok h⟩
  · rename_i h1; exact absurd h h1
theorem mRun_len (m : MTask) : ∀ (plan s s' : List Int), mRun m s plan = some s' → s'.length = s.length
  | [], s, s', h => by cases h; rfl
  | op :: r, s, s', h => by
    simp only [mRun] at h
    split at h
    · split at h
      · rw [mRun_len m r _ s' h, setAll_len]
      · cases h
    · cases h
theorem mRun_step {m : MTask} {plan : List Int} {k : Nat} {x : Int} {o : MOp} {s : List Int} (h : mRun m m.init (plan.take k) = some s) (hx : plan[k]? = some x) (ho : m.ops[x.toNat]? = some o) (hh : holds s o.pre = true) :
    mRun m m.init (plan.take (k + 1)) = some (setAll s o.post) := by
  rw [take_succ_get hx, mRun_append, h]
  simp [mRun, ho, hh]
theorem mRun_stop {m : MTask} {plan : List Int} {k : Nat} {x : Int} {o : MOp} {s : List Int} (h : mRun m m.init (plan.take k) = some s) (hx : plan[k]? = some x) (ho : m.ops[x.toNat]? = some o) (hh : holds s o.pre = false) : mSolves m plan = false := by
  unfold mSolves
  rw [← List.take_append_drop (k + 1) plan, mRun_append, take_succ_get hx, mRun_append, h]
  simp [mRun, ho, hh]
def c_multi_Solves : Cmd :=
  (.seq
   (.ops [
   .op (some 2) none (.box 1280132 4 (.t 0)),
   .op (some 4) none (.mov (.c (.bool false))),
   .op (some 5) none (.alloc 1280322 (.agg [.int .i64 (0), .int .i64 (0)]))])
   (.cut
   (.seq
   (.seq
   (.ops [
   .op (some 10) none (.load true 4 (.t 2)),
   .op (some 11) none (.mov (.t 1)),
   .op (some 12) none (.call .f (.c (.fn 42 [])) [.t 10, .t 11]),
   .op (some 6) none (.alloc 1280386 (.agg [.int .i64 (0), .int .i64 (0)])),
   .op none none (.store 2 (.t 6) (.t 12))])
   (.cut
   (.seq
   (.ops [
   .op (some 13) none (.load true 2 (.t 6)),
   .op (some 14) none (.build [.int .i64 (0), .int .i64 (0)] []),
   .op (some 15) none (.bin .neq true [.i, .i] (.t 13) (.t 14))])
   (.cut
   (.cond (.t 15)
   (.seq
   (.ops [
   .op (some 16) none (.load true 2 (.t 6)),
   .op (some 4) none (.mov (.c (.bool false))),
   .op none none (.store 2 (.t 5) (.t 16))])
   .ret)
   .skip)))))
   (.cut
   (.seq
   (.ops [
   .op (some 17) none (.faddr 1 (.t 2)),
   .op (some 18) none (.load false 1 (.t 17)),
   .op (some 7) none (.mov (.t 18))])
   (.cut
   (.seq
   (.seq
   (.ops [
   .op (some 19) none (.mov (.t 1)),
   .op (some 20) none (.len false (.t 19)),
   .op (some 21) none (.mov (.c (.int .i64 (0))))])
   (.cut
   (.block 0
   (.loop
   (.seq
   (.ops [
   .op (some 22) none (.bin .lss false [] (.t 21) (.t 20))])
   (.cut
   (.seq
   (.cond (.t 22)
   .skip
   (.exit 0))
   (.cut
   (.seq
   (.block 1
   (.seq
   (.ops [
   .op (some 23) none (.iaddr 1 (.t 19) (.t 21)),
   .op (some 24) none (.load false 1 (.t 23)),
   .op (some 9) none (.mov (.t 24))])
   (.cut
   (.seq
   (.seq
   (.ops [
   .op (some 25) none (.mov (.t 7)),
   .op (some 26) none (.faddr 3 (.t 2)),
   .op (some 27) none (.load false 1 (.t 26)),
   .op (some 28) none (.mov (.t 9)),
   .op (some 29) none (.iaddr 3 (.t 27) (.t 28)),
   .op (some 30) none (.faddr 0 (.t 29)),
   .op (some 31) none (.load false 1 (.t 30)),
   .op (some 32) none (.call .f (.c (.fn 39 [])) [.t 25, .t 31]),
   .op (some 33) none (.not (.t 32))])
   (.cut
   (.cond (.t 33)
   (.seq
   (.ops [
   .op (some 34) none (.build [.int .i64 (0), .int .i64 (0)] []),
   .op (some 4) none (.mov (.c (.bool false))),
   .op none none (.store 2 (.t 5) (.t 34))])
   .ret)
   .skip)))
   (.cut
   (.ops [
   .op (some 35) none (.load true 4 (.t 2)),
   .op (some 36) none (.mov (.t 7)),
   .op (some 37) none (.mov (.t 9)),
   .op (some 38) none (.call .f (.c (.fn 40 [])) [.t 35, .t 36, .t 37]),
   .op (some 7) none (.mov (.t 38))]))))))
   (.cut
   (.ops [
   .op (some 39) none (.bin .add false [] (.t 21) (.c (.int .i64 (1)))),
   .op (some 21) none (.mov (.t 39))])))))))))))
   (.cut
   (.seq
   (.ops [
   .op (some 40) none (.mov (.t 7)),
   .op (some 41) none (.faddr 2 (.t 2)),
   .op (some 42) none (.load false 1 (.t 41)),
   .op (some 43) none (.call .f (.c (.fn 39 [])) [.t 40, .t 42]),
   .op (some 44) none (.build [.int .i64 (0), .int .i64 (0)] []),
   .op (some 4) none (.mov (.t 43)),
   .op none none (.store 2 (.t 5) (.t 44))])
   .ret)))))))))
def r_multi_Solves : List RVar := [.tmp 4, .cell true 2 5]
def n_multi_Solves : Nat := 45
theorem k_multi_Solves : chkFn Go.Proofs.Try.prog 20 n_multi_Solves r_multi_Solves c_multi_Solves = true := by kernel_rfl
theorem f_multi_Solves_bad (m : MTask) (ho : MOk m) (plan : List Int) (hl : plan.length ≤ 140737488355328) (hb : mPlanFault m plan ≠ okF) : Fc Go.Proofs.Try.prog 20 [mtV m, .sl .p (plan.map i64V)] (.tup [.bool false, ftV (mPlanFault m plan)]) := by
  refine Fn.step mixed k_multi_Solves ?_
  repeat' (first | refine i_len rfl ?_ | refine i_s rfl ?_ | refine i_lenm rfl rfl rfl ?_ | refine c_seq ?_ | refine c_cut0 ?_ | refine c_ops ?_ | refine i_nil ?_ | refine e_seq ?_ | refine e_block ?_ | refine c_block ?_ | refine c_skip ?_ | refine c_ret ?_ | refine c_exit ?_ | refine e_exit rfl ?_ | refine i_s0 rfl ?_ | refine c_leaf ?_ | refine i_gt rfl ?_ | refine i_gf rfl ?_ | refine i_gd rfl ?_ | refine c_t rfl ?_ | refine c_f rfl ?_ | refine i_conv rfl (by simp only [InR, List.length_map]; omega) ?_ | refine i_add rfl rfl (by simp only [InR, List.length_map]; omega) ?_ | refine i_sub rfl rfl (by simp only [InR, List.length_map]; omega) ?_ | refine i_ixm rfl rfl (by assumption) ?_ | refine i_iai rfl rfl (by omega) (by assumption) rfl ?_ | refine i_iam rfl rfl (by assumption) rfl ?_ | refine i_tk rfl rfl (by omega) ?_ | refine i_stb rfl ?_ | refine i_alloc rfl ?_ | refine i_box rfl rfl ?_ | refine i_nv rfl ?_ | refine c_node ?_ ?_ | refine i_g rfl (fun h => ?_) (fun h => ?_) | refine c_cond rfl (fun h => ?_) (fun h => ?_) | refine i_f rfl rfl (f_multi_planFault m ho plan hl) rfl ?_)
  · exact e_ret ⟨rfl, _, rfl, rfl⟩
  · exact absurd (eq_ok h) hb
theorem f_multi_Solves_ok (m : MTask) (ho : MOk m) (plan : List Int) (hb : mPlanFault m plan = okF) : Fc Go.Proofs.Try.prog 20 [mtV m, .sl .p (plan.map i64V)] (.tup [.bool (mSolves m plan), ftV okF]) := by
  obtain ⟨hv, h60, hr⟩ := mPlan_ok hb
  have hF := f_multi_planFault m ho plan (by omega)
  rw [hb] at hF
  have hil := stB_len hv.init
  have hl8 := hv.len
  refine Fn.step mixed k_multi_Solves ?_
  repeat' (first | refine i_len rfl ?_ | refine i_s rfl ?_ | refine i_lenm rfl rfl rfl ?_ | refine c_seq ?_ | refine c_cut0 ?_ | refine c_ops ?_ | refine i_nil ?_ | refine e_seq ?_ | refine e_block ?_ | refine c_block ?_ | refine c_skip ?_ | refine c_ret ?_ | refine c_exit ?_ | refine e_exit rfl ?_ | refine i_s0 rfl ?_ | refine c_leaf ?_ | refine i_gt rfl ?_ | refine i_gf rfl ?_ | refine i_gd rfl ?_ | refine c_t rfl ?_ | refine c_f rfl ?_ | refine i_conv rfl (by simp only [InR, List.length_map]; omega) ?_ | refine i_add rfl rfl (by simp only [InR, List.length_map]; omega) ?_ | refine i_sub rfl rfl (by simp only [InR, List.length_map]; omega) ?_ | refine i_ixm rfl rfl (by assumption) ?_ | refine i_iai rfl rfl (by omega) (by assumption) rfl ?_ | refine i_iam rfl rfl (by assumption) rfl ?_ | refine i_tk rfl rfl (by omega) ?_ | refine i_stb rfl ?_ | refine i_alloc rfl ?_ | refine i_box rfl rfl ?_ | refine i_nv rfl ?_ | refine c_node ?_ ?_ | refine i_g rfl (fun h => ?_) (fun h => ?_) | refine c_cond rfl (fun h => ?_) (fun h => ?_) | refine i_f rfl rfl (hF) rfl ?_)
  refine c_lp (ι := Nat × List Int) (fun i => [(2, .bptr 1280132 0), (5, .bptr 1280322 0), (7, .sl .p (i.2.map i64V)), (19, .sl .p (plan.map i64V)), (20, .int .i64 plan.length), (21, .int .i64 i.1)]) (fun _ => [(1280132, .box (mtV m)), (1280322, .box (ftV okF))])
    (fun i => i.1 ≤ plan.length ∧ mRun m m.init (plan.take i.1) = some i.2) (fun i => plan.length - i.1) (0, m.init) ⟨Nat.zero_le _, rfl⟩ ⟨by repeat (first | exact trivial | refine ⟨rfl, ?_⟩), by repeat (first | exact trivial | refine ⟨rfl, ?_⟩), rfl⟩ fun i hi => ?_
  obtain ⟨k, s⟩ := i
  obtain ⟨hk, hi⟩ := hi
  simp only at hk hi
  have hsl := mRun_len _ _ _ _ hi
  repeat (first | refine i_len rfl ?_ | refine i_s rfl ?_ | refine i_lenm rfl rfl rfl ?_ | refine c_seq ?_ | refine c_cut0 ?_ | refine c_ops ?_ | refine i_nil ?_ | refine e_seq ?_ | refine e_block ?_ | refine c_block ?_ | refine c_skip ?_ | refine c_ret ?_ | refine c_exit ?_ | refine e_exit rfl ?_ | refine i_s0 rfl ?_ | refine c_leaf ?_ | refine i_gt rfl ?_ | refine i_gf rfl ?_ | refine i_gd rfl ?_ | refine c_t rfl ?_ | refine c_f rfl ?_ | refine i_conv rfl (by simp only [InR, List.length_map]; omega) ?_ | refine i_add rfl rfl (by simp only [InR, List.length_map]; omega) ?_ | refine i_sub rfl rfl (by simp only [InR, List.length_map]; omega) ?_ | refine i_ixm rfl rfl (by assumption) ?_ | refine i_iai rfl rfl (by omega) (by assumption) rfl ?_ | refine i_iam rfl rfl (by assumption) rfl ?_ | refine i_tk rfl rfl (by omega) ?_ | refine i_stb rfl ?_ | refine i_alloc rfl ?_ | refine i_box rfl rfl ?_ | refine i_nv rfl ?_)
  refine c_cond rfl (fun h => ?_) (fun h => ?_)
  · have hlt : k < plan.length := by simpa using h
    obtain ⟨x, hx⟩ := get_some hlt
    obtain ⟨x0, x1⟩ := hr x (mem_get hx)
    obtain ⟨o, hc⟩ := get_some (l := m.ops) (k := x.toNat) (by omega)
    have hop := hv.op o (mem_get hc)
    have hH := f_multi_Holds s o.pre (ho.2.2.2.2 o (mem_get hc)).1 (by rw [hsl, hil]; exact asB_in hop.1)
    have hN := f_multi_Next m s (by omega) x x0 o hc (ho.2.2.2.2 o (mem_get hc)).2 (by rw [hsl, hil]; exact asB_in hop.2.1)
    clear h
    repeat' (first | refine i_len rfl ?_ | refine i_s rfl ?_ | refine i_lenm rfl rfl rfl ?_ | refine c_seq ?_ | refine c_cut0 ?_ | refine c_ops ?_ | refine i_nil ?_ | refine e_seq ?_ | refine e_block ?_ | refine c_block ?_ | refine c_skip ?_ | refine c_ret ?_ | refine c_exit ?_ | refine e_exit rfl ?_ | refine i_s0 rfl ?_ | refine c_leaf ?_ | refine i_gt rfl ?_ | refine i_gf rfl ?_ | refine i_gd rfl ?_ | refine c_t rfl ?_ | refine c_f rfl ?_ | refine i_conv rfl (by simp only [InR, List.length_map]; omega) ?_ | refine i_add rfl rfl (by simp only [InR, List.length_map]; omega) ?_ | refine i_sub rfl rfl (by simp only [InR, List.length_map]; omega) ?_ | refine i_ixm rfl rfl (by assumption) ?_ | refine i_iai rfl rfl (by omega) (by assumption) rfl ?_ | refine i_iam rfl rfl (by assumption) rfl ?_ | refine i_tk rfl rfl (by omega) ?_ | refine i_stb rfl ?_ | refine i_alloc rfl ?_ | refine i_box rfl rfl ?_ | refine i_nv rfl ?_ | refine c_node ?_ ?_ | refine i_g rfl (fun h => ?_) (fun h => ?_) | refine c_cond rfl (fun h => ?_) (fun h => ?_) | refine i_f rfl rfl (hH) rfl ?_ | refine i_f rfl rfl (hN) rfl ?_)
    · exact e_ret ⟨rfl, _, rfl, by rw [mRun_stop hi hx hc (by simpa using h)]; rfl⟩
    · exact e_lp (k + 1, setAll s o.post) ⟨hlt, mRun_step hi hx hc (by simpa using h)⟩ (by simp only; omega) ⟨by repeat (first | exact trivial | refine ⟨rfl, ?_⟩), by repeat (first | exact trivial | refine ⟨rfl, ?_⟩), rfl⟩
  · have hge : ¬ k < plan.length := by simpa using h
    rw [List.take_of_length_le (by omega)] at hi
    have hH := f_multi_Holds s m.goal ho.2.2.1 (by rw [hsl, hil]; exact asB_in hv.goal)
    repeat' (first | refine i_len rfl ?_ | refine i_s rfl ?_ | refine i_lenm rfl rfl rfl ?_ | refine c_seq ?_ | refine c_cut0 ?_ | refine c_ops ?_ | refine i_nil ?_ | refine e_seq ?_ | refine e_block ?_ | refine c_block ?_ | refine c_skip ?_ | refine c_ret ?_ | refine c_exit ?_ | refine e_exit rfl ?_ | refine i_s0 rfl ?_ | refine c_leaf ?_ | refine i_gt rfl ?_ | refine i_gf rfl ?_ | refine i_gd rfl ?_ | refine c_t rfl ?_ | refine c_f rfl ?_ | refine i_conv rfl (by simp only [InR, List.length_map]; omega) ?_ | refine i_add rfl rfl (by simp only [InR, List.length_map]; omega) ?_ | refine i_sub rfl rfl (by simp only [InR, List.length_map]; omega) ?_ | refine i_ixm rfl rfl (by assumption) ?_ | refine i_iai rfl rfl (by omega) (by assumption) rfl ?_ | refine i_iam rfl rfl (by assumption) rfl ?_ | refine i_tk rfl rfl (by omega) ?_ | refine i_stb rfl ?_ | refine i_alloc rfl ?_ | refine i_box rfl rfl ?_ | refine i_nv rfl ?_ | refine c_node ?_ ?_ | refine i_g rfl (fun h => ?_) (fun h => ?_) | refine c_cond rfl (fun h => ?_) (fun h => ?_) | refine i_f rfl rfl (hH) rfl ?_)
    exact e_ret ⟨rfl, _, rfl, by rw [mSolves, hi]; rfl⟩
def c_R1_MultiSolves : Cmd :=
  (.seq
   (.ops [
   .op (some 2) none (.box 1408132 4 (.t 0)),
   .op (some 4) none (.mov (.c (.bool false)))])
   (.cut
   (.seq
   (.ops [
   .op (some 7) none (.faddr 1 (.t 2)),
   .op (some 8) none (.load false 1 (.t 7)),
   .op (some 5) none (.mov (.t 8))])
   (.cut
   (.seq
   (.seq
   (.ops [
   .op (some 6) none (.mov (.c (.int .i64 (0))))])
   (.cut
   (.block 0
   (.loop
   (.seq
   (.seq
   (.ops [
   .op (some 9) none (.mov (.t 6)),
   .op (some 10) none (.mov (.t 1)),
   .op (some 11) none (.len false (.t 10)),
   .op (some 12) none (.bin .lss false [] (.t 9) (.t 11))])
   (.cut
   (.cond (.t 12)
   .skip
   (.exit 0))))
   (.cut
   (.seq
   (.block 1
   (.seq
   (.seq
   (.ops [
   .op (some 15) none (.mov (.t 5)),
   .op (some 16) none (.faddr 3 (.t 2)),
   .op (some 17) none (.load false 1 (.t 16)),
   .op (some 18) none (.mov (.t 1)),
   .op (some 19) none (.mov (.t 6)),
   .op (some 20) none (.iaddr 1 (.t 18) (.t 19)),
   .op (some 21) none (.load false 1 (.t 20)),
   .op (some 22) none (.iaddr 3 (.t 17) (.t 21)),
   .op (some 23) none (.faddr 0 (.t 22)),
   .op (some 24) none (.load false 1 (.t 23)),
   .op (some 25) none (.call .f (.c (.fn 13 [])) [.t 15, .t 24]),
   .op (some 26) none (.not (.t 25))])
   (.cut
   (.cond (.t 26)
   (.seq
   (.ops [
   .op (some 4) none (.mov (.c (.bool false)))])
   .ret)
   .skip)))
   (.cut
   (.ops [
   .op (some 27) none (.load true 4 (.t 2)),
   .op (some 28) none (.mov (.t 5)),
   .op (some 29) none (.mov (.t 1)),
   .op (some 30) none (.mov (.t 6)),
   .op (some 31) none (.iaddr 1 (.t 29) (.t 30)),
   .op (some 32) none (.load false 1 (.t 31)),
   .op (some 33) none (.call .f (.c (.fn 18 [])) [.t 27, .t 28, .t 32]),
   .op (some 5) none (.mov (.t 33))]))))
   (.cut
   (.ops [
   .op (some 13) none (.mov (.t 6)),
   .op (some 14) none (.bin .add false [] (.t 13) (.c (.int .i64 (1)))),
   .op (some 6) none (.mov (.t 14))])))))))))
   (.cut
   (.seq
   (.ops [
   .op (some 34) none (.mov (.t 5)),
   .op (some 35) none (.faddr 2 (.t 2)),
   .op (some 36) none (.load false 1 (.t 35)),
   .op (some 37) none (.call .f (.c (.fn 13 [])) [.t 34, .t 36]),
   .op (some 4) none (.mov (.t 37))])
   .ret)))))))
def r_R1_MultiSolves : List RVar := [.tmp 4]
def n_R1_MultiSolves : Nat := 38
theorem k_R1_MultiSolves : chkFn Go.Proofs.Try.prog 22 n_R1_MultiSolves r_R1_MultiSolves c_R1_MultiSolves = true := by kernel_rfl
theorem f_R1_MultiSolves (m : MTask) (ho : MOk m) (plan : List Int) (hb : mPlanFault m plan = okF) : Fc Go.Proofs.Try.prog 22 [mtV m, .sl .p (plan.map i64V)] (.bool (mSolves m plan)) := by
  obtain ⟨hv, h60, hr⟩ := mPlan_ok hb
  have hil := stB_len hv.init
  have hl8 := hv.len
  refine Fn.step mixed k_R1_MultiSolves ?_
  repeat' (first | refine i_len rfl ?_ | refine i_s rfl ?_ | refine i_lenm rfl rfl rfl ?_ | refine c_seq ?_ | refine c_cut0 ?_ | refine c_ops ?_ | refine i_nil ?_ | refine e_seq ?_ | refine e_block ?_ | refine c_block ?_ | refine c_skip ?_ | refine c_ret ?_ | refine c_exit ?_ | refine e_exit rfl ?_ | refine i_s0 rfl ?_ | refine c_leaf ?_ | refine i_gt rfl ?_ | refine i_gf rfl ?_ | refine i_gd rfl ?_ | refine c_t rfl ?_ | refine c_f rfl ?_ | refine i_conv rfl (by simp only [InR, List.length_map]; omega) ?_ | refine i_add rfl rfl (by simp only [InR, List.length_map]; omega) ?_ | refine i_sub rfl rfl (by simp only [InR, List.length_map]; omega) ?_ | refine i_ixm rfl rfl (by assumption) ?_ | refine i_iai rfl rfl (by omega) (by assumption) rfl ?_ | refine i_iam rfl rfl (by assumption) rfl ?_ | refine i_tk rfl rfl (by omega) ?_ | refine i_stb rfl ?_ | refine i_alloc rfl ?_ | refine i_box rfl rfl ?_ | refine i_nv rfl ?_ | refine c_node ?_ ?_ | refine i_g rfl (fun h => ?_) (fun h => ?_) | refine c_cond rfl (fun h => ?_) (fun h => ?_))
  refine c_lp (ι := Nat × List Int) (fun i => [(1, .sl .p (plan.map i64V)), (2, .bptr 1408132 0), (5, .sl .p (i.2.map i64V)), (6, .int .i64 i.1)]) (fun _ => [(1408132, .box (mtV m))])
    (fun i => i.1 ≤ plan.length ∧ mRun m m.init (plan.take i.1) = some i.2) (fun i => plan.length - i.1) (0, m.init) ⟨Nat.zero_le _, rfl⟩ ⟨by repeat (first | exact trivial | refine ⟨rfl, ?_⟩), by repeat (first | exact trivial | refine ⟨rfl, ?_⟩), rfl⟩ fun i hi => ?_
  obtain ⟨k, s⟩ := i
  obtain ⟨hk, hi⟩ := hi
  simp only at hk hi
  have hsl := mRun_len _ _ _ _ hi
  repeat (first | refine i_len rfl ?_ | refine i_s rfl ?_ | refine i_lenm rfl rfl rfl ?_ | refine c_seq ?_ | refine c_cut0 ?_ | refine c_ops ?_ | refine i_nil ?_ | refine e_seq ?_ | refine e_block ?_ | refine c_block ?_ | refine c_skip ?_ | refine c_ret ?_ | refine c_exit ?_ | refine e_exit rfl ?_ | refine i_s0 rfl ?_ | refine c_leaf ?_ | refine i_gt rfl ?_ | refine i_gf rfl ?_ | refine i_gd rfl ?_ | refine c_t rfl ?_ | refine c_f rfl ?_ | refine i_conv rfl (by simp only [InR, List.length_map]; omega) ?_ | refine i_add rfl rfl (by simp only [InR, List.length_map]; omega) ?_ | refine i_sub rfl rfl (by simp only [InR, List.length_map]; omega) ?_ | refine i_ixm rfl rfl (by assumption) ?_ | refine i_iai rfl rfl (by omega) (by assumption) rfl ?_ | refine i_iam rfl rfl (by assumption) rfl ?_ | refine i_tk rfl rfl (by omega) ?_ | refine i_stb rfl ?_ | refine i_alloc rfl ?_ | refine i_box rfl rfl ?_ | refine i_nv rfl ?_)
  refine c_cond rfl (fun h => ?_) (fun h => ?_)
  · have hlt : k < plan.length := by simpa using h
    obtain ⟨x, hx⟩ := get_some hlt
    obtain ⟨x0, x1⟩ := hr x (mem_get hx)
    obtain ⟨o, hc⟩ := get_some (l := m.ops) (k := x.toNat) (by omega)
    have hop := hv.op o (mem_get hc)
    have hH := f_R1_MultiHolds s o.pre (ho.2.2.2.2 o (mem_get hc)).1 (by rw [hsl, hil]; exact asB_in hop.1)
    have hN := f_R1_MultiAfter m s (by omega) x x0 o hc (ho.2.2.2.2 o (mem_get hc)).2 (by rw [hsl, hil]; exact asB_in hop.2.1)
    clear h
    repeat' (first | refine i_len rfl ?_ | refine i_s rfl ?_ | refine i_lenm rfl rfl rfl ?_ | refine c_seq ?_ | refine c_cut0 ?_ | refine c_ops ?_ | refine i_nil ?_ | refine e_seq ?_ | refine e_block ?_ | refine c_block ?_ | refine c_skip ?_ | refine c_ret ?_ | refine c_exit ?_ | refine e_exit rfl ?_ | refine i_s0 rfl ?_ | refine c_leaf ?_ | refine i_gt rfl ?_ | refine i_gf rfl ?_ | refine i_gd rfl ?_ | refine c_t rfl ?_ | refine c_f rfl ?_ | refine i_conv rfl (by simp only [InR, List.length_map]; omega) ?_ | refine i_add rfl rfl (by simp only [InR, List.length_map]; omega) ?_ | refine i_sub rfl rfl (by simp only [InR, List.length_map]; omega) ?_ | refine i_ixm rfl rfl (by assumption) ?_ | refine i_iai rfl rfl (by omega) (by assumption) rfl ?_ | refine i_iam rfl rfl (by assumption) rfl ?_ | refine i_tk rfl rfl (by omega) ?_ | refine i_stb rfl ?_ | refine i_alloc rfl ?_ | refine i_box rfl rfl ?_ | refine i_nv rfl ?_ | refine c_node ?_ ?_ | refine i_g rfl (fun h => ?_) (fun h => ?_) | refine c_cond rfl (fun h => ?_) (fun h => ?_) | refine i_f rfl rfl (hH) rfl ?_ | refine i_f rfl rfl (hN) rfl ?_)
    · exact e_ret ⟨rfl, _, rfl, by rw [mRun_stop hi hx hc (by simpa using h)]; rfl⟩
    · exact e_lp (k + 1, setAll s o.post) ⟨hlt, mRun_step hi hx hc (by simpa using h)⟩ (by simp only; omega) ⟨by repeat (first | exact trivial | refine ⟨rfl, ?_⟩), by repeat (first | exact trivial | refine ⟨rfl, ?_⟩), rfl⟩
  · have hge : ¬ k < plan.length := by simpa using h
    rw [List.take_of_length_le (by omega)] at hi
    have hH := f_R1_MultiHolds s m.goal ho.2.2.1 (by rw [hsl, hil]; exact asB_in hv.goal)
    repeat' (first | refine i_len rfl ?_ | refine i_s rfl ?_ | refine i_lenm rfl rfl rfl ?_ | refine c_seq ?_ | refine c_cut0 ?_ | refine c_ops ?_ | refine i_nil ?_ | refine e_seq ?_ | refine e_block ?_ | refine c_block ?_ | refine c_skip ?_ | refine c_ret ?_ | refine c_exit ?_ | refine e_exit rfl ?_ | refine i_s0 rfl ?_ | refine c_leaf ?_ | refine i_gt rfl ?_ | refine i_gf rfl ?_ | refine i_gd rfl ?_ | refine c_t rfl ?_ | refine c_f rfl ?_ | refine i_conv rfl (by simp only [InR, List.length_map]; omega) ?_ | refine i_add rfl rfl (by simp only [InR, List.length_map]; omega) ?_ | refine i_sub rfl rfl (by simp only [InR, List.length_map]; omega) ?_ | refine i_ixm rfl rfl (by assumption) ?_ | refine i_iai rfl rfl (by omega) (by assumption) rfl ?_ | refine i_iam rfl rfl (by assumption) rfl ?_ | refine i_tk rfl rfl (by omega) ?_ | refine i_stb rfl ?_ | refine i_alloc rfl ?_ | refine i_box rfl rfl ?_ | refine i_nv rfl ?_ | refine c_node ?_ ?_ | refine i_g rfl (fun h => ?_) (fun h => ?_) | refine c_cond rfl (fun h => ?_) (fun h => ?_) | refine i_f rfl rfl (hH) rfl ?_)
    exact e_ret ⟨rfl, _, rfl, by rw [mSolves, hi]; rfl⟩
def c_multi_Cost : Cmd :=
  (.seq
   (.ops [
   .op (some 2) none (.box 1344132 4 (.t 0)),
   .op (some 4) none (.mov (.c (.int .i64 (0)))),
   .op (some 5) none (.alloc 1344322 (.agg [.int .i64 (0), .int .i64 (0)]))])
   (.cut
   (.seq
   (.seq
   (.ops [
   .op (some 10) none (.load true 4 (.t 2)),
   .op (some 11) none (.mov (.t 1)),
   .op (some 12) none (.call .f (.c (.fn 42 [])) [.t 10, .t 11]),
   .op (some 6) none (.alloc 1344386 (.agg [.int .i64 (0), .int .i64 (0)])),
   .op none none (.store 2 (.t 6) (.t 12))])
   (.cut
   (.seq
   (.ops [
   .op (some 13) none (.load true 2 (.t 6)),
   .op (some 14) none (.build [.int .i64 (0), .int .i64 (0)] []),
   .op (some 15) none (.bin .neq true [.i, .i] (.t 13) (.t 14))])
   (.cut
   (.cond (.t 15)
   (.seq
   (.ops [
   .op (some 16) none (.load true 2 (.t 6)),
   .op (some 4) none (.mov (.c (.int .i64 (0)))),
   .op none none (.store 2 (.t 5) (.t 16))])
   .ret)
   .skip)))))
   (.cut
   (.seq
   (.ops [
   .op (some 7) none (.mov (.c (.int .i64 (0))))])
   (.cut
   (.seq
   (.seq
   (.ops [
   .op (some 17) none (.mov (.t 1)),
   .op (some 18) none (.len false (.t 17)),
   .op (some 19) none (.mov (.c (.int .i64 (0))))])
   (.cut
   (.block 0
   (.loop
   (.seq
   (.ops [
   .op (some 20) none (.bin .lss false [] (.t 19) (.t 18))])
   (.cut
   (.seq
   (.cond (.t 20)
   .skip
   (.exit 0))
   (.cut
   (.seq
   (.block 1
   (.seq
   (.ops [
   .op (some 21) none (.iaddr 1 (.t 17) (.t 19)),
   .op (some 22) none (.load false 1 (.t 21)),
   .op (some 9) none (.mov (.t 22))])
   (.cut
   (.ops [
   .op (some 23) none (.mov (.t 7)),
   .op (some 24) none (.faddr 3 (.t 2)),
   .op (some 25) none (.load false 1 (.t 24)),
   .op (some 26) none (.mov (.t 9)),
   .op (some 27) none (.iaddr 3 (.t 25) (.t 26)),
   .op (some 28) none (.faddr 2 (.t 27)),
   .op (some 29) none (.load false 1 (.t 28)),
   .op (some 30) none (.bin .add false [] (.t 23) (.t 29)),
   .op (some 7) none (.mov (.t 30))]))))
   (.cut
   (.ops [
   .op (some 31) none (.bin .add false [] (.t 19) (.c (.int .i64 (1)))),
   .op (some 19) none (.mov (.t 31))])))))))))))
   (.cut
   (.seq
   (.ops [
   .op (some 32) none (.mov (.t 7)),
   .op (some 33) none (.build [.int .i64 (0), .int .i64 (0)] []),
   .op (some 4) none (.mov (.t 32)),
   .op none none (.store 2 (.t 5) (.t 33))])
   .ret)))))))))
def r_multi_Cost : List RVar := [.tmp 4, .cell true 2 5]
def n_multi_Cost : Nat := 34
theorem k_multi_Cost : chkFn Go.Proofs.Try.prog 21 n_multi_Cost r_multi_Cost c_multi_Cost = true := by kernel_rfl
theorem f_multi_Cost_bad (m : MTask) (ho : MOk m) (plan : List Int) (hl : plan.length ≤ 140737488355328) (hb : mPlanFault m plan ≠ okF) : Fc Go.Proofs.Try.prog 21 [mtV m, .sl .p (plan.map i64V)] (.tup [.int .i64 0, ftV (mPlanFault m plan)]) := by
  refine Fn.step mixed k_multi_Cost ?_
  repeat' (first | refine i_len rfl ?_ | refine i_s rfl ?_ | refine i_lenm rfl rfl rfl ?_ | refine c_seq ?_ | refine c_cut0 ?_ | refine c_ops ?_ | refine i_nil ?_ | refine e_seq ?_ | refine e_block ?_ | refine c_block ?_ | refine c_skip ?_ | refine c_ret ?_ | refine c_exit ?_ | refine e_exit rfl ?_ | refine i_s0 rfl ?_ | refine c_leaf ?_ | refine i_gt rfl ?_ | refine i_gf rfl ?_ | refine i_gd rfl ?_ | refine c_t rfl ?_ | refine c_f rfl ?_ | refine i_conv rfl (by simp only [InR, List.length_map]; omega) ?_ | refine i_add rfl rfl (by simp only [InR, List.length_map]; omega) ?_ | refine i_sub rfl rfl (by simp only [InR, List.length_map]; omega) ?_ | refine i_ixm rfl rfl (by assumption) ?_ | refine i_iai rfl rfl (by omega) (by assumption) rfl ?_ | refine i_iam rfl rfl (by assumption) rfl ?_ | refine i_tk rfl rfl (by omega) ?_ | refine i_stb rfl ?_ | refine i_alloc rfl ?_ | refine i_box rfl rfl ?_ | refine i_nv rfl ?_ | refine c_node ?_ ?_ | refine i_g rfl (fun h => ?_) (fun h => ?_) | refine c_cond rfl (fun h => ?_) (fun h => ?_) | refine i_f rfl rfl (f_multi_planFault m ho plan hl) rfl ?_)
  · exact e_ret ⟨rfl, _, rfl, rfl⟩
  · exact absurd (eq_ok h) hb
theorem costL_range {m : MTask} (hv : MV m) : ∀ l : List Int, 0 ≤ costL m l ∧ costL m l ≤ 100 * l.length
  | [] => by simp [costL]
  | op :: r => by
    have ih := costL_range hv r
    have : 0 ≤ costAt m op ∧ costAt m op ≤ 100 := by
      unfold costAt
      split
      · rename_i o ho; exact (hv.op o (mem_get ho)).2.2
      · omega
    simp only [costL, List.length_cons]
    omega
theorem f_multi_Cost_ok (m : MTask) (ho : MOk m) (plan : List Int) (hb : mPlanFault m plan = okF) : Fc Go.Proofs.Try.prog 21 [mtV m, .sl .p (plan.map i64V)] (.tup [.int .i64 (costL m plan), ftV okF]) := by
  obtain ⟨hv, h60, hr⟩ := mPlan_ok hb
  have hF := f_multi_planFault m ho plan (by omega)
  rw [hb] at hF
  refine Fn.step mixed k_multi_Cost ?_
  repeat' (first | refine i_len rfl ?_ | refine i_s rfl ?_ | refine i_lenm rfl rfl rfl ?_ | refine c_seq ?_ | refine c_cut0 ?_ | refine c_ops ?_ | refine i_nil ?_ | refine e_seq ?_ | refine e_block ?_ | refine c_block ?_ | refine c_skip ?_ | refine c_ret ?_ | refine c_exit ?_ | refine e_exit rfl ?_ | refine i_s0 rfl ?_ | refine c_leaf ?_ | refine i_gt rfl ?_ | refine i_gf rfl ?_ | refine i_gd rfl ?_ | refine c_t rfl ?_ | refine c_f rfl ?_ | refine i_conv rfl (by simp only [InR, List.length_map]; omega) ?_ | refine i_add rfl rfl (by simp only [InR, List.length_map]; omega) ?_ | refine i_sub rfl rfl (by simp only [InR, List.length_map]; omega) ?_ | refine i_ixm rfl rfl (by assumption) ?_ | refine i_iai rfl rfl (by omega) (by assumption) rfl ?_ | refine i_iam rfl rfl (by assumption) rfl ?_ | refine i_tk rfl rfl (by omega) ?_ | refine i_stb rfl ?_ | refine i_alloc rfl ?_ | refine i_box rfl rfl ?_ | refine i_nv rfl ?_ | refine c_node ?_ ?_ | refine i_g rfl (fun h => ?_) (fun h => ?_) | refine c_cond rfl (fun h => ?_) (fun h => ?_) | refine i_f rfl rfl (hF) rfl ?_)
  refine c_for plan.length (fun k => [(2, .bptr 1344132 0), (5, .bptr 1344322 0), (7, .int .i64 (costL m (plan.take k))), (17, .sl .p (plan.map i64V)), (18, .int .i64 plan.length), (19, .int .i64 k)]) (fun _ => [(1344132, .box (mtV m)), (1344322, .box (ftV okF))]) (fun _ => True) trivial ⟨by repeat (first | exact trivial | refine ⟨rfl, ?_⟩), by repeat (first | exact trivial | refine ⟨rfl, ?_⟩), rfl⟩ fun k hk _ => ?_
  repeat (first | refine i_len rfl ?_ | refine i_s rfl ?_ | refine i_lenm rfl rfl rfl ?_ | refine c_seq ?_ | refine c_cut0 ?_ | refine c_ops ?_ | refine i_nil ?_ | refine e_seq ?_ | refine e_block ?_ | refine c_block ?_ | refine c_skip ?_ | refine c_ret ?_ | refine c_exit ?_ | refine e_exit rfl ?_ | refine i_s0 rfl ?_ | refine c_leaf ?_ | refine i_gt rfl ?_ | refine i_gf rfl ?_ | refine i_gd rfl ?_ | refine c_t rfl ?_ | refine c_f rfl ?_ | refine i_conv rfl (by simp only [InR, List.length_map]; omega) ?_ | refine i_add rfl rfl (by simp only [InR, List.length_map]; omega) ?_ | refine i_sub rfl rfl (by simp only [InR, List.length_map]; omega) ?_ | refine i_ixm rfl rfl (by assumption) ?_ | refine i_iai rfl rfl (by omega) (by assumption) rfl ?_ | refine i_iam rfl rfl (by assumption) rfl ?_ | refine i_tk rfl rfl (by omega) ?_ | refine i_stb rfl ?_ | refine i_alloc rfl ?_ | refine i_box rfl rfl ?_ | refine i_nv rfl ?_)
  refine c_cond rfl (fun h => ?_) (fun h => ?_)
  · have hlt : k < plan.length := by simpa using h
    obtain ⟨x, hx⟩ := get_some hlt
    obtain ⟨x0, x1⟩ := hr x (mem_get hx)
    obtain ⟨o, hc⟩ := get_some (l := m.ops) (k := x.toNat) (by omega)
    have hop := hv.op o (mem_get hc)
    have hcr := costL_range hv (plan.take k)
    have htl : (plan.take k).length ≤ 60 := by simp; omega
    clear h
    repeat' (first | refine i_len rfl ?_ | refine i_s rfl ?_ | refine i_lenm rfl rfl rfl ?_ | refine c_seq ?_ | refine c_cut0 ?_ | refine c_ops ?_ | refine i_nil ?_ | refine e_seq ?_ | refine e_block ?_ | refine c_block ?_ | refine c_skip ?_ | refine c_ret ?_ | refine c_exit ?_ | refine e_exit rfl ?_ | refine i_s0 rfl ?_ | refine c_leaf ?_ | refine i_gt rfl ?_ | refine i_gf rfl ?_ | refine i_gd rfl ?_ | refine c_t rfl ?_ | refine c_f rfl ?_ | refine i_conv rfl (by simp only [InR, List.length_map]; omega) ?_ | refine i_add rfl rfl (by simp only [InR, List.length_map]; omega) ?_ | refine i_sub rfl rfl (by simp only [InR, List.length_map]; omega) ?_ | refine i_ixm rfl rfl (by assumption) ?_ | refine i_iai rfl rfl (by omega) (by assumption) rfl ?_ | refine i_iam rfl rfl (by assumption) rfl ?_ | refine i_tk rfl rfl (by omega) ?_ | refine i_stb rfl ?_ | refine i_alloc rfl ?_ | refine i_box rfl rfl ?_ | refine i_nv rfl ?_ | refine c_node ?_ ?_ | refine i_g rfl (fun h => ?_) (fun h => ?_) | refine c_cond rfl (fun h => ?_) (fun h => ?_))
    refine e_for hlt trivial ⟨⟨rfl, rfl, ?_, rfl, rfl, rfl, trivial⟩, ⟨rfl, rfl, trivial⟩, rfl⟩
    rw [take_succ_get hx, costL_snoc, show costAt m x = o.cost from by simp [costAt, hc]]; rfl
  · have hge : ¬ k < plan.length := by simpa using h
    rw [List.take_of_length_le (by omega)]
    repeat' (first | refine i_len rfl ?_ | refine i_s rfl ?_ | refine i_lenm rfl rfl rfl ?_ | refine c_seq ?_ | refine c_cut0 ?_ | refine c_ops ?_ | refine i_nil ?_ | refine e_seq ?_ | refine e_block ?_ | refine c_block ?_ | refine c_skip ?_ | refine c_ret ?_ | refine c_exit ?_ | refine e_exit rfl ?_ | refine i_s0 rfl ?_ | refine c_leaf ?_ | refine i_gt rfl ?_ | refine i_gf rfl ?_ | refine i_gd rfl ?_ | refine c_t rfl ?_ | refine c_f rfl ?_ | refine i_conv rfl (by simp only [InR, List.length_map]; omega) ?_ | refine i_add rfl rfl (by simp only [InR, List.length_map]; omega) ?_ | refine i_sub rfl rfl (by simp only [InR, List.length_map]; omega) ?_ | refine i_ixm rfl rfl (by assumption) ?_ | refine i_iai rfl rfl (by omega) (by assumption) rfl ?_ | refine i_iam rfl rfl (by assumption) rfl ?_ | refine i_tk rfl rfl (by omega) ?_ | refine i_stb rfl ?_ | refine i_alloc rfl ?_ | refine i_box rfl rfl ?_ | refine i_nv rfl ?_ | refine c_node ?_ ?_ | refine i_g rfl (fun h => ?_) (fun h => ?_) | refine c_cond rfl (fun h => ?_) (fun h => ?_))
    exact e_ret ⟨rfl, _, rfl, rfl⟩
end Hm
end

section
/- Multi-valued tasks: their translation, in plain terms. No program in sight. -/
namespace Hm
set_option linter.unusedVariables false
set_option linter.unusedSimpArgs false
open Go
def sumL : List Int → Int
  | [] => 0
  | z :: r => z + sumL r
theorem sumL_snoc : ∀ (l : List Int) (z : Int), sumL (l ++ [z]) = sumL l + z
  | [], z => by simp [sumL]
  | a :: l, z => by simp only [List.cons_append, sumL, sumL_snoc l z]; omega
def baseFrom : Int → List Int → List Int
  | _, [] => []
  | n, z :: r => n :: baseFrom (n + z) r
theorem baseFrom_snoc : ∀ (l : List Int) (n z : Int), baseFrom n (l ++ [z]) = baseFrom n l ++ [n + sumL l]
  | [], n, z => by simp [baseFrom, sumL]
  | a :: l, n, z => by simp only [List.cons_append, baseFrom, baseFrom_snoc l, sumL]; rw [show n + a + sumL l = n + (a + sumL l) from by omega]
theorem baseFrom_len : ∀ (l : List Int) (n : Int), (baseFrom n l).length = l.length
  | [], _ => rfl
  | a :: l, n => by simp only [baseFrom, List.length_cons, baseFrom_len l]
theorem sumL_range : ∀ (l : List Int), (∀ z ∈ l, 1 ≤ z ∧ z ≤ 6) → 0 ≤ sumL l ∧ sumL l ≤ 6 * l.length
  | [], _ => by simp [sumL]
  | a :: l, h => by
    have h1 := h a (by simp)
    have h2 := sumL_range l fun z hz => h z (by simp [hz])
    simp only [sumL, List.length_cons]
    omega
theorem baseFrom_range : ∀ (l : List Int) (n : Int), (∀ z ∈ l, 1 ≤ z ∧ z ≤ 6) → ∀ x ∈ baseFrom n l, n ≤ x ∧ x ≤ n + sumL l
  | [], _, _, x, hx => by simp [baseFrom] at hx
  | a :: l, n, h, x, hx => by
    have h1 := h a (by simp)
    have h2 := sumL_range l fun z hz => h z (by simp [hz])
    simp only [baseFrom] at hx
    simp only [sumL]
    rcases List.mem_cons.1 hx with e | hx
    · omega
    · have := baseFrom_range l (n + a) (fun z hz => h z (by simp [hz])) x hx
      omega
def bAt (b : List Int) (v : Int) : Int := (b[v.toNat]?).getD 0
def factAt (b : List Int) (a : Asg) : Int := bAt b a.var + a.value
def delK (b : List Int) (a : Asg) (k : Nat) : List Int := ((List.range k).filter fun (x : Nat) => decide ((x : Int) ≠ a.value)).map fun (x : Nat) => bAt b a.var + (x : Int)
theorem delK_succ (b : List Int) (a : Asg) (k : Nat) : delK b a (k + 1) = delK b a k ++ (if (k : Int) ≠ a.value then [bAt b a.var + k] else []) := by
  unfold delK
  rw [List.range_succ, List.filter_append, List.map_append]
  congr 1
  simp only [List.filter]
  by_cases h : (k : Int) = a.value
  · simp [h]
  · simp [h]
theorem delK_len (b : List Int) (a : Asg) (k : Nat) : (delK b a k).length ≤ k := by
  unfold delK
  rw [List.length_map]
  exact Nat.le_trans (List.length_filter_le _ _) (by simp)
def delA (b sizes : List Int) (a : Asg) : List Int := delK b a ((sizes[a.var.toNat]?).getD 0).toNat
def dels (b sizes : List Int) (l : List Asg) : List Int := l.flatMap (delA b sizes)
def initK (b init : List Int) (k : Nat) : List Int := (List.range k).map fun (v : Nat) => bAt b (v : Int) + (init[v]?).getD 0
def opT (b sizes : List Int) (o : MOp) : SOp := ⟨o.pre.map (factAt b), o.post.map (factAt b), dels b sizes o.post, o.cost⟩
def mStrips (m : MTask) : STask := ⟨sumL m.sizes, initK (baseFrom 0 m.sizes) m.init m.init.length, m.goal.map (factAt (baseFrom 0 m.sizes)), m.ops.map (opT (baseFrom 0 m.sizes) m.sizes)⟩
theorem asB_idx {sizes : List Int} {l : List Asg} (h : asB sizes l = true) : ∀ (i : Nat) (a : Asg), l[i]? = some a → (i : Int) ≤ a.var ∧ ∃ z, sizes[a.var.toNat]? = some z ∧ 0 ≤ a.value ∧ a.value < z := by
  intro i
  induction i with
  | zero =>
    intro a ha
    have h1 := asB_in h a (mem_get ha)
    have := allN_get h (get_lt ha)
    unfold asAt at this
    rw [ha] at this
    simp only at this
    split at this
    · cases this
    · rename_i z hz
      simp only [Bool.and_eq_true, decide_eq_true_eq] at this
      unfold szAt at hz
      split at hz
      · cases hz
      · exact ⟨h1.1, z, hz, this.1⟩
  | succ i ih =>
    intro a ha
    obtain ⟨b, hb⟩ := get_some (l := l) (k := i) (by have := get_lt ha; omega)
    have h2 := ih b hb
    have := allN_get h (get_lt ha)
    unfold asAt at this
    rw [ha] at this
    simp only at this
    split at this
    · cases this
    · rename_i z hz
      simp only [Bool.and_eq_true, decide_eq_true_eq, Bool.or_eq_true] at this
      unfold szAt at hz
      split at hz
      · cases hz
      · refine ⟨?_, z, hz, this.1⟩
        rcases this.2 with e | e
        · omega
        · simp [asPrev, hb] at e
          omega
theorem asB_len {sizes : List Int} {l : List Asg} (h : asB sizes l = true) : l.length ≤ sizes.length := by
  by_cases h0 : l.length = 0
  · omega
  · obtain ⟨a, ha⟩ := get_some (l := l) (k := l.length - 1) (by omega)
    obtain ⟨h1, z, hz, _⟩ := asB_idx h _ a ha
    have := (asB_in h a (mem_get ha)).2
    omega
theorem dels_len {b sizes : List Int} (hz : ∀ z ∈ sizes, 1 ≤ z ∧ z ≤ 6) : ∀ l : List Asg, (dels b sizes l).length ≤ 6 * l.length
  | [] => by simp [dels]
  | a :: l => by
    have ih := dels_len (b := b) hz l
    have : (delA b sizes a).length ≤ 6 := by
      unfold delA
      have := delK_len b a ((sizes[a.var.toNat]?).getD 0).toNat
      cases hs : sizes[a.var.toNat]? with
      | none => rw [hs] at this; simp at this; simp [this]
      | some z => rw [hs] at this; have := hz z (mem_get hs); simp at *; omega
    unfold dels at ih ⊢
    simp only [List.flatMap_cons, List.length_append, List.length_cons]
    omega
end Hm
end

section
/- Contracts: the translation of multi-valued tasks. -/
namespace Hm
open Go
set_option maxRecDepth 100000
set_option maxHeartbeats 1000000
set_option linter.unusedSimpArgs false
set_option linter.unusedVariables false
def c_multi_Base : Cmd :=
  (.seq
   (.ops [
   .op (some 2) none (.mov (.c (.sl .nil []))),
   .op (some 3) none (.mov (.c (.int .i64 (0))))])
   (.cut
   (.seq
   (.ops [
   .op (some 4) none (.newVec 2752257)])
   (.cut
   (.seq
   (.ops [
   .op (some 5) none (.mov (.c (.int .i64 (0))))])
   (.cut
   (.seq
   (.seq
   (.ops [
   .op (some 8) none (.mov (.t 0)),
   .op (some 9) none (.len false (.t 8)),
   .op (some 10) none (.mov (.c (.int .i64 (0))))])
   (.cut
   (.block 0
   (.loop
   (.seq
   (.ops [
   .op (some 11) none (.bin .lss false [] (.t 10) (.t 9))])
   (.cut
   (.seq
   (.cond (.t 11)
   .skip
   (.exit 0))
   (.cut
   (.seq
   (.block 1
   (.seq
   (.ops [
   .op (some 12) none (.iaddr 1 (.t 8) (.t 10)),
   .op (some 13) none (.load false 1 (.t 12)),
   .op (some 7) none (.mov (.t 13))])
   (.cut
   (.seq
   (.ops [
   .op (some 14) none (.mov (.t 4)),
   .op (some 15) none (.mov (.t 5)),
   .op (some 16) none (.bsl 1 [.t 15]),
   .op (some 17) none (.append 1 8 (.t 14) (.t 16)),
   .op (some 4) none (.mov (.t 17))])
   (.cut
   (.ops [
   .op (some 18) none (.mov (.t 5)),
   .op (some 19) none (.mov (.t 7)),
   .op (some 20) none (.bin .add false [] (.t 18) (.t 19)),
   .op (some 5) none (.mov (.t 20))]))))))
   (.cut
   (.ops [
   .op (some 21) none (.bin .add false [] (.t 10) (.c (.int .i64 (1)))),
   .op (some 10) none (.mov (.t 21))])))))))))))
   (.cut
   (.seq
   (.ops [
   .op (some 22) none (.mov (.t 4)),
   .op (some 23) none (.mov (.t 5)),
   .op (some 2) none (.mov (.t 22)),
   .op (some 3) none (.mov (.t 23))])
   .ret)))))))))
def r_multi_Base : List RVar := [.tmp 2, .tmp 3]
def n_multi_Base : Nat := 24
theorem k_multi_Base : chkFn Go.Proofs.Try.prog 43 n_multi_Base r_multi_Base c_multi_Base = true := by kernel_rfl
theorem f_multi_Base (l : List Int) (h8 : l.length ≤ 8) (hz : ∀ z ∈ l, 1 ≤ z ∧ z ≤ 6) : Fc Go.Proofs.Try.prog 43 [.sl .p (l.map i64V)] (.tup [.sl .p ((baseFrom 0 l).map i64V), .int .i64 (sumL l)]) := by
  refine Fn.step mixed k_multi_Base ?_
  repeat' (first | refine i_len rfl ?_ | refine i_s rfl ?_ | refine i_lenm rfl rfl rfl ?_ | refine c_seq ?_ | refine c_cut0 ?_ | refine c_ops ?_ | refine i_nil ?_ | refine e_seq ?_ | refine e_block ?_ | refine c_block ?_ | refine c_skip ?_ | refine c_ret ?_ | refine c_exit ?_ | refine e_exit rfl ?_ | refine i_s0 rfl ?_ | refine c_leaf ?_ | refine i_gt rfl ?_ | refine i_gf rfl ?_ | refine i_gd rfl ?_ | refine c_t rfl ?_ | refine c_f rfl ?_ | refine i_conv rfl (by simp only [InR, List.length_map]; omega) ?_ | refine i_add rfl rfl (by simp only [InR, List.length_map]; omega) ?_ | refine i_sub rfl rfl (by simp only [InR, List.length_map]; omega) ?_ | refine i_ixm rfl rfl (by assumption) ?_ | refine i_iai rfl rfl (by omega) (by assumption) rfl ?_ | refine i_iam rfl rfl (by assumption) rfl ?_ | refine i_tk rfl rfl (by omega) ?_ | refine i_stb rfl ?_ | refine i_alloc rfl ?_ | refine i_box rfl rfl ?_ | refine i_nv rfl ?_ | refine c_node ?_ ?_ | refine i_g rfl (fun h => ?_) (fun h => ?_) | refine c_cond rfl (fun h => ?_) (fun h => ?_))
  refine c_for l.length (fun k => [(4, .sl (.own 2752257) ((baseFrom 0 (l.take k)).map i64V)), (5, .int .i64 (sumL (l.take k))), (8, .sl .p (l.map i64V)), (9, .int .i64 l.length), (10, .int .i64 k)]) (fun k => [(2752257, .vec (baseFrom 0 (l.take k)).length)]) (fun _ => True) trivial ⟨by repeat (first | exact trivial | refine ⟨rfl, ?_⟩), by repeat (first | exact trivial | refine ⟨rfl, ?_⟩), rfl⟩ fun k hk _ => ?_
  repeat (first | refine i_len rfl ?_ | refine i_s rfl ?_ | refine i_lenm rfl rfl rfl ?_ | refine c_seq ?_ | refine c_cut0 ?_ | refine c_ops ?_ | refine i_nil ?_ | refine e_seq ?_ | refine e_block ?_ | refine c_block ?_ | refine c_skip ?_ | refine c_ret ?_ | refine c_exit ?_ | refine e_exit rfl ?_ | refine i_s0 rfl ?_ | refine c_leaf ?_ | refine i_gt rfl ?_ | refine i_gf rfl ?_ | refine i_gd rfl ?_ | refine c_t rfl ?_ | refine c_f rfl ?_ | refine i_conv rfl (by simp only [InR, List.length_map]; omega) ?_ | refine i_add rfl rfl (by simp only [InR, List.length_map]; omega) ?_ | refine i_sub rfl rfl (by simp only [InR, List.length_map]; omega) ?_ | refine i_ixm rfl rfl (by assumption) ?_ | refine i_iai rfl rfl (by omega) (by assumption) rfl ?_ | refine i_iam rfl rfl (by assumption) rfl ?_ | refine i_tk rfl rfl (by omega) ?_ | refine i_stb rfl ?_ | refine i_alloc rfl ?_ | refine i_box rfl rfl ?_ | refine i_nv rfl ?_)
  refine c_cond rfl (fun h => ?_) (fun h => ?_)
  · have hlt : k < l.length := by simpa using h
    obtain ⟨z, hx⟩ := get_some hlt
    have hzb := hz z (mem_get hx)
    have hr := sumL_range (l.take k) fun z h => hz z (List.mem_of_mem_take h)
    have htl : (l.take k).length ≤ 8 := by simp; omega
    have hbl := baseFrom_len (l.take k) 0
    clear h
    repeat (first | refine i_len rfl ?_ | refine i_s rfl ?_ | refine i_lenm rfl rfl rfl ?_ | refine c_seq ?_ | refine c_cut0 ?_ | refine c_ops ?_ | refine i_nil ?_ | refine e_seq ?_ | refine e_block ?_ | refine c_block ?_ | refine c_skip ?_ | refine c_ret ?_ | refine c_exit ?_ | refine e_exit rfl ?_ | refine i_s0 rfl ?_ | refine c_leaf ?_ | refine i_gt rfl ?_ | refine i_gf rfl ?_ | refine i_gd rfl ?_ | refine c_t rfl ?_ | refine c_f rfl ?_ | refine i_conv rfl (by simp only [InR, List.length_map]; omega) ?_ | refine i_add rfl rfl (by simp only [InR, List.length_map]; omega) ?_ | refine i_sub rfl rfl (by simp only [InR, List.length_map]; omega) ?_ | refine i_ixm rfl rfl (by assumption) ?_ | refine i_iai rfl rfl (by omega) (by assumption) rfl ?_ | refine i_iam rfl rfl (by assumption) rfl ?_ | refine i_tk rfl rfl (by omega) ?_ | refine i_stb rfl ?_ | refine i_alloc rfl ?_ | refine i_box rfl rfl ?_ | refine i_nv rfl ?_)
    refine i_appM rfl rfl rfl rfl rfl (by omega) (by omega) ?_
    repeat (first | refine i_len rfl ?_ | refine i_s rfl ?_ | refine i_lenm rfl rfl rfl ?_ | refine c_seq ?_ | refine c_cut0 ?_ | refine c_ops ?_ | refine i_nil ?_ | refine e_seq ?_ | refine e_block ?_ | refine c_block ?_ | refine c_skip ?_ | refine c_ret ?_ | refine c_exit ?_ | refine e_exit rfl ?_ | refine i_s0 rfl ?_ | refine c_leaf ?_ | refine i_gt rfl ?_ | refine i_gf rfl ?_ | refine i_gd rfl ?_ | refine c_t rfl ?_ | refine c_f rfl ?_ | refine i_conv rfl (by simp only [InR, List.length_map]; omega) ?_ | refine i_add rfl rfl (by simp only [InR, List.length_map]; omega) ?_ | refine i_sub rfl rfl (by simp only [InR, List.length_map]; omega) ?_ | refine i_ixm rfl rfl (by assumption) ?_ | refine i_iai rfl rfl (by omega) (by assumption) rfl ?_ | refine i_iam rfl rfl (by assumption) rfl ?_ | refine i_tk rfl rfl (by omega) ?_ | refine i_stb rfl ?_ | refine i_alloc rfl ?_ | refine i_box rfl rfl ?_ | refine i_nv rfl ?_)
    refine e_for hlt trivial ⟨⟨?_, ?_, rfl, rfl, rfl, trivial⟩, ⟨?_, trivial⟩, rfl⟩
    · rw [take_succ_get hx, baseFrom_snoc, Int.zero_add]; rfl
    · rw [take_succ_get hx, sumL_snoc]; rfl
    · rw [take_succ_get hx, baseFrom_snoc]; simp; rfl
  · have hge : ¬ k < l.length := by simpa using h
    rw [List.take_of_length_le (by omega)]
    repeat' (first | refine i_len rfl ?_ | refine i_s rfl ?_ | refine i_lenm rfl rfl rfl ?_ | refine c_seq ?_ | refine c_cut0 ?_ | refine c_ops ?_ | refine i_nil ?_ | refine e_seq ?_ | refine e_block ?_ | refine c_block ?_ | refine c_skip ?_ | refine c_ret ?_ | refine c_exit ?_ | refine e_exit rfl ?_ | refine i_s0 rfl ?_ | refine c_leaf ?_ | refine i_gt rfl ?_ | refine i_gf rfl ?_ | refine i_gd rfl ?_ | refine c_t rfl ?_ | refine c_f rfl ?_ | refine i_conv rfl (by simp only [InR, List.length_map]; omega) ?_ | refine i_add rfl rfl (by simp only [InR, List.length_map]; omega) ?_ | refine i_sub rfl rfl (by simp only [InR, List.length_map]; omega) ?_ | refine i_ixm rfl rfl (by assumption) ?_ | refine i_iai rfl rfl (by omega) (by assumption) rfl ?_ | refine i_iam rfl rfl (by assumption) rfl ?_ | refine i_tk rfl rfl (by omega) ?_ | refine i_stb rfl ?_ | refine i_alloc rfl ?_ | refine i_box rfl rfl ?_ | refine i_nv rfl ?_ | refine c_node ?_ ?_ | refine i_g rfl (fun h => ?_) (fun h => ?_) | refine c_cond rfl (fun h => ?_) (fun h => ?_))
    exact e_ret ⟨rfl, _, rfl, rfl⟩
def c_multi_facts : Cmd :=
  (.seq
   (.ops [
   .op (some 4) none (.mov (.c (.sl .nil [])))])
   (.cut
   (.seq
   (.ops [
   .op (some 5) none (.newVec 2816321)])
   (.cut
   (.seq
   (.seq
   (.ops [
   .op (some 8) none (.mov (.t 1)),
   .op (some 9) none (.len false (.t 8)),
   .op (some 10) none (.mov (.c (.int .i64 (0))))])
   (.cut
   (.block 0
   (.loop
   (.seq
   (.ops [
   .op (some 11) none (.bin .lss false [] (.t 10) (.t 9))])
   (.cut
   (.seq
   (.cond (.t 11)
   .skip
   (.exit 0))
   (.cut
   (.seq
   (.block 1
   (.seq
   (.ops [
   .op (some 12) none (.iaddr 2 (.t 8) (.t 10)),
   .op (some 13) none (.load true 2 (.t 12)),
   .op (some 7) none (.alloc 2816450 (.agg [.int .i64 (0), .int .i64 (0)])),
   .op none none (.store 2 (.t 7) (.t 13))])
   (.cut
   (.ops [
   .op (some 14) none (.mov (.t 5)),
   .op (some 15) none (.mov (.t 0)),
   .op (some 16) none (.faddr 0 (.t 7)),
   .op (some 17) none (.load false 1 (.t 16)),
   .op (some 18) none (.iaddr 1 (.t 15) (.t 17)),
   .op (some 19) none (.load false 1 (.t 18)),
   .op (some 20) none (.faddr 1 (.t 7)),
   .op (some 21) none (.load false 1 (.t 20)),
   .op (some 22) none (.bin .add false [] (.t 19) (.t 21)),
   .op (some 23) none (.bsl 1 [.t 22]),
   .op (some 24) none (.append 1 8 (.t 14) (.t 23)),
   .op (some 5) none (.mov (.t 24))]))))
   (.cut
   (.ops [
   .op (some 25) none (.bin .add false [] (.t 10) (.c (.int .i64 (1)))),
   .op (some 10) none (.mov (.t 25))])))))))))))
   (.cut
   (.seq
   (.ops [
   .op (some 26) none (.mov (.t 5)),
   .op (some 4) none (.mov (.t 26))])
   .ret)))))))
def r_multi_facts : List RVar := [.tmp 4]
def n_multi_facts : Nat := 27
theorem k_multi_facts : chkFn Go.Proofs.Try.prog 44 n_multi_facts r_multi_facts c_multi_facts = true := by kernel_rfl
theorem f_multi_facts (b : List Int) (l : List Asg) (hl : l.length ≤ 8) (hv : asIn b.length l) (hb : ∀ x ∈ b, 0 ≤ x ∧ x ≤ 100) (hx : ∀ a ∈ l, 0 ≤ a.value ∧ a.value ≤ 6) : Fc Go.Proofs.Try.prog 44 [.sl .p (b.map i64V), .sl .p (l.map asV)] (.sl .p ((l.map (factAt b)).map i64V)) := by
  refine Fn.step mixed k_multi_facts ?_
  repeat' (first | refine i_len rfl ?_ | refine i_s rfl ?_ | refine i_lenm rfl rfl rfl ?_ | refine c_seq ?_ | refine c_cut0 ?_ | refine c_ops ?_ | refine i_nil ?_ | refine e_seq ?_ | refine e_block ?_ | refine c_block ?_ | refine c_skip ?_ | refine c_ret ?_ | refine c_exit ?_ | refine e_exit rfl ?_ | refine i_s0 rfl ?_ | refine c_leaf ?_ | refine i_gt rfl ?_ | refine i_gf rfl ?_ | refine i_gd rfl ?_ | refine c_t rfl ?_ | refine c_f rfl ?_ | refine i_conv rfl (by simp only [InR, List.length_map]; omega) ?_ | refine i_add rfl rfl (by simp only [InR, List.length_map]; omega) ?_ | refine i_sub rfl rfl (by simp only [InR, List.length_map]; omega) ?_ | refine i_ixm rfl rfl (by assumption) ?_ | refine i_iai rfl rfl (by omega) (by assumption) rfl ?_ | refine i_iam rfl rfl (by assumption) rfl ?_ | refine i_tk rfl rfl (by omega) ?_ | refine i_stb rfl ?_ | refine i_alloc rfl ?_ | refine i_box rfl rfl ?_ | refine i_nv rfl ?_ | refine c_node ?_ ?_ | refine i_g rfl (fun h => ?_) (fun h => ?_) | refine c_cond rfl (fun h => ?_) (fun h => ?_))
  refine c_for l.length (fun k => [(0, .sl .p (b.map i64V)), (5, .sl (.own 2816321) (((l.take k).map (factAt b)).map i64V)), (8, .sl .p (l.map asV)), (9, .int .i64 l.length), (10, .int .i64 k)]) (fun k => [(2816321, .vec ((l.take k).map (factAt b)).length)]) (fun _ => True) trivial ⟨by repeat (first | exact trivial | refine ⟨rfl, ?_⟩), by repeat (first | exact trivial | refine ⟨rfl, ?_⟩), rfl⟩ fun k hk _ => ?_
  repeat (first | refine i_len rfl ?_ | refine i_s rfl ?_ | refine i_lenm rfl rfl rfl ?_ | refine c_seq ?_ | refine c_cut0 ?_ | refine c_ops ?_ | refine i_nil ?_ | refine e_seq ?_ | refine e_block ?_ | refine c_block ?_ | refine c_skip ?_ | refine c_ret ?_ | refine c_exit ?_ | refine e_exit rfl ?_ | refine i_s0 rfl ?_ | refine c_leaf ?_ | refine i_gt rfl ?_ | refine i_gf rfl ?_ | refine i_gd rfl ?_ | refine c_t rfl ?_ | refine c_f rfl ?_ | refine i_conv rfl (by simp only [InR, List.length_map]; omega) ?_ | refine i_add rfl rfl (by simp only [InR, List.length_map]; omega) ?_ | refine i_sub rfl rfl (by simp only [InR, List.length_map]; omega) ?_ | refine i_ixm rfl rfl (by assumption) ?_ | refine i_iai rfl rfl (by omega) (by assumption) rfl ?_ | refine i_iam rfl rfl (by assumption) rfl ?_ | refine i_tk rfl rfl (by omega) ?_ | refine i_stb rfl ?_ | refine i_alloc rfl ?_ | refine i_box rfl rfl ?_ | refine i_nv rfl ?_)
  refine c_cond rfl (fun h => ?_) (fun h => ?_)
  · have hlt : k < l.length := by simpa using h
    obtain ⟨a, ha⟩ := get_some hlt
    obtain ⟨v0, v1⟩ := hv a (mem_get ha)
    obtain ⟨x0, x1⟩ := hx a (mem_get ha)
    obtain ⟨y, hy⟩ := get_some (l := b) (k := a.var.toNat) (by omega)
    obtain ⟨y0, y1⟩ := hb y (mem_get hy)
    have hfa : factAt b a = y + a.value := by simp [factAt, bAt, hy]
    have htl : ((l.take k).map (factAt b)).length ≤ 8 := by simp; omega
    have e : (l.take (k + 1)).map (factAt b) = (l.take k).map (factAt b) ++ [y + a.value] := by rw [take_succ_get ha, List.map_append, ← hfa]; rfl
    clear h
    repeat (first | refine i_len rfl ?_ | refine i_s rfl ?_ | refine i_lenm rfl rfl rfl ?_ | refine c_seq ?_ | refine c_cut0 ?_ | refine c_ops ?_ | refine i_nil ?_ | refine e_seq ?_ | refine e_block ?_ | refine c_block ?_ | refine c_skip ?_ | refine c_ret ?_ | refine c_exit ?_ | refine e_exit rfl ?_ | refine i_s0 rfl ?_ | refine c_leaf ?_ | refine i_gt rfl ?_ | refine i_gf rfl ?_ | refine i_gd rfl ?_ | refine c_t rfl ?_ | refine c_f rfl ?_ | refine i_conv rfl (by simp only [InR, List.length_map]; omega) ?_ | refine i_add rfl rfl (by simp only [InR, List.length_map]; omega) ?_ | refine i_sub rfl rfl (by simp only [InR, List.length_map]; omega) ?_ | refine i_ixm rfl rfl (by assumption) ?_ | refine i_iai rfl rfl (by omega) (by assumption) rfl ?_ | refine i_iam rfl rfl (by assumption) rfl ?_ | refine i_tk rfl rfl (by omega) ?_ | refine i_stb rfl ?_ | refine i_alloc rfl ?_ | refine i_box rfl rfl ?_ | refine i_nv rfl ?_)
    refine i_appM rfl rfl rfl rfl rfl (by omega) (by omega) ?_
    repeat (first | refine i_len rfl ?_ | refine i_s rfl ?_ | refine i_lenm rfl rfl rfl ?_ | refine c_seq ?_ | refine c_cut0 ?_ | refine c_ops ?_ | refine i_nil ?_ | refine e_seq ?_ | refine e_block ?_ | refine c_block ?_ | refine c_skip ?_ | refine c_ret ?_ | refine c_exit ?_ | refine e_exit rfl ?_ | refine i_s0 rfl ?_ | refine c_leaf ?_ | refine i_gt rfl ?_ | refine i_gf rfl ?_ | refine i_gd rfl ?_ | refine c_t rfl ?_ | refine c_f rfl ?_ | refine i_conv rfl (by simp only [InR, List.length_map]; omega) ?_ | refine i_add rfl rfl (by simp only [InR, List.length_map]; omega) ?_ | refine i_sub rfl rfl (by simp only [InR, List.length_map]; omega) ?_ | refine i_ixm rfl rfl (by assumption) ?_ | refine i_iai rfl rfl (by omega) (by assumption) rfl ?_ | refine i_iam rfl rfl (by assumption) rfl ?_ | refine i_tk rfl rfl (by omega) ?_ | refine i_stb rfl ?_ | refine i_alloc rfl ?_ | refine i_box rfl rfl ?_ | refine i_nv rfl ?_)
    refine e_for hlt trivial ⟨⟨rfl, ?_, rfl, rfl, rfl, trivial⟩, ⟨?_, trivial⟩, rfl⟩
    · rw [e]; rfl
    · rw [e]; simp; rfl
  · have hge : ¬ k < l.length := by simpa using h
    rw [List.take_of_length_le (by omega)]
    repeat' (first | refine i_len rfl ?_ | refine i_s rfl ?_ | refine i_lenm rfl rfl rfl ?_ | refine c_seq ?_ | refine c_cut0 ?_ | refine c_ops ?_ | refine i_nil ?_ | refine e_seq ?_ | refine e_block ?_ | refine c_block ?_ | refine c_skip ?_ | refine c_ret ?_ | refine c_exit ?_ | refine e_exit rfl ?_ | refine i_s0 rfl ?_ | refine c_leaf ?_ | refine i_gt rfl ?_ | refine i_gf rfl ?_ | refine i_gd rfl ?_ | refine c_t rfl ?_ | refine c_f rfl ?_ | refine i_conv rfl (by simp only [InR, List.length_map]; omega) ?_ | refine i_add rfl rfl (by simp only [InR, List.length_map]; omega) ?_ | refine i_sub rfl rfl (by simp only [InR, List.length_map]; omega) ?_ | refine i_ixm rfl rfl (by assumption) ?_ | refine i_iai rfl rfl (by omega) (by assumption) rfl ?_ | refine i_iam rfl rfl (by assumption) rfl ?_ | refine i_tk rfl rfl (by omega) ?_ | refine i_stb rfl ?_ | refine i_alloc rfl ?_ | refine i_box rfl rfl ?_ | refine i_nv rfl ?_ | refine c_node ?_ ?_ | refine i_g rfl (fun h => ?_) (fun h => ?_) | refine c_cond rfl (fun h => ?_) (fun h => ?_))
    exact e_ret ⟨rfl, _, rfl, rfl⟩
def c_multi_Strips : Cmd :=
  (.seq
   (.ops [
   .op (some 1) none (.box 1472068 4 (.t 0)),
   .op (some 2) none (.alloc 1472132 (.agg [.int .i64 (0), .sl .nil [], .sl .nil [], .sl .nil []])),
   .op (some 3) none (.alloc 1472194 (.agg [.int .i64 (0), .int .i64 (0)]))])
   (.cut
   (.seq
   (.seq
   (.ops [
   .op (some 16) none (.load true 4 (.t 1)),
   .op (some 17) none (.call .f (.c (.fn 10 [])) [.t 16]),
   .op (some 4) none (.alloc 1472258 (.agg [.int .i64 (0), .int .i64 (0)])),
   .op none none (.store 2 (.t 4) (.t 17))])
   (.cut
   (.seq
   (.ops [
   .op (some 18) none (.load true 2 (.t 4)),
   .op (some 19) none (.build [.int .i64 (0), .int .i64 (0)] []),
   .op (some 20) none (.bin .neq true [.i, .i] (.t 18) (.t 19))])
   (.cut
   (.cond (.t 20)
   (.seq
   (.opsT (.node 1 2 (.leaf [0, 1, 2, 3]) (.leaf [0, 2, 1, 3])) [
   .op (some 21) none (.build [.int .i64 (0), .sl .nil [], .sl .nil [], .sl .nil []] []),
   .op (some 22) none (.load true 2 (.t 4)),
   .op none none (.store 4 (.t 2) (.t 21)),
   .op none none (.store 2 (.t 3) (.t 22))])
   .ret)
   .skip)))))
   (.cut
   (.seq
   (.ops [
   .op (some 24) none (.faddr 0 (.t 1)),
   .op (some 25) none (.load false 1 (.t 24)),
   .op (some 26) none (.call .f (.c (.fn 43 [])) [.t 25]),
   .op (some 23) none (.mov (.t 26)),
   .op (some 27) none (.extract (.t 23) 0),
   .op (some 28) none (.extract (.t 23) 1),
   .op (some 5) none (.mov (.t 27)),
   .op (some 6) none (.mov (.t 28))])
   (.cut
   (.seq
   (.seq
   (.ops [
   .op (some 29) none (.mov (.t 6)),
   .op (some 30) none (.bin .gtr false [] (.t 29) (.c (.int .i64 (24))))])
   (.cut
   (.cond (.t 30)
   (.seq
   (.ops [
   .op (some 31) none (.build [.int .i64 (0), .sl .nil [], .sl .nil [], .sl .nil []] []),
   .op (some 32) none (.build [.int .i64 (0), .int .i64 (0)] [(0, 1, .c (.int .i64 (10))), (1, 1, .c (.int .i64 (-8)))]),
   .op none none (.store 4 (.t 2) (.t 31)),
   .op none none (.store 2 (.t 3) (.t 32))])
   .ret)
   .skip)))
   (.cut
   (.seq
   (.ops [
   .op (some 33) none (.mov (.t 6)),
   .op (some 34) none (.mov (.t 5)),
   .op (some 35) none (.faddr 2 (.t 1)),
   .op (some 36) none (.load false 1 (.t 35)),
   .op (some 37) none (.call .f (.c (.fn 44 [])) [.t 34, .t 36]),
   .op (some 38) none (.build [.int .i64 (0), .sl .nil [], .sl .nil [], .sl .nil []] [(0, 1, .t 33), (2, 1, .t 37)]),
   .op (some 7) none (.alloc 1472452 (.agg [.int .i64 (0), .sl .nil [], .sl .nil [], .sl .nil []])),
   .op none none (.store 4 (.t 7) (.t 38))])
   (.cut
   (.seq
   (.seq
   (.ops [
   .op (some 39) none (.faddr 1 (.t 1)),
   .op (some 40) none (.load false 1 (.t 39)),
   .op (some 41) none (.len false (.t 40)),
   .op (some 42) none (.mov (.c (.int .i64 (0))))])
   (.nvb 7 1 1476545 (.cut
   (.block 0
   (.loop
   (.seq
   (.ops [
   .op (some 43) none (.bin .lss false [] (.t 42) (.t 41))])
   (.cut
   (.seq
   (.cond (.t 43)
   .skip
   (.exit 0))
   (.cut
   (.seq
   (.block 1
   (.seq
   (.ops [
   .op (some 44) none (.mov (.t 42)),
   .op (some 45) none (.iaddr 1 (.t 40) (.t 42)),
   .op (some 46) none (.load false 1 (.t 45)),
   .op (some 8) none (.mov (.t 44)),
   .op (some 9) none (.mov (.t 46))])
   (.cut
   (.ops [
   .op (some 47) none (.faddr 1 (.t 7)),
   .op (some 48) none (.load false 1 (.t 47)),
   .op (some 49) none (.mov (.t 5)),
   .op (some 50) none (.mov (.t 8)),
   .op (some 51) none (.iaddr 1 (.t 49) (.t 50)),
   .op (some 52) none (.load false 1 (.t 51)),
   .op (some 53) none (.mov (.t 9)),
   .op (some 54) none (.bin .add false [] (.t 52) (.t 53)),
   .op (some 55) none (.bsl 1 [.t 54]),
   .op (some 56) none (.append 1 8 (.t 48) (.t 55)),
   .op (some 57) none (.faddr 1 (.t 7)),
   .op none none (.store 1 (.t 57) (.t 56))]))))
   (.cut
   (.ops [
   .op (some 58) none (.bin .add false [] (.t 42) (.c (.int .i64 (1)))),
   .op (some 42) none (.mov (.t 58))]))))))))))))
   (.cut
   (.seq
   (.seq
   (.ops [
   .op (some 59) none (.faddr 3 (.t 1)),
   .op (some 60) none (.load false 1 (.t 59)),
   .op (some 61) none (.len false (.t 60)),
   .op (some 62) none (.mov (.c (.int .i64 (0))))])
   (.nvb 7 3 1476676 (.cut
   (.block 2
   (.loop
   (.seq
   (.ops [
   .op (some 63) none (.bin .lss false [] (.t 62) (.t 61))])
   (.cut
   (.seq
   (.cond (.t 63)
   .skip
   (.exit 2))
   (.cut
   (.seq
   (.block 3
   (.seq
   (.ops [
   .op (some 64) none (.iaddr 3 (.t 60) (.t 62)),
   .op (some 65) none (.load true 3 (.t 64)),
   .op (some 11) none (.alloc 1472707 (.agg [.sl .nil [], .sl .nil [], .int .i64 (0)])),
   .op none none (.store 3 (.t 11) (.t 65))])
   (.cut
   (.seq
   (.opsT (.node 1 11 (.node 2 11 (.node 3 11 (.node 5 11 (.node 6 11 (.node 7 11 (.node 8 11 (.node 9 11 (.leaf [0, 1, 2, 3, 4, 5, 6, 7, 8, 9, 10, 11, 12]) (.leaf [0, 1, 2, 3, 4, 5, 6, 7, 8, 11, 9, 10, 12])) (.leaf [0, 1, 2, 3, 4, 5, 6, 7, 11, 8, 9, 10, 12])) (.node 8 11 (.node 9 11 (.leaf [0, 1, 2, 3, 4, 5, 6, 8, 9, 11, 7, 10, 12]) (.leaf [0, 1, 2, 3, 4, 5, 6, 8, 11, 7, 9, 10, 12])) (.leaf [0, 1, 2, 3, 4, 5, 6, 11, 7, 8, 9, 10, 12]))) (.node 8 11 (.node 9 11 (.leaf [0, 1, 2, 3, 4, 5, 8, 9, 11, 6, 7, 10, 12]) (.leaf [0, 1, 2, 3, 4, 5, 8, 11, 6, 7, 9, 10, 12])) (.leaf [0, 1, 2, 3, 4, 5, 11, 6, 7, 8, 9, 10, 12]))) (.node 8 11 (.node 9 11 (.leaf [0, 1, 2, 3, 4, 8, 9, 11, 5, 6, 7, 10, 12]) (.leaf [0, 1, 2, 3, 4, 8, 11, 5, 6, 7, 9, 10, 12])) (.leaf [0, 1, 2, 3, 4, 11, 5, 6, 7, 8, 9, 10, 12]))) (.node 5 11 (.node 6 11 (.node 8 11 (.node 9 11 (.leaf [0, 1, 2, 4, 5, 6, 8, 9, 11, 3, 7, 10, 12]) (.leaf [0, 1, 2, 4, 5, 6, 8, 11, 3, 7, 9, 10, 12])) (.leaf [0, 1, 2, 4, 5, 6, 11, 3, 7, 8, 9, 10, 12])) (.node 8 11 (.node 9 11 (.leaf [0, 1, 2, 4, 5, 8, 9, 11, 3, 6, 7, 10, 12]) (.leaf [0, 1, 2, 4, 5, 8, 11, 3, 6, 7, 9, 10, 12])) (.leaf [0, 1, 2, 4, 5, 11, 3, 6, 7, 8, 9, 10, 12]))) (.node 8 11 (.node 9 11 (.leaf [0, 1, 2, 4, 8, 9, 11, 3, 5, 6, 7, 10, 12]) (.leaf [0, 1, 2, 4, 8, 11, 3, 5, 6, 7, 9, 10, 12])) (.leaf [0, 1, 2, 4, 11, 3, 5, 6, 7, 8, 9, 10, 12])))) (.node 5 11 (.node 6 11 (.node 8 11 (.node 9 11 (.leaf [0, 1, 4, 5, 6, 8, 9, 11, 2, 3, 7, 10, 12]) (.leaf [0, 1, 4, 5, 6, 8, 11, 2, 3, 7, 9, 10, 12])) (.leaf [0, 1, 4, 5, 6, 11, 2, 3, 7, 8, 9, 10, 12])) (.node 8 11 (.node 9 11 (.leaf [0, 1, 4, 5, 8, 9, 11, 2, 3, 6, 7, 10, 12]) (.leaf [0, 1, 4, 5, 8, 11, 2, 3, 6, 7, 9, 10, 12])) (.leaf [0, 1, 4, 5, 11, 2, 3, 6, 7, 8, 9, 10, 12]))) (.node 8 11 (.node 9 11 (.leaf [0, 1, 4, 8, 9, 11, 2, 3, 5, 6, 7, 10, 12]) (.leaf [0, 1, 4, 8, 11, 2, 3, 5, 6, 7, 9, 10, 12])) (.leaf [0, 1, 4, 11, 2, 3, 5, 6, 7, 8, 9, 10, 12])))) (.node 5 11 (.node 6 11 (.node 8 11 (.node 9 11 (.leaf [0, 4, 5, 6, 8, 9, 11, 1, 2, 3, 7, 10, 12]) (.leaf [0, 4, 5, 6, 8, 11, 1, 2, 3, 7, 9, 10, 12])) (.leaf [0, 4, 5, 6, 11, 1, 2, 3, 7, 8, 9, 10, 12])) (.node 8 11 (.node 9 11 (.leaf [0, 4, 5, 8, 9, 11, 1, 2, 3, 6, 7, 10, 12]) (.leaf [0, 4, 5, 8, 11, 1, 2, 3, 6, 7, 9, 10, 12])) (.leaf [0, 4, 5, 11, 1, 2, 3, 6, 7, 8, 9, 10, 12]))) (.node 8 11 (.node 9 11 (.leaf [0, 4, 8, 9, 11, 1, 2, 3, 5, 6, 7, 10, 12]) (.leaf [0, 4, 8, 11, 1, 2, 3, 5, 6, 7, 9, 10, 12])) (.leaf [0, 4, 11, 1, 2, 3, 5, 6, 7, 8, 9, 10, 12])))) [
   .op (some 66) none (.mov (.t 5)),
   .op (some 67) none (.faddr 0 (.t 11)),
   .op (some 68) none (.load false 1 (.t 67)),
   .op (some 69) none (.call .f (.c (.fn 44 [])) [.t 66, .t 68]),
   .op (some 70) none (.mov (.t 5)),
   .op (some 71) none (.faddr 1 (.t 11)),
   .op (some 72) none (.load false 1 (.t 71)),
   .op (some 73) none (.call .f (.c (.fn 44 [])) [.t 70, .t 72]),
   .op (some 74) none (.faddr 2 (.t 11)),
   .op (some 75) none (.load false 1 (.t 74)),
   .op (some 76) none (.build [.sl .nil [], .sl .nil [], .sl .nil [], .int .i64 (0)] [(0, 1, .t 69), (1, 1, .t 73), (3, 1, .t 75)]),
   .op (some 12) none (.alloc 1472772 (.agg [.sl .nil [], .sl .nil [], .sl .nil [], .int .i64 (0)])),
   .op none none (.store 4 (.t 12) (.t 76))])
   (.cut
   (.seq
   (.seq
   (.ops [
   .op (some 77) none (.faddr 1 (.t 11)),
   .op (some 78) none (.load false 1 (.t 77)),
   .op (some 79) none (.len false (.t 78)),
   .op (some 80) none (.mov (.c (.int .i64 (0))))])
   (.nvb 12 2 1479809 (.cut
   (.block 4
   (.loop
   (.seq
   (.ops [
   .op (some 81) none (.bin .lss false [] (.t 80) (.t 79))])
   (.cut
   (.seq
   (.cond (.t 81)
   .skip
   (.exit 4))
   (.cut
   (.seq
   (.block 5
   (.seq
   (.ops [
   .op (some 82) none (.iaddr 2 (.t 78) (.t 80)),
   .op (some 83) none (.load true 2 (.t 82)),
   .op (some 14) none (.alloc 1472898 (.agg [.int .i64 (0), .int .i64 (0)])),
   .op none none (.store 2 (.t 14) (.t 83))])
   (.cut
   (.seq
   (.ops [
   .op (some 84) none (.faddr 0 (.t 1)),
   .op (some 85) none (.load false 1 (.t 84)),
   .op (some 86) none (.faddr 0 (.t 14)),
   .op (some 87) none (.load false 1 (.t 86)),
   .op (some 88) none (.iaddr 1 (.t 85) (.t 87)),
   .op (some 89) none (.load false 1 (.t 88)),
   .op (some 90) none (.mov (.c (.int .i64 (0))))])
   (.cut
   (.block 6
   (.loop
   (.seq
   (.ops [
   .op (some 91) none (.bin .lss false [] (.t 90) (.t 89))])
   (.cut
   (.seq
   (.cond (.t 91)
   .skip
   (.exit 6))
   (.cut
   (.seq
   (.block 7
   (.seq
   (.ops [
   .op (some 92) none (.mov (.t 90)),
   .op (some 15) none (.mov (.t 92))])
   (.cut
   (.seq
   (.ops [
   .op (some 93) none (.mov (.t 15)),
   .op (some 94) none (.faddr 1 (.t 14)),
   .op (some 95) none (.load false 1 (.t 94)),
   .op (some 96) none (.bin .neq false [.i] (.t 93) (.t 95))])
   (.cut
   (.cond (.t 96)
   (.ops [
   .op (some 97) none (.faddr 2 (.t 12)),
   .op (some 98) none (.load false 1 (.t 97)),
   .op (some 99) none (.mov (.t 5)),
   .op (some 100) none (.faddr 0 (.t 14)),
   .op (some 101) none (.load false 1 (.t 100)),
   .op (some 102) none (.iaddr 1 (.t 99) (.t 101)),
   .op (some 103) none (.load false 1 (.t 102)),
   .op (some 104) none (.mov (.t 15)),
   .op (some 105) none (.bin .add false [] (.t 103) (.t 104)),
   .op (some 106) none (.bsl 1 [.t 105]),
   .op (some 107) none (.append 1 8 (.t 98) (.t 106)),
   .op (some 108) none (.faddr 2 (.t 12)),
   .op none none (.store 1 (.t 108) (.t 107))])
   .skip))))))
   (.cut
   (.ops [
   .op (some 109) none (.bin .add false [] (.t 90) (.c (.int .i64 (1)))),
   .op (some 90) none (.mov (.t 109))]))))))))))))))
   (.cut
   (.ops [
   .op (some 110) none (.bin .add false [] (.t 80) (.c (.int .i64 (1)))),
   .op (some 80) none (.mov (.t 110))]))))))))))))
   (.fzb 12 2 (.cut
   (.ops [
   .op (some 111) none (.faddr 3 (.t 7)),
   .op (some 112) none (.load false 1 (.t 111)),
   .op (some 113) none (.load true 4 (.t 12)),
   .op (some 114) none (.bsl 4 [.t 113]),
   .op (some 115) none (.append 4 80 (.t 112) (.t 114)),
   .op (some 116) none (.faddr 3 (.t 7)),
   .op none none (.store 1 (.t 116) (.t 115))])))))))))
   (.cut
   (.ops [
   .op (some 117) none (.bin .add false [] (.t 62) (.c (.int .i64 (1)))),
   .op (some 62) none (.mov (.t 117))]))))))))))))
   (.cut
   (.seq
   (.ops [
   .op (some 118) none (.load true 4 (.t 7)),
   .op (some 119) none (.build [.int .i64 (0), .int .i64 (0)] []),
   .op none none (.store 4 (.t 2) (.t 118)),
   .op none none (.store 2 (.t 3) (.t 119))])
   .ret)))))))))))))))
def r_multi_Strips : List RVar := [.cell true 4 2, .cell true 2 3]
def n_multi_Strips : Nat := 120
theorem k_multi_Strips : chkFn Go.Proofs.Try.prog 23 n_multi_Strips r_multi_Strips c_multi_Strips = true := by kernel_rfl
theorem f_multi_Strips_bad (m : MTask) (ho : MOk m) (hb : mFault m ≠ okF) : Fc Go.Proofs.Try.prog 23 [mtV m] (.tup [skV skZ, ftV (mFault m)]) := by
  refine Fn.step mixed k_multi_Strips ?_
  repeat' (first | refine i_len rfl ?_ | refine i_s rfl ?_ | refine i_lenm rfl rfl rfl ?_ | refine c_seq ?_ | refine c_cut0 ?_ | refine c_ops ?_ | refine i_nil ?_ | refine e_seq ?_ | refine e_block ?_ | refine c_block ?_ | refine c_skip ?_ | refine c_ret ?_ | refine c_exit ?_ | refine e_exit rfl ?_ | refine i_s0 rfl ?_ | refine c_leaf ?_ | refine i_gt rfl ?_ | refine i_gf rfl ?_ | refine i_gd rfl ?_ | refine c_t rfl ?_ | refine c_f rfl ?_ | refine i_conv rfl (by simp only [InR, List.length_map]; omega) ?_ | refine i_add rfl rfl (by simp only [InR, List.length_map]; omega) ?_ | refine i_sub rfl rfl (by simp only [InR, List.length_map]; omega) ?_ | refine i_ixm rfl rfl (by assumption) ?_ | refine i_iai rfl rfl (by omega) (by assumption) rfl ?_ | refine i_iam rfl rfl (by assumption) rfl ?_ | refine i_tk rfl rfl (by omega) ?_ | refine i_stb rfl ?_ | refine i_alloc rfl ?_ | refine i_box rfl rfl ?_ | refine i_nv rfl ?_ | refine c_node ?_ ?_ | refine i_g rfl (fun h => ?_) (fun h => ?_) | refine c_cond rfl (fun h => ?_) (fun h => ?_) | refine i_f rfl rfl (f_multi_Validate m ho) rfl ?_)
  · exact e_ret ⟨rfl, _, rfl, rfl⟩
  · exact e_ret ⟨rfl, _, rfl, rfl⟩
  all_goals exact absurd (eq_ok (by assumption)) hb
theorem f_multi_Strips_big (m : MTask) (ho : MOk m) (hb : mFault m = okF) (hbig : sumL m.sizes > 24) : Fc Go.Proofs.Try.prog 23 [mtV m] (.tup [skV skZ, ftV ⟨10, -8⟩]) := by
  have hV := f_multi_Validate m ho
  rw [hb] at hV
  have hv := mFault_ok hb
  have hB := f_multi_Base m.sizes hv.len hv.rng
  refine Fn.step mixed k_multi_Strips ?_
  repeat (first | refine i_len rfl ?_ | refine i_s rfl ?_ | refine i_lenm rfl rfl rfl ?_ | refine c_seq ?_ | refine c_cut0 ?_ | refine c_ops ?_ | refine i_nil ?_ | refine e_seq ?_ | refine e_block ?_ | refine c_block ?_ | refine c_skip ?_ | refine c_ret ?_ | refine c_exit ?_ | refine e_exit rfl ?_ | refine i_s0 rfl ?_ | refine c_leaf ?_ | refine i_gt rfl ?_ | refine i_gf rfl ?_ | refine i_gd rfl ?_ | refine c_t rfl ?_ | refine c_f rfl ?_ | refine i_conv rfl (by simp only [InR, List.length_map]; omega) ?_ | refine i_add rfl rfl (by simp only [InR, List.length_map]; omega) ?_ | refine i_sub rfl rfl (by simp only [InR, List.length_map]; omega) ?_ | refine i_ixm rfl rfl (by assumption) ?_ | refine i_iai rfl rfl (by omega) (by assumption) rfl ?_ | refine i_iam rfl rfl (by assumption) rfl ?_ | refine i_tk rfl rfl (by omega) ?_ | refine i_stb rfl ?_ | refine i_alloc rfl ?_ | refine i_box rfl rfl ?_ | refine i_nv rfl ?_ | refine i_f rfl rfl (hV) rfl ?_ | refine i_f rfl rfl (hB) rfl ?_)
  refine c_cond rfl (fun h => ?_) (fun h => ?_)
  · repeat (first | refine i_len rfl ?_ | refine i_s rfl ?_ | refine i_lenm rfl rfl rfl ?_ | refine c_seq ?_ | refine c_cut0 ?_ | refine c_ops ?_ | refine i_nil ?_ | refine e_seq ?_ | refine e_block ?_ | refine c_block ?_ | refine c_skip ?_ | refine c_ret ?_ | refine c_exit ?_ | refine e_exit rfl ?_ | refine i_s0 rfl ?_ | refine c_leaf ?_ | refine i_gt rfl ?_ | refine i_gf rfl ?_ | refine i_gd rfl ?_ | refine c_t rfl ?_ | refine c_f rfl ?_ | refine i_conv rfl (by simp only [InR, List.length_map]; omega) ?_ | refine i_add rfl rfl (by simp only [InR, List.length_map]; omega) ?_ | refine i_sub rfl rfl (by simp only [InR, List.length_map]; omega) ?_ | refine i_ixm rfl rfl (by assumption) ?_ | refine i_iai rfl rfl (by omega) (by assumption) rfl ?_ | refine i_iam rfl rfl (by assumption) rfl ?_ | refine i_tk rfl rfl (by omega) ?_ | refine i_stb rfl ?_ | refine i_alloc rfl ?_ | refine i_box rfl rfl ?_ | refine i_nv rfl ?_)
    exact e_ret ⟨rfl, _, rfl, rfl⟩
  · exact absurd (of_decide_eq_false h) (by omega)
end Hm
end

section
/- Contracts: the translation of multi-valued tasks, where it succeeds. -/
namespace Hm
open Go
set_option maxRecDepth 100000
set_option maxHeartbeats 4000000
set_option linter.unusedSimpArgs false
set_option linter.unusedVariables false
theorem initK_succ (b init : List Int) (k : Nat) {y x : Int} (hy : b[k]? = some y) (hx : init[k]? = some x) : initK b init (k + 1) = initK b init k ++ [y + x] := by
  unfold initK
  rw [List.range_succ, List.map_append]
  simp [bAt, hy, hx]
theorem initK_len (b init : List Int) (k : Nat) : (initK b init k).length = k := by simp [initK]
theorem st_range {m : MTask} (hv : MV m) {k : Nat} {x : Int} (hx : m.init[k]? = some x) : 0 ≤ x ∧ x ≤ 6 := by
  have h := hv.init
  unfold stB at h
  simp only [Bool.and_eq_true] at h
  have := allN_get h.2 (get_lt hx)
  unfold stAt at this
  rw [hx] at this
  split at this
  · rename_i x' z h1 h2
    cases h1
    have := hv.rng z (mem_get h2)
    simp at *
    omega
  · cases this
theorem as_range {m : MTask} (hv : MV m) {l : List Asg} (h : asB m.sizes l = true) : ∀ a ∈ l, 0 ≤ a.value ∧ a.value ≤ 6 := by
  intro a ha
  obtain ⟨i, hi, e⟩ := List.getElem_of_mem ha
  obtain ⟨_, z, hz, h0, h1⟩ := asB_idx h i a (by rw [← e]; exact List.getElem?_eq_getElem hi)
  have := hv.rng z (mem_get hz)
  omega
theorem dels_succ (b sizes : List Int) (l : List Asg) {k : Nat} {a : Asg} {z : Int} (ha : l[k]? = some a) (hz : sizes[a.var.toNat]? = some z) : dels b sizes (l.take (k + 1)) = dels b sizes (l.take k) ++ delK b a z.toNat := by
  rw [take_succ_get ha]
  simp [dels, delA, hz]
theorem f_multi_Strips_ok (m : MTask) (ho : MOk m) (hb : mFault m = okF) (hsm : sumL m.sizes ≤ 24) : Fc Go.Proofs.Try.prog 23 [mtV m] (.tup [skV (mStrips m), ftV okF]) := by
  have hV := f_multi_Validate m ho
  rw [hb] at hV
  have hv := mFault_ok hb
  have hB := f_multi_Base m.sizes hv.len hv.rng
  have h8 := hv.len
  have hbl := baseFrom_len m.sizes 0
  have hbr := baseFrom_range m.sizes 0 hv.rng
  have hil : m.init.length = m.sizes.length := stB_len hv.init
  have hol := hv.opl
  have hfa : ∀ l, asB m.sizes l = true → Fc Go.Proofs.Try.prog 44 [.sl .p ((baseFrom 0 m.sizes).map i64V), .sl .p (l.map asV)] (.sl .p ((l.map (factAt (baseFrom 0 m.sizes))).map i64V)) := fun l h =>
    f_multi_facts (baseFrom 0 m.sizes) l (by have := asB_len h; omega) (hbl ▸ asB_in h) (fun x hx => by have := hbr x hx; omega) (as_range hv h)
  have hG := hfa m.goal hv.goal
  have e1 : mStrips m = ⟨sumL m.sizes, initK (baseFrom 0 m.sizes) m.init m.init.length, m.goal.map (factAt (baseFrom 0 m.sizes)), m.ops.map (opT (baseFrom 0 m.sizes) m.sizes)⟩ := rfl
  rw [e1]
  generalize hs : sumL m.sizes = sz at *
  generalize hbb : baseFrom 0 m.sizes = b at *
  clear e1
  refine Fn.step mixed k_multi_Strips ?_
  repeat (first | refine i_len rfl ?_ | refine i_s rfl ?_ | refine i_lenm rfl rfl rfl ?_ | refine c_seq ?_ | refine c_cut0 ?_ | refine c_ops ?_ | refine i_nil ?_ | refine e_seq ?_ | refine e_block ?_ | refine c_block ?_ | refine c_skip ?_ | refine c_ret ?_ | refine c_exit ?_ | refine e_exit rfl ?_ | refine i_s0 rfl ?_ | refine c_leaf ?_ | refine i_gt rfl ?_ | refine i_gf rfl ?_ | refine i_gd rfl ?_ | refine c_t rfl ?_ | refine c_f rfl ?_ | refine i_conv rfl (by simp only [InR, List.length_map]; omega) ?_ | refine i_add rfl rfl (by simp only [InR, List.length_map]; omega) ?_ | refine i_sub rfl rfl (by simp only [InR, List.length_map]; omega) ?_ | refine i_ixm rfl rfl (by assumption) ?_ | refine i_iai rfl rfl (by omega) (by assumption) rfl ?_ | refine i_iam rfl rfl (by assumption) rfl ?_ | refine i_tk rfl rfl (by omega) ?_ | refine i_stb rfl ?_ | refine i_alloc rfl ?_ | refine i_box rfl rfl ?_ | refine i_nv rfl ?_ | refine i_f rfl rfl (hV) rfl ?_ | refine i_f rfl rfl (hB) rfl ?_)
  refine c_cond rfl (fun h => ?_) (fun h => ?_)
  · exact absurd (of_decide_eq_true h) (by omega)
  clear h
  repeat (first | refine i_len rfl ?_ | refine i_s rfl ?_ | refine i_lenm rfl rfl rfl ?_ | refine c_seq ?_ | refine c_cut0 ?_ | refine c_ops ?_ | refine i_nil ?_ | refine e_seq ?_ | refine e_block ?_ | refine c_block ?_ | refine c_skip ?_ | refine c_ret ?_ | refine c_exit ?_ | refine e_exit rfl ?_ | refine i_s0 rfl ?_ | refine c_leaf ?_ | refine i_gt rfl ?_ | refine i_gf rfl ?_ | refine i_gd rfl ?_ | refine c_t rfl ?_ | refine c_f rfl ?_ | refine i_conv rfl (by simp only [InR, List.length_map]; omega) ?_ | refine i_add rfl rfl (by simp only [InR, List.length_map]; omega) ?_ | refine i_sub rfl rfl (by simp only [InR, List.length_map]; omega) ?_ | refine i_ixm rfl rfl (by assumption) ?_ | refine i_iai rfl rfl (by omega) (by assumption) rfl ?_ | refine i_iam rfl rfl (by assumption) rfl ?_ | refine i_tk rfl rfl (by omega) ?_ | refine i_stb rfl ?_ | refine i_alloc rfl ?_ | refine i_box rfl rfl ?_ | refine i_nv rfl ?_ | refine i_f rfl rfl (hG) rfl ?_)
  refine c_nvb rfl rfl rfl rfl ?_
  repeat (first | refine i_len rfl ?_ | refine i_s rfl ?_ | refine i_lenm rfl rfl rfl ?_ | refine c_seq ?_ | refine c_cut0 ?_ | refine c_ops ?_ | refine i_nil ?_ | refine e_seq ?_ | refine e_block ?_ | refine c_block ?_ | refine c_skip ?_ | refine c_ret ?_ | refine c_exit ?_ | refine e_exit rfl ?_ | refine i_s0 rfl ?_ | refine c_leaf ?_ | refine i_gt rfl ?_ | refine i_gf rfl ?_ | refine i_gd rfl ?_ | refine c_t rfl ?_ | refine c_f rfl ?_ | refine i_conv rfl (by simp only [InR, List.length_map]; omega) ?_ | refine i_add rfl rfl (by simp only [InR, List.length_map]; omega) ?_ | refine i_sub rfl rfl (by simp only [InR, List.length_map]; omega) ?_ | refine i_ixm rfl rfl (by assumption) ?_ | refine i_iai rfl rfl (by omega) (by assumption) rfl ?_ | refine i_iam rfl rfl (by assumption) rfl ?_ | refine i_tk rfl rfl (by omega) ?_ | refine i_stb rfl ?_ | refine i_alloc rfl ?_ | refine i_box rfl rfl ?_ | refine i_nv rfl ?_)
  refine c_for m.init.length (fun k => [(1, .bptr 1472068 0), (2, .bptr 1472132 0), (3, .bptr 1472194 0), (5, .sl .p (b.map i64V)), (7, .bptr 1472452 0), (40, .sl .p (m.init.map i64V)), (41, .int .i64 m.init.length), (42, .int .i64 k)])
    (fun k => [(1472068, .box (mtV m)), (1472132, .box (.agg [.int .i64 0, .sl .nil [], .sl .nil [], .sl .nil []])), (1472194, .box (ftV okF)),
      (1472452, .box (.agg [.int .i64 sz, .sl (.own 1476545) ((initK b m.init k).map i64V), .sl .p ((m.goal.map (factAt b)).map i64V), .sl .nil []])), (1476545, .vec (initK b m.init k).length)]) (fun _ => True) trivial ⟨by repeat (first | exact trivial | refine ⟨rfl, ?_⟩), by repeat (first | exact trivial | refine ⟨rfl, ?_⟩), rfl⟩ fun k hk _ => ?_
  repeat (first | refine i_len rfl ?_ | refine i_s rfl ?_ | refine i_lenm rfl rfl rfl ?_ | refine c_seq ?_ | refine c_cut0 ?_ | refine c_ops ?_ | refine i_nil ?_ | refine e_seq ?_ | refine e_block ?_ | refine c_block ?_ | refine c_skip ?_ | refine c_ret ?_ | refine c_exit ?_ | refine e_exit rfl ?_ | refine i_s0 rfl ?_ | refine c_leaf ?_ | refine i_gt rfl ?_ | refine i_gf rfl ?_ | refine i_gd rfl ?_ | refine c_t rfl ?_ | refine c_f rfl ?_ | refine i_conv rfl (by simp only [InR, List.length_map]; omega) ?_ | refine i_add rfl rfl (by simp only [InR, List.length_map]; omega) ?_ | refine i_sub rfl rfl (by simp only [InR, List.length_map]; omega) ?_ | refine i_ixm rfl rfl (by assumption) ?_ | refine i_iai rfl rfl (by omega) (by assumption) rfl ?_ | refine i_iam rfl rfl (by assumption) rfl ?_ | refine i_tk rfl rfl (by omega) ?_ | refine i_stb rfl ?_ | refine i_alloc rfl ?_ | refine i_box rfl rfl ?_ | refine i_nv rfl ?_)
  refine c_cond rfl (fun h => ?_) (fun h => ?_)
  · have hlt : k < m.init.length := by simpa using h
    obtain ⟨x, hx⟩ := get_some hlt
    obtain ⟨x0, x1⟩ := st_range hv hx
    obtain ⟨y, hy⟩ := get_some (l := b) (k := k) (by omega)
    obtain ⟨y0, y1⟩ := hbr y (mem_get hy)
    have htl := initK_len b m.init k
    have e := initK_succ b m.init k hy hx
    clear h hV hB hG hfa ho hbr hv
    repeat (first | refine i_len rfl ?_ | refine i_s rfl ?_ | refine i_lenm rfl rfl rfl ?_ | refine c_seq ?_ | refine c_cut0 ?_ | refine c_ops ?_ | refine i_nil ?_ | refine e_seq ?_ | refine e_block ?_ | refine c_block ?_ | refine c_skip ?_ | refine c_ret ?_ | refine c_exit ?_ | refine e_exit rfl ?_ | refine i_s0 rfl ?_ | refine c_leaf ?_ | refine i_gt rfl ?_ | refine i_gf rfl ?_ | refine i_gd rfl ?_ | refine c_t rfl ?_ | refine c_f rfl ?_ | refine i_conv rfl (by simp only [InR, List.length_map]; omega) ?_ | refine i_add rfl rfl (by simp only [InR, List.length_map]; omega) ?_ | refine i_sub rfl rfl (by simp only [InR, List.length_map]; omega) ?_ | refine i_ixm rfl rfl (by assumption) ?_ | refine i_iai rfl rfl (by omega) (by assumption) rfl ?_ | refine i_iam rfl rfl (by assumption) rfl ?_ | refine i_tk rfl rfl (by omega) ?_ | refine i_stb rfl ?_ | refine i_alloc rfl ?_ | refine i_box rfl rfl ?_ | refine i_nv rfl ?_)
    refine i_appM rfl rfl rfl rfl rfl (by omega) (by omega) ?_
    repeat (first | refine i_len rfl ?_ | refine i_s rfl ?_ | refine i_lenm rfl rfl rfl ?_ | refine c_seq ?_ | refine c_cut0 ?_ | refine c_ops ?_ | refine i_nil ?_ | refine e_seq ?_ | refine e_block ?_ | refine c_block ?_ | refine c_skip ?_ | refine c_ret ?_ | refine c_exit ?_ | refine e_exit rfl ?_ | refine i_s0 rfl ?_ | refine c_leaf ?_ | refine i_gt rfl ?_ | refine i_gf rfl ?_ | refine i_gd rfl ?_ | refine c_t rfl ?_ | refine c_f rfl ?_ | refine i_conv rfl (by simp only [InR, List.length_map]; omega) ?_ | refine i_add rfl rfl (by simp only [InR, List.length_map]; omega) ?_ | refine i_sub rfl rfl (by simp only [InR, List.length_map]; omega) ?_ | refine i_ixm rfl rfl (by assumption) ?_ | refine i_iai rfl rfl (by omega) (by assumption) rfl ?_ | refine i_iam rfl rfl (by assumption) rfl ?_ | refine i_tk rfl rfl (by omega) ?_ | refine i_stb rfl ?_ | refine i_alloc rfl ?_ | refine i_box rfl rfl ?_ | refine i_nv rfl ?_)
    refine e_for hlt trivial ⟨⟨rfl, rfl, rfl, rfl, rfl, rfl, rfl, rfl, trivial⟩, ⟨rfl, rfl, rfl, ?_, ?_, trivial⟩, rfl⟩
    · rw [e]; rfl
    · rw [e]; simp; rfl
  have hge : k = m.init.length := by have : ¬ k < m.init.length := by simpa using h
                                     omega
  subst hge
  clear h hk
  repeat (first | refine i_len rfl ?_ | refine i_s rfl ?_ | refine i_lenm rfl rfl rfl ?_ | refine c_seq ?_ | refine c_cut0 ?_ | refine c_ops ?_ | refine i_nil ?_ | refine e_seq ?_ | refine e_block ?_ | refine c_block ?_ | refine c_skip ?_ | refine c_ret ?_ | refine c_exit ?_ | refine e_exit rfl ?_ | refine i_s0 rfl ?_ | refine c_leaf ?_ | refine i_gt rfl ?_ | refine i_gf rfl ?_ | refine i_gd rfl ?_ | refine c_t rfl ?_ | refine c_f rfl ?_ | refine i_conv rfl (by simp only [InR, List.length_map]; omega) ?_ | refine i_add rfl rfl (by simp only [InR, List.length_map]; omega) ?_ | refine i_sub rfl rfl (by simp only [InR, List.length_map]; omega) ?_ | refine i_ixm rfl rfl (by assumption) ?_ | refine i_iai rfl rfl (by omega) (by assumption) rfl ?_ | refine i_iam rfl rfl (by assumption) rfl ?_ | refine i_tk rfl rfl (by omega) ?_ | refine i_stb rfl ?_ | refine i_alloc rfl ?_ | refine i_box rfl rfl ?_ | refine i_nv rfl ?_)
  refine c_nvb rfl rfl rfl rfl ?_
  repeat (first | refine i_len rfl ?_ | refine i_s rfl ?_ | refine i_lenm rfl rfl rfl ?_ | refine c_seq ?_ | refine c_cut0 ?_ | refine c_ops ?_ | refine i_nil ?_ | refine e_seq ?_ | refine e_block ?_ | refine c_block ?_ | refine c_skip ?_ | refine c_ret ?_ | refine c_exit ?_ | refine e_exit rfl ?_ | refine i_s0 rfl ?_ | refine c_leaf ?_ | refine i_gt rfl ?_ | refine i_gf rfl ?_ | refine i_gd rfl ?_ | refine c_t rfl ?_ | refine c_f rfl ?_ | refine i_conv rfl (by simp only [InR, List.length_map]; omega) ?_ | refine i_add rfl rfl (by simp only [InR, List.length_map]; omega) ?_ | refine i_sub rfl rfl (by simp only [InR, List.length_map]; omega) ?_ | refine i_ixm rfl rfl (by assumption) ?_ | refine i_iai rfl rfl (by omega) (by assumption) rfl ?_ | refine i_iam rfl rfl (by assumption) rfl ?_ | refine i_tk rfl rfl (by omega) ?_ | refine i_stb rfl ?_ | refine i_alloc rfl ?_ | refine i_box rfl rfl ?_ | refine i_nv rfl ?_)
  refine c_for m.ops.length (fun k => [(1, .bptr 1472068 0), (2, .bptr 1472132 0), (3, .bptr 1472194 0), (5, .sl .p (b.map i64V)), (7, .bptr 1472452 0), (60, .sl .p (m.ops.map moV)), (61, .int .i64 m.ops.length), (62, .int .i64 k)])
    (fun k => [(1472068, .box (mtV m)), (1472132, .box (.agg [.int .i64 0, .sl .nil [], .sl .nil [], .sl .nil []])), (1472194, .box (ftV okF)),
      (1472452, .box (.agg [.int .i64 sz, .sl (.own 1476545) ((initK b m.init m.init.length).map i64V), .sl .p ((m.goal.map (factAt b)).map i64V), .sl (.own 1476676) (((m.ops.take k).map (opT b m.sizes)).map soV)])), (1476545, .vec (initK b m.init m.init.length).length),
      (1476676, .vec ((m.ops.take k).map (opT b m.sizes)).length)]) (fun _ => True) trivial ⟨by repeat (first | exact trivial | refine ⟨rfl, ?_⟩), by repeat (first | exact trivial | refine ⟨rfl, ?_⟩), rfl⟩ fun k hk _ => ?_
  repeat (first | refine i_len rfl ?_ | refine i_s rfl ?_ | refine i_lenm rfl rfl rfl ?_ | refine c_seq ?_ | refine c_cut0 ?_ | refine c_ops ?_ | refine i_nil ?_ | refine e_seq ?_ | refine e_block ?_ | refine c_block ?_ | refine c_skip ?_ | refine c_ret ?_ | refine c_exit ?_ | refine e_exit rfl ?_ | refine i_s0 rfl ?_ | refine c_leaf ?_ | refine i_gt rfl ?_ | refine i_gf rfl ?_ | refine i_gd rfl ?_ | refine c_t rfl ?_ | refine c_f rfl ?_ | refine i_conv rfl (by simp only [InR, List.length_map]; omega) ?_ | refine i_add rfl rfl (by simp only [InR, List.length_map]; omega) ?_ | refine i_sub rfl rfl (by simp only [InR, List.length_map]; omega) ?_ | refine i_ixm rfl rfl (by assumption) ?_ | refine i_iai rfl rfl (by omega) (by assumption) rfl ?_ | refine i_iam rfl rfl (by assumption) rfl ?_ | refine i_tk rfl rfl (by omega) ?_ | refine i_stb rfl ?_ | refine i_alloc rfl ?_ | refine i_box rfl rfl ?_ | refine i_nv rfl ?_)
  refine c_cond rfl (fun h => ?_) (fun h => ?_)
  · have hlt : k < m.ops.length := by simpa using h
    obtain ⟨o, hx⟩ := get_some hlt
    obtain ⟨p1, p2, p3, p4⟩ := hv.op o (mem_get hx)
    have hF1 := hfa o.pre p1
    have hF2 := hfa o.post p2
    clear h hV hB hG hfa ho
    repeat (first | refine i_len rfl ?_ | refine i_s rfl ?_ | refine i_lenm rfl rfl rfl ?_ | refine c_seq ?_ | refine c_cut0 ?_ | refine c_ops ?_ | refine i_nil ?_ | refine e_seq ?_ | refine e_block ?_ | refine c_block ?_ | refine c_skip ?_ | refine c_ret ?_ | refine c_exit ?_ | refine e_exit rfl ?_ | refine i_s0 rfl ?_ | refine c_leaf ?_ | refine i_gt rfl ?_ | refine i_gf rfl ?_ | refine i_gd rfl ?_ | refine c_t rfl ?_ | refine c_f rfl ?_ | refine i_conv rfl (by simp only [InR, List.length_map]; omega) ?_ | refine i_add rfl rfl (by simp only [InR, List.length_map]; omega) ?_ | refine i_sub rfl rfl (by simp only [InR, List.length_map]; omega) ?_ | refine i_ixm rfl rfl (by assumption) ?_ | refine i_iai rfl rfl (by omega) (by assumption) rfl ?_ | refine i_iam rfl rfl (by assumption) rfl ?_ | refine i_tk rfl rfl (by omega) ?_ | refine i_stb rfl ?_ | refine i_alloc rfl ?_ | refine i_box rfl rfl ?_ | refine i_nv rfl ?_)
    refine c_join noH_mono (fun e ρ' σ' g' => e = .normal ∧ Fits [] [(1, .bptr 1472068 0), (2, .bptr 1472132 0), (3, .bptr 1472194 0), (5, .sl .p (b.map i64V)), (7, .bptr 1472452 0), (11, .bptr 1472707 0), (12, .bptr 1472772 0), (60, .sl .p (m.ops.map moV)), (61, .int .i64 m.ops.length), (62, .int .i64 k)]
      [(1472068, .box (mtV m)), (1472132, .box (.agg [.int .i64 0, .sl .nil [], .sl .nil [], .sl .nil []])), (1472194, .box (ftV okF)),
      (1472452, .box (.agg [.int .i64 sz, .sl (.own 1476545) ((initK b m.init m.init.length).map i64V), .sl .p ((m.goal.map (factAt b)).map i64V), .sl (.own 1476676) (((m.ops.take k).map (opT b m.sizes)).map soV)])), (1476545, .vec (initK b m.init m.init.length).length),
      (1476676, .vec ((m.ops.take k).map (opT b m.sizes)).length), (1472707, .box (moV o)), (1472772, .box (.agg [.sl .p ((o.pre.map (factAt b)).map i64V), .sl .p ((o.post.map (factAt b)).map i64V), .sl .nil [], .int .i64 o.cost]))] ρ' σ') ?_ ?_
    · repeat' (first | refine i_len rfl ?_ | refine i_s rfl ?_ | refine i_lenm rfl rfl rfl ?_ | refine c_seq ?_ | refine c_cut0 ?_ | refine c_ops ?_ | refine i_nil ?_ | refine e_seq ?_ | refine e_block ?_ | refine c_block ?_ | refine c_skip ?_ | refine c_ret ?_ | refine c_exit ?_ | refine e_exit rfl ?_ | refine i_s0 rfl ?_ | refine c_leaf ?_ | refine i_gt rfl ?_ | refine i_gf rfl ?_ | refine i_gd rfl ?_ | refine c_t rfl ?_ | refine c_f rfl ?_ | refine i_conv rfl (by simp only [InR, List.length_map]; omega) ?_ | refine i_add rfl rfl (by simp only [InR, List.length_map]; omega) ?_ | refine i_sub rfl rfl (by simp only [InR, List.length_map]; omega) ?_ | refine i_ixm rfl rfl (by assumption) ?_ | refine i_iai rfl rfl (by omega) (by assumption) rfl ?_ | refine i_iam rfl rfl (by assumption) rfl ?_ | refine i_tk rfl rfl (by omega) ?_ | refine i_stb rfl ?_ | refine i_alloc rfl ?_ | refine i_box rfl rfl ?_ | refine i_nv rfl ?_ | refine c_node ?_ ?_ | refine i_g rfl (fun h => ?_) (fun h => ?_) | refine c_cond rfl (fun h => ?_) (fun h => ?_) | refine i_f rfl rfl (hF1) rfl ?_ | refine i_f rfl rfl (hF2) rfl ?_)
      all_goals exact e_end ⟨rfl, ⟨by repeat (first | exact trivial | refine ⟨rfl, ?_⟩), by repeat (first | exact trivial | refine ⟨rfl, ?_⟩), rfl⟩⟩
    · rintro e ρ' σ' g' ⟨rfl, hf⟩
      refine e_seq ?_
      refine c_cut _ _ hf ?_
      clear hf ρ' σ' hF1 hF2
      have hpl := asB_len p2
      have hin := asB_in p2
      have hav := as_range hv p2
      repeat (first | refine i_len rfl ?_ | refine i_s rfl ?_ | refine i_lenm rfl rfl rfl ?_ | refine c_seq ?_ | refine c_cut0 ?_ | refine c_ops ?_ | refine i_nil ?_ | refine e_seq ?_ | refine e_block ?_ | refine c_block ?_ | refine c_skip ?_ | refine c_ret ?_ | refine c_exit ?_ | refine e_exit rfl ?_ | refine i_s0 rfl ?_ | refine c_leaf ?_ | refine i_gt rfl ?_ | refine i_gf rfl ?_ | refine i_gd rfl ?_ | refine c_t rfl ?_ | refine c_f rfl ?_ | refine i_conv rfl (by simp only [InR, List.length_map]; omega) ?_ | refine i_add rfl rfl (by simp only [InR, List.length_map]; omega) ?_ | refine i_sub rfl rfl (by simp only [InR, List.length_map]; omega) ?_ | refine i_ixm rfl rfl (by assumption) ?_ | refine i_iai rfl rfl (by omega) (by assumption) rfl ?_ | refine i_iam rfl rfl (by assumption) rfl ?_ | refine i_tk rfl rfl (by omega) ?_ | refine i_stb rfl ?_ | refine i_alloc rfl ?_ | refine i_box rfl rfl ?_ | refine i_nv rfl ?_)
      refine c_nvb rfl rfl rfl rfl ?_
      repeat (first | refine i_len rfl ?_ | refine i_s rfl ?_ | refine i_lenm rfl rfl rfl ?_ | refine c_seq ?_ | refine c_cut0 ?_ | refine c_ops ?_ | refine i_nil ?_ | refine e_seq ?_ | refine e_block ?_ | refine c_block ?_ | refine c_skip ?_ | refine c_ret ?_ | refine c_exit ?_ | refine e_exit rfl ?_ | refine i_s0 rfl ?_ | refine c_leaf ?_ | refine i_gt rfl ?_ | refine i_gf rfl ?_ | refine i_gd rfl ?_ | refine c_t rfl ?_ | refine c_f rfl ?_ | refine i_conv rfl (by simp only [InR, List.length_map]; omega) ?_ | refine i_add rfl rfl (by simp only [InR, List.length_map]; omega) ?_ | refine i_sub rfl rfl (by simp only [InR, List.length_map]; omega) ?_ | refine i_ixm rfl rfl (by assumption) ?_ | refine i_iai rfl rfl (by omega) (by assumption) rfl ?_ | refine i_iam rfl rfl (by assumption) rfl ?_ | refine i_tk rfl rfl (by omega) ?_ | refine i_stb rfl ?_ | refine i_alloc rfl ?_ | refine i_box rfl rfl ?_ | refine i_nv rfl ?_)
      refine c_for o.post.length (fun j => [(1, .bptr 1472068 0), (2, .bptr 1472132 0), (3, .bptr 1472194 0), (5, .sl .p (b.map i64V)), (7, .bptr 1472452 0), (11, .bptr 1472707 0), (12, .bptr 1472772 0), (60, .sl .p (m.ops.map moV)), (61, .int .i64 m.ops.length), (62, .int .i64 k), (78, .sl .p (o.post.map asV)), (79, .int .i64 o.post.length), (80, .int .i64 j)])
        (fun j => [(1472068, .box (mtV m)), (1472132, .box (.agg [.int .i64 0, .sl .nil [], .sl .nil [], .sl .nil []])), (1472194, .box (ftV okF)),
      (1472452, .box (.agg [.int .i64 sz, .sl (.own 1476545) ((initK b m.init m.init.length).map i64V), .sl .p ((m.goal.map (factAt b)).map i64V), .sl (.own 1476676) (((m.ops.take k).map (opT b m.sizes)).map soV)])), (1476545, .vec (initK b m.init m.init.length).length),
      (1476676, .vec ((m.ops.take k).map (opT b m.sizes)).length), (1472707, .box (moV o)), (1472772, .box (.agg [.sl .p ((o.pre.map (factAt b)).map i64V), .sl .p ((o.post.map (factAt b)).map i64V), .sl (.own 1479809) ((dels b m.sizes (o.post.take j)).map i64V), .int .i64 o.cost])), (1479809, .vec (dels b m.sizes (o.post.take j)).length)]) (fun _ => True) trivial ⟨by repeat (first | exact trivial | refine ⟨rfl, ?_⟩), by repeat (first | exact trivial | refine ⟨rfl, ?_⟩), rfl⟩ fun j hj _ => ?_
      repeat (first | refine i_len rfl ?_ | refine i_s rfl ?_ | refine i_lenm rfl rfl rfl ?_ | refine c_seq ?_ | refine c_cut0 ?_ | refine c_ops ?_ | refine i_nil ?_ | refine e_seq ?_ | refine e_block ?_ | refine c_block ?_ | refine c_skip ?_ | refine c_ret ?_ | refine c_exit ?_ | refine e_exit rfl ?_ | refine i_s0 rfl ?_ | refine c_leaf ?_ | refine i_gt rfl ?_ | refine i_gf rfl ?_ | refine i_gd rfl ?_ | refine c_t rfl ?_ | refine c_f rfl ?_ | refine i_conv rfl (by simp only [InR, List.length_map]; omega) ?_ | refine i_add rfl rfl (by simp only [InR, List.length_map]; omega) ?_ | refine i_sub rfl rfl (by simp only [InR, List.length_map]; omega) ?_ | refine i_ixm rfl rfl (by assumption) ?_ | refine i_iai rfl rfl (by omega) (by assumption) rfl ?_ | refine i_iam rfl rfl (by assumption) rfl ?_ | refine i_tk rfl rfl (by omega) ?_ | refine i_stb rfl ?_ | refine i_alloc rfl ?_ | refine i_box rfl rfl ?_ | refine i_nv rfl ?_)
      refine c_cond rfl (fun h => ?_) (fun h => ?_)
      · have hjl : j < o.post.length := by simpa using h
        obtain ⟨a, ha⟩ := get_some hjl
        obtain ⟨v0, v1⟩ := hin a (mem_get ha)
        obtain ⟨w0, w1⟩ := hav a (mem_get ha)
        obtain ⟨z, hz⟩ := get_some (l := m.sizes) (k := a.var.toNat) (by omega)
        have hzr := hv.rng z (mem_get hz)
        obtain ⟨y, hy⟩ := get_some (l := b) (k := a.var.toNat) (by omega)
        obtain ⟨y0, y1⟩ := hbr y (mem_get hy)
        have hdl := dels_len (b := b) hv.rng (o.post.take j)
        have htj : (o.post.take j).length ≤ 8 := by simp; omega
        have eD := dels_succ b m.sizes o.post ha hz
        have hya : bAt b a.var = y := by simp [bAt, hy]
        have eD0 : dels b m.sizes (o.post.take j) ++ delK b a 0 = dels b m.sizes (o.post.take j) := by simp [delK]
        clear h hbr hv hin hav
        repeat (first | refine i_len rfl ?_ | refine i_s rfl ?_ | refine i_lenm rfl rfl rfl ?_ | refine c_seq ?_ | refine c_cut0 ?_ | refine c_ops ?_ | refine i_nil ?_ | refine e_seq ?_ | refine e_block ?_ | refine c_block ?_ | refine c_skip ?_ | refine c_ret ?_ | refine c_exit ?_ | refine e_exit rfl ?_ | refine i_s0 rfl ?_ | refine c_leaf ?_ | refine i_gt rfl ?_ | refine i_gf rfl ?_ | refine i_gd rfl ?_ | refine c_t rfl ?_ | refine c_f rfl ?_ | refine i_conv rfl (by simp only [InR, List.length_map]; omega) ?_ | refine i_add rfl rfl (by simp only [InR, List.length_map]; omega) ?_ | refine i_sub rfl rfl (by simp only [InR, List.length_map]; omega) ?_ | refine i_ixm rfl rfl (by assumption) ?_ | refine i_iai rfl rfl (by omega) (by assumption) rfl ?_ | refine i_iam rfl rfl (by assumption) rfl ?_ | refine i_tk rfl rfl (by omega) ?_ | refine i_stb rfl ?_ | refine i_alloc rfl ?_ | refine i_box rfl rfl ?_ | refine i_nv rfl ?_)
        refine c_for z.toNat (fun x => [(1, .bptr 1472068 0), (2, .bptr 1472132 0), (3, .bptr 1472194 0), (5, .sl .p (b.map i64V)), (7, .bptr 1472452 0), (11, .bptr 1472707 0), (12, .bptr 1472772 0), (60, .sl .p (m.ops.map moV)), (61, .int .i64 m.ops.length), (62, .int .i64 k), (78, .sl .p (o.post.map asV)), (79, .int .i64 o.post.length), (80, .int .i64 j), (14, .bptr 1472898 0), (89, .int .i64 z), (90, .int .i64 x)])
          (fun x => [(1472068, .box (mtV m)), (1472132, .box (.agg [.int .i64 0, .sl .nil [], .sl .nil [], .sl .nil []])), (1472194, .box (ftV okF)),
      (1472452, .box (.agg [.int .i64 sz, .sl (.own 1476545) ((initK b m.init m.init.length).map i64V), .sl .p ((m.goal.map (factAt b)).map i64V), .sl (.own 1476676) (((m.ops.take k).map (opT b m.sizes)).map soV)])), (1476545, .vec (initK b m.init m.init.length).length),
      (1476676, .vec ((m.ops.take k).map (opT b m.sizes)).length), (1472707, .box (moV o)), (1472772, .box (.agg [.sl .p ((o.pre.map (factAt b)).map i64V), .sl .p ((o.post.map (factAt b)).map i64V), .sl (.own 1479809) ((dels b m.sizes (o.post.take j) ++ delK b a x).map i64V), .int .i64 o.cost])), (1479809, .vec (dels b m.sizes (o.post.take j) ++ delK b a x).length), (1472898, .box (asV a))]) (fun _ => True) trivial ⟨by repeat (first | exact trivial | refine ⟨rfl, ?_⟩), ⟨rfl, rfl, rfl, rfl, rfl, rfl, rfl, ?_, ?_, rfl, trivial⟩, rfl⟩ fun x hx2 _ => ?_
        · rw [eD0]; rfl
        · rw [eD0]; rfl
        repeat (first | refine i_len rfl ?_ | refine i_s rfl ?_ | refine i_lenm rfl rfl rfl ?_ | refine c_seq ?_ | refine c_cut0 ?_ | refine c_ops ?_ | refine i_nil ?_ | refine e_seq ?_ | refine e_block ?_ | refine c_block ?_ | refine c_skip ?_ | refine c_ret ?_ | refine c_exit ?_ | refine e_exit rfl ?_ | refine i_s0 rfl ?_ | refine c_leaf ?_ | refine i_gt rfl ?_ | refine i_gf rfl ?_ | refine i_gd rfl ?_ | refine c_t rfl ?_ | refine c_f rfl ?_ | refine i_conv rfl (by simp only [InR, List.length_map]; omega) ?_ | refine i_add rfl rfl (by simp only [InR, List.length_map]; omega) ?_ | refine i_sub rfl rfl (by simp only [InR, List.length_map]; omega) ?_ | refine i_ixm rfl rfl (by assumption) ?_ | refine i_iai rfl rfl (by omega) (by assumption) rfl ?_ | refine i_iam rfl rfl (by assumption) rfl ?_ | refine i_tk rfl rfl (by omega) ?_ | refine i_stb rfl ?_ | refine i_alloc rfl ?_ | refine i_box rfl rfl ?_ | refine i_nv rfl ?_)
        refine c_cond rfl (fun h => ?_) (fun h => ?_)
        · have hxl : (x : Int) < z := by simpa using h
          have hxn : x < z.toNat := by omega
          have hdk := delK_len b a x
          have eS := delK_succ b a x
          rw [hya] at eS
          have eS2 : dels b m.sizes (o.post.take j) ++ delK b a (x + 1) = dels b m.sizes (o.post.take j) ++ (delK b a x ++ (if (x : Int) ≠ a.value then [y + x] else [])) := by rw [eS]
          have hln : (dels b m.sizes (o.post.take j) ++ delK b a x).length ≤ 60 := by simp only [List.length_append]; omega
          clear h
          repeat (first | refine i_len rfl ?_ | refine i_s rfl ?_ | refine i_lenm rfl rfl rfl ?_ | refine c_seq ?_ | refine c_cut0 ?_ | refine c_ops ?_ | refine i_nil ?_ | refine e_seq ?_ | refine e_block ?_ | refine c_block ?_ | refine c_skip ?_ | refine c_ret ?_ | refine c_exit ?_ | refine e_exit rfl ?_ | refine i_s0 rfl ?_ | refine c_leaf ?_ | refine i_gt rfl ?_ | refine i_gf rfl ?_ | refine i_gd rfl ?_ | refine c_t rfl ?_ | refine c_f rfl ?_ | refine i_conv rfl (by simp only [InR, List.length_map]; omega) ?_ | refine i_add rfl rfl (by simp only [InR, List.length_map]; omega) ?_ | refine i_sub rfl rfl (by simp only [InR, List.length_map]; omega) ?_ | refine i_ixm rfl rfl (by assumption) ?_ | refine i_iai rfl rfl (by omega) (by assumption) rfl ?_ | refine i_iam rfl rfl (by assumption) rfl ?_ | refine i_tk rfl rfl (by omega) ?_ | refine i_stb rfl ?_ | refine i_alloc rfl ?_ | refine i_box rfl rfl ?_ | refine i_nv rfl ?_)
          refine c_cond rfl (fun h => ?_) (fun h => ?_)
          · have hne : (x : Int) ≠ a.value := by simpa using h
            rw [if_pos hne, ← List.append_assoc] at eS2
            clear h
            repeat (first | refine i_len rfl ?_ | refine i_s rfl ?_ | refine i_lenm rfl rfl rfl ?_ | refine c_seq ?_ | refine c_cut0 ?_ | refine c_ops ?_ | refine i_nil ?_ | refine e_seq ?_ | refine e_block ?_ | refine c_block ?_ | refine c_skip ?_ | refine c_ret ?_ | refine c_exit ?_ | refine e_exit rfl ?_ | refine i_s0 rfl ?_ | refine c_leaf ?_ | refine i_gt rfl ?_ | refine i_gf rfl ?_ | refine i_gd rfl ?_ | refine c_t rfl ?_ | refine c_f rfl ?_ | refine i_conv rfl (by simp only [InR, List.length_map]; omega) ?_ | refine i_add rfl rfl (by simp only [InR, List.length_map]; omega) ?_ | refine i_sub rfl rfl (by simp only [InR, List.length_map]; omega) ?_ | refine i_ixm rfl rfl (by assumption) ?_ | refine i_iai rfl rfl (by omega) (by assumption) rfl ?_ | refine i_iam rfl rfl (by assumption) rfl ?_ | refine i_tk rfl rfl (by omega) ?_ | refine i_stb rfl ?_ | refine i_alloc rfl ?_ | refine i_box rfl rfl ?_ | refine i_nv rfl ?_)
            refine i_appM rfl rfl rfl rfl rfl (by omega) (by omega) ?_
            repeat (first | refine i_len rfl ?_ | refine i_s rfl ?_ | refine i_lenm rfl rfl rfl ?_ | refine c_seq ?_ | refine c_cut0 ?_ | refine c_ops ?_ | refine i_nil ?_ | refine e_seq ?_ | refine e_block ?_ | refine c_block ?_ | refine c_skip ?_ | refine c_ret ?_ | refine c_exit ?_ | refine e_exit rfl ?_ | refine i_s0 rfl ?_ | refine c_leaf ?_ | refine i_gt rfl ?_ | refine i_gf rfl ?_ | refine i_gd rfl ?_ | refine c_t rfl ?_ | refine c_f rfl ?_ | refine i_conv rfl (by simp only [InR, List.length_map]; omega) ?_ | refine i_add rfl rfl (by simp only [InR, List.length_map]; omega) ?_ | refine i_sub rfl rfl (by simp only [InR, List.length_map]; omega) ?_ | refine i_ixm rfl rfl (by assumption) ?_ | refine i_iai rfl rfl (by omega) (by assumption) rfl ?_ | refine i_iam rfl rfl (by assumption) rfl ?_ | refine i_tk rfl rfl (by omega) ?_ | refine i_stb rfl ?_ | refine i_alloc rfl ?_ | refine i_box rfl rfl ?_ | refine i_nv rfl ?_)
            refine e_for hxn trivial ⟨by repeat (first | exact trivial | refine ⟨rfl, ?_⟩), ⟨rfl, rfl, rfl, rfl, rfl, rfl, rfl, ?_, ?_, rfl, trivial⟩, rfl⟩
            · rw [eS2]; rfl
            · rw [eS2]; simp; rfl
          · have hne : ¬ (x : Int) ≠ a.value := by simpa using h
            rw [if_neg hne, List.append_nil] at eS2
            clear h
            repeat (first | refine i_len rfl ?_ | refine i_s rfl ?_ | refine i_lenm rfl rfl rfl ?_ | refine c_seq ?_ | refine c_cut0 ?_ | refine c_ops ?_ | refine i_nil ?_ | refine e_seq ?_ | refine e_block ?_ | refine c_block ?_ | refine c_skip ?_ | refine c_ret ?_ | refine c_exit ?_ | refine e_exit rfl ?_ | refine i_s0 rfl ?_ | refine c_leaf ?_ | refine i_gt rfl ?_ | refine i_gf rfl ?_ | refine i_gd rfl ?_ | refine c_t rfl ?_ | refine c_f rfl ?_ | refine i_conv rfl (by simp only [InR, List.length_map]; omega) ?_ | refine i_add rfl rfl (by simp only [InR, List.length_map]; omega) ?_ | refine i_sub rfl rfl (by simp only [InR, List.length_map]; omega) ?_ | refine i_ixm rfl rfl (by assumption) ?_ | refine i_iai rfl rfl (by omega) (by assumption) rfl ?_ | refine i_iam rfl rfl (by assumption) rfl ?_ | refine i_tk rfl rfl (by omega) ?_ | refine i_stb rfl ?_ | refine i_alloc rfl ?_ | refine i_box rfl rfl ?_ | refine i_nv rfl ?_)
            refine e_for hxn trivial ⟨by repeat (first | exact trivial | refine ⟨rfl, ?_⟩), ⟨rfl, rfl, rfl, rfl, rfl, rfl, rfl, ?_, ?_, rfl, trivial⟩, rfl⟩
            · rw [eS2]; rfl
            · rw [eS2]; rfl
        have hge : x = z.toNat := by have : ¬ (x : Int) < z := by simpa using h
                                     omega
        subst hge
        rw [← eD]
        clear h hx2
        repeat (first | refine i_len rfl ?_ | refine i_s rfl ?_ | refine i_lenm rfl rfl rfl ?_ | refine c_seq ?_ | refine c_cut0 ?_ | refine c_ops ?_ | refine i_nil ?_ | refine e_seq ?_ | refine e_block ?_ | refine c_block ?_ | refine c_skip ?_ | refine c_ret ?_ | refine c_exit ?_ | refine e_exit rfl ?_ | refine i_s0 rfl ?_ | refine c_leaf ?_ | refine i_gt rfl ?_ | refine i_gf rfl ?_ | refine i_gd rfl ?_ | refine c_t rfl ?_ | refine c_f rfl ?_ | refine i_conv rfl (by simp only [InR, List.length_map]; omega) ?_ | refine i_add rfl rfl (by simp only [InR, List.length_map]; omega) ?_ | refine i_sub rfl rfl (by simp only [InR, List.length_map]; omega) ?_ | refine i_ixm rfl rfl (by assumption) ?_ | refine i_iai rfl rfl (by omega) (by assumption) rfl ?_ | refine i_iam rfl rfl (by assumption) rfl ?_ | refine i_tk rfl rfl (by omega) ?_ | refine i_stb rfl ?_ | refine i_alloc rfl ?_ | refine i_box rfl rfl ?_ | refine i_nv rfl ?_)
        exact e_for hjl trivial ⟨by repeat (first | exact trivial | refine ⟨rfl, ?_⟩), by repeat (first | exact trivial | refine ⟨rfl, ?_⟩), rfl⟩
      have hge : j = o.post.length := by have : ¬ j < o.post.length := by simpa using h
                                         omega
      subst hge
      rw [List.take_length]
      clear h hj
      repeat (first | refine i_len rfl ?_ | refine i_s rfl ?_ | refine i_lenm rfl rfl rfl ?_ | refine c_seq ?_ | refine c_cut0 ?_ | refine c_ops ?_ | refine i_nil ?_ | refine e_seq ?_ | refine e_block ?_ | refine c_block ?_ | refine c_skip ?_ | refine c_ret ?_ | refine c_exit ?_ | refine e_exit rfl ?_ | refine i_s0 rfl ?_ | refine c_leaf ?_ | refine i_gt rfl ?_ | refine i_gf rfl ?_ | refine i_gd rfl ?_ | refine c_t rfl ?_ | refine c_f rfl ?_ | refine i_conv rfl (by simp only [InR, List.length_map]; omega) ?_ | refine i_add rfl rfl (by simp only [InR, List.length_map]; omega) ?_ | refine i_sub rfl rfl (by simp only [InR, List.length_map]; omega) ?_ | refine i_ixm rfl rfl (by assumption) ?_ | refine i_iai rfl rfl (by omega) (by assumption) rfl ?_ | refine i_iam rfl rfl (by assumption) rfl ?_ | refine i_tk rfl rfl (by omega) ?_ | refine i_stb rfl ?_ | refine i_alloc rfl ?_ | refine i_box rfl rfl ?_ | refine i_nv rfl ?_)
      refine c_fzb rfl rfl rfl rfl ?_
      have hkl : ((m.ops.take k).map (opT b m.sizes)).length ≤ 40 := by simp; omega
      have e : (m.ops.take (k + 1)).map (opT b m.sizes) = (m.ops.take k).map (opT b m.sizes) ++ [opT b m.sizes o] := by rw [take_succ_get hx]; simp
      repeat (first | refine i_len rfl ?_ | refine i_s rfl ?_ | refine i_lenm rfl rfl rfl ?_ | refine c_seq ?_ | refine c_cut0 ?_ | refine c_ops ?_ | refine i_nil ?_ | refine e_seq ?_ | refine e_block ?_ | refine c_block ?_ | refine c_skip ?_ | refine c_ret ?_ | refine c_exit ?_ | refine e_exit rfl ?_ | refine i_s0 rfl ?_ | refine c_leaf ?_ | refine i_gt rfl ?_ | refine i_gf rfl ?_ | refine i_gd rfl ?_ | refine c_t rfl ?_ | refine c_f rfl ?_ | refine i_conv rfl (by simp only [InR, List.length_map]; omega) ?_ | refine i_add rfl rfl (by simp only [InR, List.length_map]; omega) ?_ | refine i_sub rfl rfl (by simp only [InR, List.length_map]; omega) ?_ | refine i_ixm rfl rfl (by assumption) ?_ | refine i_iai rfl rfl (by omega) (by assumption) rfl ?_ | refine i_iam rfl rfl (by assumption) rfl ?_ | refine i_tk rfl rfl (by omega) ?_ | refine i_stb rfl ?_ | refine i_alloc rfl ?_ | refine i_box rfl rfl ?_ | refine i_nv rfl ?_)
      refine i_appM (c := opT b m.sizes o) rfl rfl rfl rfl rfl (by omega) (by omega) ?_
      repeat (first | refine i_len rfl ?_ | refine i_s rfl ?_ | refine i_lenm rfl rfl rfl ?_ | refine c_seq ?_ | refine c_cut0 ?_ | refine c_ops ?_ | refine i_nil ?_ | refine e_seq ?_ | refine e_block ?_ | refine c_block ?_ | refine c_skip ?_ | refine c_ret ?_ | refine c_exit ?_ | refine e_exit rfl ?_ | refine i_s0 rfl ?_ | refine c_leaf ?_ | refine i_gt rfl ?_ | refine i_gf rfl ?_ | refine i_gd rfl ?_ | refine c_t rfl ?_ | refine c_f rfl ?_ | refine i_conv rfl (by simp only [InR, List.length_map]; omega) ?_ | refine i_add rfl rfl (by simp only [InR, List.length_map]; omega) ?_ | refine i_sub rfl rfl (by simp only [InR, List.length_map]; omega) ?_ | refine i_ixm rfl rfl (by assumption) ?_ | refine i_iai rfl rfl (by omega) (by assumption) rfl ?_ | refine i_iam rfl rfl (by assumption) rfl ?_ | refine i_tk rfl rfl (by omega) ?_ | refine i_stb rfl ?_ | refine i_alloc rfl ?_ | refine i_box rfl rfl ?_ | refine i_nv rfl ?_)
      refine e_for hlt trivial ⟨⟨rfl, rfl, rfl, rfl, rfl, rfl, rfl, rfl, trivial⟩, ⟨rfl, rfl, rfl, ?_, rfl, ?_, trivial⟩, rfl⟩
      · rw [e]; rfl
      · rw [e]; simp; rfl
  have hge : k = m.ops.length := by have : ¬ k < m.ops.length := by simpa using h
                                    omega
  subst hge
  rw [List.take_length]
  clear h hk
  repeat (first | refine i_len rfl ?_ | refine i_s rfl ?_ | refine i_lenm rfl rfl rfl ?_ | refine c_seq ?_ | refine c_cut0 ?_ | refine c_ops ?_ | refine i_nil ?_ | refine e_seq ?_ | refine e_block ?_ | refine c_block ?_ | refine c_skip ?_ | refine c_ret ?_ | refine c_exit ?_ | refine e_exit rfl ?_ | refine i_s0 rfl ?_ | refine c_leaf ?_ | refine i_gt rfl ?_ | refine i_gf rfl ?_ | refine i_gd rfl ?_ | refine c_t rfl ?_ | refine c_f rfl ?_ | refine i_conv rfl (by simp only [InR, List.length_map]; omega) ?_ | refine i_add rfl rfl (by simp only [InR, List.length_map]; omega) ?_ | refine i_sub rfl rfl (by simp only [InR, List.length_map]; omega) ?_ | refine i_ixm rfl rfl (by assumption) ?_ | refine i_iai rfl rfl (by omega) (by assumption) rfl ?_ | refine i_iam rfl rfl (by assumption) rfl ?_ | refine i_tk rfl rfl (by omega) ?_ | refine i_stb rfl ?_ | refine i_alloc rfl ?_ | refine i_box rfl rfl ?_ | refine i_nv rfl ?_)
  exact e_ret ⟨rfl, _, rfl, rfl⟩
end Hm
end

section
/- Contracts: equal tasks; the switches. -/
namespace Hm
open Go
set_option maxRecDepth 100000
set_option maxHeartbeats 4000000
set_option linter.unusedSimpArgs false
set_option linter.unusedVariables false
def c_R1_SameTask : Cmd :=
  (.seq
   (.ops [
   .op (some 2) none (.box 2112132 4 (.t 0)),
   .op (some 3) none (.box 2112196 4 (.t 1)),
   .op (some 4) none (.mov (.c (.bool false)))])
   (.cut
   (.seq
   (.seq
   (.ops [
   .op (some 8) none (.faddr 0 (.t 2)),
   .op (some 9) none (.load false 1 (.t 8)),
   .op (some 10) none (.faddr 0 (.t 3)),
   .op (some 11) none (.load false 1 (.t 10)),
   .op (some 12) none (.bin .neq false [.i] (.t 9) (.t 11)),
   .op (some 13) none (.mov (.t 12)),
   .op (some 14) (some (13, false)) (.faddr 1 (.t 2)),
   .op (some 15) (some (13, false)) (.load false 1 (.t 14)),
   .op (some 16) (some (13, false)) (.faddr 1 (.t 3)),
   .op (some 17) (some (13, false)) (.load false 1 (.t 16)),
   .op (some 18) (some (13, false)) (.call .f (.c (.fn 15 [])) [.t 15, .t 17]),
   .op (some 19) (some (13, false)) (.not (.t 18)),
   .op (some 20) none (.pick (.t 13) (.c (.bool true)) (.t 19)),
   .op (some 21) none (.mov (.t 20)),
   .op (some 22) (some (21, false)) (.faddr 2 (.t 2)),
   .op (some 23) (some (21, false)) (.load false 1 (.t 22)),
   .op (some 24) (some (21, false)) (.faddr 2 (.t 3)),
   .op (some 25) (some (21, false)) (.load false 1 (.t 24)),
   .op (some 26) (some (21, false)) (.call .f (.c (.fn 15 [])) [.t 23, .t 25]),
   .op (some 27) (some (21, false)) (.not (.t 26)),
   .op (some 28) none (.pick (.t 21) (.c (.bool true)) (.t 27)),
   .op (some 29) none (.mov (.t 28)),
   .op (some 30) (some (29, false)) (.faddr 3 (.t 2)),
   .op (some 31) (some (29, false)) (.load false 1 (.t 30)),
   .op (some 32) (some (29, false)) (.len false (.t 31)),
   .op (some 33) (some (29, false)) (.faddr 3 (.t 3)),
   .op (some 34) (some (29, false)) (.load false 1 (.t 33)),
   .op (some 35) (some (29, false)) (.len false (.t 34)),
   .op (some 36) (some (29, false)) (.bin .neq false [.i] (.t 32) (.t 35)),
   .op (some 37) none (.pick (.t 29) (.c (.bool true)) (.t 36))])
   (.cut
   (.cond (.t 37)
   (.seq
   (.ops [
   .op (some 4) none (.mov (.c (.bool false)))])
   .ret)
   .skip)))
   (.cut
   (.seq
   (.seq
   (.ops [
   .op (some 5) none (.mov (.c (.int .i64 (0))))])
   (.cut
   (.block 0
   (.loop
   (.seq
   (.seq
   (.ops [
   .op (some 38) none (.mov (.t 5)),
   .op (some 39) none (.faddr 3 (.t 2)),
   .op (some 40) none (.load false 1 (.t 39)),
   .op (some 41) none (.len false (.t 40)),
   .op (some 42) none (.bin .lss false [] (.t 38) (.t 41))])
   (.cut
   (.cond (.t 42)
   .skip
   (.exit 0))))
   (.cut
   (.seq
   (.block 1
   (.seq
   (.ops [
   .op (some 45) none (.faddr 3 (.t 2)),
   .op (some 46) none (.load false 1 (.t 45)),
   .op (some 47) none (.mov (.t 5)),
   .op (some 48) none (.iaddr 4 (.t 46) (.t 47)),
   .op (some 49) none (.load true 4 (.t 48)),
   .op (some 6) none (.alloc 2112388 (.agg [.sl .nil [], .sl .nil [], .sl .nil [], .int .i64 (0)])),
   .op none none (.store 4 (.t 6) (.t 49))])
   (.cut
   (.seq
   (.ops [
   .op (some 50) none (.faddr 3 (.t 3)),
   .op (some 51) none (.load false 1 (.t 50)),
   .op (some 52) none (.mov (.t 5)),
   .op (some 53) none (.iaddr 4 (.t 51) (.t 52)),
   .op (some 54) none (.load true 4 (.t 53)),
   .op (some 7) none (.alloc 2112452 (.agg [.sl .nil [], .sl .nil [], .sl .nil [], .int .i64 (0)])),
   .op none none (.store 4 (.t 7) (.t 54))])
   (.cut
   (.seq
   (.ops [
   .op (some 55) none (.faddr 3 (.t 6)),
   .op (some 56) none (.load false 1 (.t 55)),
   .op (some 57) none (.faddr 3 (.t 7)),
   .op (some 58) none (.load false 1 (.t 57)),
   .op (some 59) none (.bin .neq false [.i] (.t 56) (.t 58)),
   .op (some 60) none (.mov (.t 59)),
   .op (some 61) (some (60, false)) (.faddr 0 (.t 6)),
   .op (some 62) (some (60, false)) (.load false 1 (.t 61)),
   .op (some 63) (some (60, false)) (.faddr 0 (.t 7)),
   .op (some 64) (some (60, false)) (.load false 1 (.t 63)),
   .op (some 65) (some (60, false)) (.call .f (.c (.fn 15 [])) [.t 62, .t 64]),
   .op (some 66) (some (60, false)) (.not (.t 65)),
   .op (some 67) none (.pick (.t 60) (.c (.bool true)) (.t 66)),
   .op (some 68) none (.mov (.t 67)),
   .op (some 69) (some (68, false)) (.faddr 1 (.t 6)),
   .op (some 70) (some (68, false)) (.load false 1 (.t 69)),
   .op (some 71) (some (68, false)) (.faddr 1 (.t 7)),
   .op (some 72) (some (68, false)) (.load false 1 (.t 71)),
   .op (some 73) (some (68, false)) (.call .f (.c (.fn 15 [])) [.t 70, .t 72]),
   .op (some 74) (some (68, false)) (.not (.t 73)),
   .op (some 75) none (.pick (.t 68) (.c (.bool true)) (.t 74)),
   .op (some 76) none (.mov (.t 75)),
   .op (some 77) (some (76, false)) (.faddr 2 (.t 6)),
   .op (some 78) (some (76, false)) (.load false 1 (.t 77)),
   .op (some 79) (some (76, false)) (.faddr 2 (.t 7)),
   .op (some 80) (some (76, false)) (.load false 1 (.t 79)),
   .op (some 81) (some (76, false)) (.call .f (.c (.fn 15 [])) [.t 78, .t 80]),
   .op (some 82) (some (76, false)) (.not (.t 81)),
   .op (some 83) none (.pick (.t 76) (.c (.bool true)) (.t 82))])
   (.cut
   (.cond (.t 83)
   (.seq
   (.ops [
   .op (some 4) none (.mov (.c (.bool false)))])
   .ret)
   .skip))))))))
   (.cut
   (.ops [
   .op (some 43) none (.mov (.t 5)),
   .op (some 44) none (.bin .add false [] (.t 43) (.c (.int .i64 (1)))),
   .op (some 5) none (.mov (.t 44))])))))))))
   (.cut
   (.seq
   (.ops [
   .op (some 4) none (.mov (.c (.bool true)))])
   .ret)))))))
def r_R1_SameTask : List RVar := [.tmp 4]
def n_R1_SameTask : Nat := 84
theorem k_R1_SameTask : chkFn Go.Proofs.Try.prog 33 n_R1_SameTask r_R1_SameTask c_R1_SameTask = true := by kernel_rfl
theorem f_R1_SameTask (s : STask) (ho : SkOk s) : Fc Go.Proofs.Try.prog 33 [skV s, skV s] (.bool true) := by
  have h1 := f_Ints_eq s.init ho.i
  have h2 := f_Ints_eq s.goal ho.g
  have h3 := ho.o
  refine Fn.step mixed k_R1_SameTask ?_
  repeat' (first | refine i_len rfl ?_ | refine i_s rfl ?_ | refine i_lenm rfl rfl rfl ?_ | refine c_seq ?_ | refine c_cut0 ?_ | refine c_ops ?_ | refine i_nil ?_ | refine e_seq ?_ | refine e_block ?_ | refine c_block ?_ | refine c_skip ?_ | refine c_ret ?_ | refine c_exit ?_ | refine e_exit rfl ?_ | refine i_s0 rfl ?_ | refine c_leaf ?_ | refine i_gt rfl ?_ | refine i_gf rfl ?_ | refine i_gd rfl ?_ | refine c_t rfl ?_ | refine c_f rfl ?_ | refine i_conv rfl (by simp only [InR, List.length_map]; omega) ?_ | refine i_add rfl rfl (by simp only [InR, List.length_map]; omega) ?_ | refine i_sub rfl rfl (by simp only [InR, List.length_map]; omega) ?_ | refine i_ixm rfl rfl (by assumption) ?_ | refine i_iai rfl rfl (by omega) (by assumption) rfl ?_ | refine i_iam rfl rfl (by assumption) rfl ?_ | refine i_tk rfl rfl (by omega) ?_ | refine i_stb rfl ?_ | refine i_alloc rfl ?_ | refine i_box rfl rfl ?_ | refine i_nv rfl ?_ | refine c_node ?_ ?_ | refine i_g rfl (fun h => ?_) (fun h => ?_) | refine c_cond rfl (fun h => ?_) (fun h => ?_) | refine i_f rfl rfl (h1) rfl ?_ | refine i_f rfl rfl (h2) rfl ?_)
  all_goals first | (exfalso; clear h1 h2 ho; grind) | skip
  refine c_for s.ops.length (fun k => [(2, .bptr 2112132 0), (3, .bptr 2112196 0), (5, .int .i64 k)]) (fun _ => [(2112132, .box (skV s)), (2112196, .box (skV s))]) (fun _ => True) trivial ⟨by repeat (first | exact trivial | refine ⟨rfl, ?_⟩), by repeat (first | exact trivial | refine ⟨rfl, ?_⟩), rfl⟩ fun k hk _ => ?_
  repeat (first | refine i_len rfl ?_ | refine i_s rfl ?_ | refine i_lenm rfl rfl rfl ?_ | refine c_seq ?_ | refine c_cut0 ?_ | refine c_ops ?_ | refine i_nil ?_ | refine e_seq ?_ | refine e_block ?_ | refine c_block ?_ | refine c_skip ?_ | refine c_ret ?_ | refine c_exit ?_ | refine e_exit rfl ?_ | refine i_s0 rfl ?_ | refine c_leaf ?_ | refine i_gt rfl ?_ | refine i_gf rfl ?_ | refine i_gd rfl ?_ | refine c_t rfl ?_ | refine c_f rfl ?_ | refine i_conv rfl (by simp only [InR, List.length_map]; omega) ?_ | refine i_add rfl rfl (by simp only [InR, List.length_map]; omega) ?_ | refine i_sub rfl rfl (by simp only [InR, List.length_map]; omega) ?_ | refine i_ixm rfl rfl (by assumption) ?_ | refine i_iai rfl rfl (by omega) (by assumption) rfl ?_ | refine i_iam rfl rfl (by assumption) rfl ?_ | refine i_tk rfl rfl (by omega) ?_ | refine i_stb rfl ?_ | refine i_alloc rfl ?_ | refine i_box rfl rfl ?_ | refine i_nv rfl ?_)
  refine c_cond rfl (fun h => ?_) (fun h => ?_)
  · have hlt : k < s.ops.length := by simpa using h
    obtain ⟨o, hx⟩ := get_some hlt
    obtain ⟨q1, q2, q3⟩ := ho.e o (mem_get hx)
    have p1 := f_Ints_eq o.pre q1
    have p2 := f_Ints_eq o.add q2
    have p3 := f_Ints_eq o.del q3
    clear h h1 h2
    repeat' (first | refine i_len rfl ?_ | refine i_s rfl ?_ | refine i_lenm rfl rfl rfl ?_ | refine c_seq ?_ | refine c_cut0 ?_ | refine c_ops ?_ | refine i_nil ?_ | refine e_seq ?_ | refine e_block ?_ | refine c_block ?_ | refine c_skip ?_ | refine c_ret ?_ | refine c_exit ?_ | refine e_exit rfl ?_ | refine i_s0 rfl ?_ | refine c_leaf ?_ | refine i_gt rfl ?_ | refine i_gf rfl ?_ | refine i_gd rfl ?_ | refine c_t rfl ?_ | refine c_f rfl ?_ | refine i_conv rfl (by simp only [InR, List.length_map]; omega) ?_ | refine i_add rfl rfl (by simp only [InR, List.length_map]; omega) ?_ | refine i_sub rfl rfl (by simp only [InR, List.length_map]; omega) ?_ | refine i_ixm rfl rfl (by assumption) ?_ | refine i_iai rfl rfl (by omega) (by assumption) rfl ?_ | refine i_iam rfl rfl (by assumption) rfl ?_ | refine i_tk rfl rfl (by omega) ?_ | refine i_stb rfl ?_ | refine i_alloc rfl ?_ | refine i_box rfl rfl ?_ | refine i_nv rfl ?_ | refine c_node ?_ ?_ | refine i_g rfl (fun h => ?_) (fun h => ?_) | refine c_cond rfl (fun h => ?_) (fun h => ?_) | refine i_f rfl rfl (p1) rfl ?_ | refine i_f rfl rfl (p2) rfl ?_ | refine i_f rfl rfl (p3) rfl ?_)
    all_goals first
      | exact e_for hlt trivial ⟨by repeat (first | exact trivial | refine ⟨rfl, ?_⟩), by repeat (first | exact trivial | refine ⟨rfl, ?_⟩), rfl⟩
      | (exfalso; clear p1 p2 p3 ho; grind)
  · repeat (first | refine i_len rfl ?_ | refine i_s rfl ?_ | refine i_lenm rfl rfl rfl ?_ | refine c_seq ?_ | refine c_cut0 ?_ | refine c_ops ?_ | refine i_nil ?_ | refine e_seq ?_ | refine e_block ?_ | refine c_block ?_ | refine c_skip ?_ | refine c_ret ?_ | refine c_exit ?_ | refine e_exit rfl ?_ | refine i_s0 rfl ?_ | refine c_leaf ?_ | refine i_gt rfl ?_ | refine i_gf rfl ?_ | refine i_gd rfl ?_ | refine c_t rfl ?_ | refine c_f rfl ?_ | refine i_conv rfl (by simp only [InR, List.length_map]; omega) ?_ | refine i_add rfl rfl (by simp only [InR, List.length_map]; omega) ?_ | refine i_sub rfl rfl (by simp only [InR, List.length_map]; omega) ?_ | refine i_ixm rfl rfl (by assumption) ?_ | refine i_iai rfl rfl (by omega) (by assumption) rfl ?_ | refine i_iam rfl rfl (by assumption) rfl ?_ | refine i_tk rfl rfl (by omega) ?_ | refine i_stb rfl ?_ | refine i_alloc rfl ?_ | refine i_box rfl rfl ?_ | refine i_nv rfl ?_)
    exact e_ret ⟨rfl, _, rfl, rfl⟩
def sw : MTask := ⟨[2], [0], [⟨0, 1⟩], [⟨[⟨0, 0⟩], [⟨0, 1⟩], 4⟩]⟩
def c_L1_switches : Cmd :=
  (.seq
   (.ops [
   .op (some 0) none (.alloc 2048004 (.agg [.sl .nil [], .sl .nil [], .sl .nil [], .sl .nil []]))])
   (.cut
   (.seq
   (.ops [
   .op (some 1) none (.bsl 1 [.c (.int .i64 (2))]),
   .op (some 2) none (.bsl 1 [.c (.int .i64 (0))]),
   .op (some 3) none (.build [.int .i64 (0), .int .i64 (0)] [(1, 1, .c (.int .i64 (1)))]),
   .op (some 4) none (.bsl 2 [.t 3]),
   .op (some 5) none (.build [.int .i64 (0), .int .i64 (0)] []),
   .op (some 6) none (.bsl 2 [.t 5]),
   .op (some 7) none (.build [.int .i64 (0), .int .i64 (0)] [(1, 1, .c (.int .i64 (1)))]),
   .op (some 8) none (.bsl 2 [.t 7]),
   .op (some 9) none (.build [.sl .nil [], .sl .nil [], .int .i64 (0)] [(0, 1, .t 6), (1, 1, .t 8), (2, 1, .c (.int .i64 (4)))]),
   .op (some 10) none (.bsl 3 [.t 9]),
   .op (some 11) none (.build [.sl .nil [], .sl .nil [], .sl .nil [], .sl .nil []] [(0, 1, .t 1), (1, 1, .t 2), (2, 1, .t 4), (3, 1, .t 10)]),
   .op none none (.store 4 (.t 0) (.t 11))])
   .ret)))
def r_L1_switches : List RVar := [.cell true 4 0]
def n_L1_switches : Nat := 12
theorem k_L1_switches : chkFn Go.Proofs.Try.prog 32 n_L1_switches r_L1_switches c_L1_switches = true := by kernel_rfl
theorem f_L1_switches : Fc Go.Proofs.Try.prog 32 [] (mtV sw) := by
  refine Fn.step mixed k_L1_switches ?_
  repeat (first | refine i_len rfl ?_ | refine i_s rfl ?_ | refine i_lenm rfl rfl rfl ?_ | refine c_seq ?_ | refine c_cut0 ?_ | refine c_ops ?_ | refine i_nil ?_ | refine e_seq ?_ | refine e_block ?_ | refine c_block ?_ | refine c_skip ?_ | refine c_ret ?_ | refine c_exit ?_ | refine e_exit rfl ?_ | refine i_s0 rfl ?_ | refine c_leaf ?_ | refine i_gt rfl ?_ | refine i_gf rfl ?_ | refine i_gd rfl ?_ | refine c_t rfl ?_ | refine c_f rfl ?_ | refine i_conv rfl (by simp only [InR, List.length_map]; omega) ?_ | refine i_add rfl rfl (by simp only [InR, List.length_map]; omega) ?_ | refine i_sub rfl rfl (by simp only [InR, List.length_map]; omega) ?_ | refine i_ixm rfl rfl (by assumption) ?_ | refine i_iai rfl rfl (by omega) (by assumption) rfl ?_ | refine i_iam rfl rfl (by assumption) rfl ?_ | refine i_tk rfl rfl (by omega) ?_ | refine i_stb rfl ?_ | refine i_alloc rfl ?_ | refine i_box rfl rfl ?_ | refine i_nv rfl ?_)
  exact e_ret ⟨rfl, _, rfl, rfl⟩
end Hm
end

section
/- Contracts: the switches turn. -/
namespace Hm
open Go
set_option maxRecDepth 100000
set_option maxHeartbeats 4000000
set_option linter.unusedSimpArgs false
set_option linter.unusedVariables false
theorem sw_ok : MOk sw := by
  refine ⟨by decide, by decide, by decide, by decide, fun o ho => ?_⟩
  simp only [sw, List.mem_singleton] at ho
  subst ho
  decide
theorem sw_f : mFault sw = okF := by decide +kernel
theorem sw_v : MV sw := mFault_ok sw_f
theorem sw_st : mStFault sw [0] = okF := by decide +kernel
theorem f_sw_Applicable : Fc Go.Proofs.Try.prog 14 [mtV sw, .sl .p ([0].map i64V)] (.tup [.sl .p ([0].map i64V), ftV okF]) := by
  have := f_multi_Applicable_ok sw sw_ok [0] sw_v (by decide +kernel) sw_st
  rwa [show appL sw [0] = [0] from by decide +kernel] at this
theorem f_sw_Apply : Fc Go.Proofs.Try.prog 17 [mtV sw, .sl .p ([0].map i64V), .int .i64 0] (.tup [.sl .p ([1].map i64V), ftV okF]) := by
  have := f_multi_Apply_ok sw sw_ok [0] sw_v (by decide +kernel) sw_st 0 (by decide) (by decide) _ rfl
  rwa [if_pos (by decide +kernel), show setAll [0] [⟨0, 1⟩] = [1] from by decide +kernel] at this
theorem f_sw_Solves : Fc Go.Proofs.Try.prog 20 [mtV sw, .sl .p ([0].map i64V)] (.tup [.bool true, ftV okF]) := by
  have := f_multi_Solves_ok sw sw_ok [0] (by decide +kernel)
  rwa [show mSolves sw [0] = true from by decide +kernel] at this
theorem f_sw_Cost : Fc Go.Proofs.Try.prog 21 [mtV sw, .sl .p ([0, 0].map i64V)] (.tup [.int .i64 8, ftV okF]) := by
  have := f_multi_Cost_ok sw sw_ok [0, 0] (by decide +kernel)
  rwa [show costL sw [0, 0] = 8 from by decide +kernel] at this
def swS : STask := ⟨2, [0], [1], [⟨[0], [1], [0], 4⟩]⟩
theorem f_sw_Strips : Fc Go.Proofs.Try.prog 23 [mtV sw] (.tup [skV swS, ftV okF]) := by
  have := f_multi_Strips_ok sw sw_ok sw_f (by decide +kernel)
  rwa [show mStrips sw = swS from rfl] at this
theorem f_sw_Same : Fc Go.Proofs.Try.prog 33 [skV swS, skV swS] (.bool true) := by
  refine f_R1_SameTask swS ⟨by decide, by decide, by decide, fun o ho => ?_⟩
  simp only [swS, List.mem_singleton] at ho
  subst ho
  decide
theorem f_mt0 : Fc Go.Proofs.Try.prog 10 [mtV ⟨[], [], [], []⟩] (ftV ⟨2, -1⟩) :=
  f_multi_Validate ⟨[], [], [], []⟩ ⟨by decide, by decide, by decide, by decide, fun o ho => by simp at ho⟩
theorem f_same0 : Fc Go.Proofs.Try.prog 15 [.sl .p ([0].map i64V), .sl .p ([0].map i64V)] (.bool true) := f_Ints_eq [0] (by decide)
theorem f_same1 : Fc Go.Proofs.Try.prog 15 [.sl .p ([1].map i64V), .sl .p ([1].map i64V)] (.bool true) := f_Ints_eq [1] (by decide)
def c_L1_turns : Cmd :=
  (.seq
   (.ops [
   .op (some 0) none (.mov (.c (.bool false)))])
   (.cut
   (.seq
   (.ops [
   .op (some 13) none (.call .f (.c (.fn 32 [])) []),
   .op (some 14) none (.bsl 1 [.c (.int .i64 (0))]),
   .op (some 15) none (.call .f (.c (.fn 14 [])) [.t 13, .t 14]),
   .op (some 12) none (.mov (.t 15)),
   .op (some 16) none (.extract (.t 12) 0),
   .op (some 17) none (.extract (.t 12) 1),
   .op (some 2) none (.alloc 576130 (.agg [.int .i64 (0), .int .i64 (0)])),
   .op (some 1) none (.mov (.t 16)),
   .op none none (.store 2 (.t 2) (.t 17))])
   (.cut
   (.seq
   (.ops [
   .op (some 19) none (.call .f (.c (.fn 32 [])) []),
   .op (some 20) none (.bsl 1 [.c (.int .i64 (0))]),
   .op (some 21) none (.call .f (.c (.fn 17 [])) [.t 19, .t 20, .c (.int .i64 (0))]),
   .op (some 18) none (.mov (.t 21)),
   .op (some 22) none (.extract (.t 18) 0),
   .op (some 23) none (.extract (.t 18) 1),
   .op (some 4) none (.alloc 576258 (.agg [.int .i64 (0), .int .i64 (0)])),
   .op (some 3) none (.mov (.t 22)),
   .op none none (.store 2 (.t 4) (.t 23))])
   (.cut
   (.seq
   (.ops [
   .op (some 25) none (.call .f (.c (.fn 32 [])) []),
   .op (some 26) none (.bsl 1 [.c (.int .i64 (0))]),
   .op (some 27) none (.call .f (.c (.fn 20 [])) [.t 25, .t 26]),
   .op (some 24) none (.mov (.t 27)),
   .op (some 28) none (.extract (.t 24) 0),
   .op (some 29) none (.extract (.t 24) 1),
   .op (some 6) none (.alloc 576386 (.agg [.int .i64 (0), .int .i64 (0)])),
   .op (some 5) none (.mov (.t 28)),
   .op none none (.store 2 (.t 6) (.t 29))])
   (.cut
   (.seq
   (.ops [
   .op (some 31) none (.call .f (.c (.fn 32 [])) []),
   .op (some 32) none (.bsl 1 [.c (.int .i64 (0)), .c (.int .i64 (0))]),
   .op (some 33) none (.call .f (.c (.fn 21 [])) [.t 31, .t 32]),
   .op (some 30) none (.mov (.t 33)),
   .op (some 34) none (.extract (.t 30) 0),
   .op (some 35) none (.extract (.t 30) 1),
   .op (some 8) none (.alloc 576514 (.agg [.int .i64 (0), .int .i64 (0)])),
   .op (some 7) none (.mov (.t 34)),
   .op none none (.store 2 (.t 8) (.t 35))])
   (.cut
   (.seq
   (.ops [
   .op (some 37) none (.call .f (.c (.fn 32 [])) []),
   .op (some 38) none (.call .f (.c (.fn 23 [])) [.t 37]),
   .op (some 36) none (.mov (.t 38)),
   .op (some 39) none (.extract (.t 36) 0),
   .op (some 40) none (.extract (.t 36) 1),
   .op (some 9) none (.alloc 576580 (.agg [.int .i64 (0), .sl .nil [], .sl .nil [], .sl .nil []])),
   .op (some 10) none (.alloc 576642 (.agg [.int .i64 (0), .int .i64 (0)])),
   .op none none (.store 4 (.t 9) (.t 39)),
   .op none none (.store 2 (.t 10) (.t 40))])
   (.cut
   (.seq
   (.ops [
   .op (some 41) none (.bsl 1 [.c (.int .i64 (0))]),
   .op (some 42) none (.bsl 1 [.c (.int .i64 (1))]),
   .op (some 43) none (.bsl 1 [.c (.int .i64 (0))]),
   .op (some 44) none (.bsl 1 [.c (.int .i64 (1))]),
   .op (some 45) none (.bsl 1 [.c (.int .i64 (0))]),
   .op (some 46) none (.build [.sl .nil [], .sl .nil [], .sl .nil [], .int .i64 (0)] [(0, 1, .t 43), (1, 1, .t 44), (2, 1, .t 45), (3, 1, .c (.int .i64 (4)))]),
   .op (some 47) none (.bsl 4 [.t 46]),
   .op (some 48) none (.build [.int .i64 (0), .sl .nil [], .sl .nil [], .sl .nil []] [(0, 1, .c (.int .i64 (2))), (1, 1, .t 41), (2, 1, .t 42), (3, 1, .t 47)]),
   .op (some 11) none (.alloc 576708 (.agg [.int .i64 (0), .sl .nil [], .sl .nil [], .sl .nil []])),
   .op none none (.store 4 (.t 11) (.t 48))])
   (.cut
   (.seq
   (.ops [
   .op (some 49) none (.faddr 0 (.t 2)),
   .op (some 50) none (.load false 1 (.t 49)),
   .op (some 51) none (.bin .eql false [.i] (.t 50) (.c (.int .i64 (0)))),
   .op (some 52) none (.mov (.t 51)),
   .op (some 53) (some (52, true)) (.faddr 0 (.t 4)),
   .op (some 54) (some (52, true)) (.load false 1 (.t 53)),
   .op (some 55) (some (52, true)) (.bin .eql false [.i] (.t 54) (.c (.int .i64 (0)))),
   .op (some 56) none (.pick (.t 52) (.t 55) (.c (.bool false))),
   .op (some 57) none (.mov (.t 56)),
   .op (some 58) (some (57, true)) (.faddr 0 (.t 6)),
   .op (some 59) (some (57, true)) (.load false 1 (.t 58)),
   .op (some 60) (some (57, true)) (.bin .eql false [.i] (.t 59) (.c (.int .i64 (0)))),
   .op (some 61) none (.pick (.t 57) (.t 60) (.c (.bool false))),
   .op (some 62) none (.mov (.t 61)),
   .op (some 63) (some (62, true)) (.faddr 0 (.t 8)),
   .op (some 64) (some (62, true)) (.load false 1 (.t 63)),
   .op (some 65) (some (62, true)) (.bin .eql false [.i] (.t 64) (.c (.int .i64 (0)))),
   .op (some 66) none (.pick (.t 62) (.t 65) (.c (.bool false))),
   .op (some 67) none (.mov (.t 66)),
   .op (some 68) (some (67, true)) (.faddr 0 (.t 10)),
   .op (some 69) (some (67, true)) (.load false 1 (.t 68)),
   .op (some 70) (some (67, true)) (.bin .eql false [.i] (.t 69) (.c (.int .i64 (0)))),
   .op (some 71) none (.pick (.t 67) (.t 70) (.c (.bool false))),
   .op (some 72) none (.mov (.t 71)),
   .op (some 73) (some (72, true)) (.mov (.t 1)),
   .op (some 74) (some (72, true)) (.bsl 1 [.c (.int .i64 (0))]),
   .op (some 75) (some (72, true)) (.call .f (.c (.fn 15 [])) [.t 73, .t 74]),
   .op (some 76) none (.pick (.t 72) (.t 75) (.c (.bool false))),
   .op (some 77) none (.mov (.t 76)),
   .op (some 78) (some (77, true)) (.mov (.t 3)),
   .op (some 79) (some (77, true)) (.bsl 1 [.c (.int .i64 (1))]),
   .op (some 80) (some (77, true)) (.call .f (.c (.fn 15 [])) [.t 78, .t 79]),
   .op (some 81) none (.pick (.t 77) (.t 80) (.c (.bool false))),
   .op (some 82) none (.mov (.t 81)),
   .op (some 83) (some (82, true)) (.mov (.t 5)),
   .op (some 84) none (.pick (.t 82) (.t 83) (.c (.bool false))),
   .op (some 85) none (.mov (.t 84)),
   .op (some 86) (some (85, true)) (.mov (.t 7)),
   .op (some 87) (some (85, true)) (.bin .eql false [.i] (.t 86) (.c (.int .i64 (8)))),
   .op (some 88) none (.pick (.t 85) (.t 87) (.c (.bool false))),
   .op (some 89) none (.mov (.t 88)),
   .op (some 90) (some (89, true)) (.load true 4 (.t 9)),
   .op (some 91) (some (89, true)) (.load true 4 (.t 11)),
   .op (some 92) (some (89, true)) (.call .f (.c (.fn 33 [])) [.t 90, .t 91]),
   .op (some 93) none (.pick (.t 89) (.t 92) (.c (.bool false))),
   .op (some 94) none (.mov (.t 93)),
   .op (some 95) (some (94, true)) (.build [.sl .nil [], .sl .nil [], .sl .nil [], .sl .nil []] []),
   .op (some 96) (some (94, true)) (.call .f (.c (.fn 10 [])) [.t 95]),
   .op (some 97) (some (94, true)) (.call .f (.c (.fn 12 [])) [.c (.int .i64 (2)), .c (.int .i64 (-1))]),
   .op (some 98) (some (94, true)) (.bin .eql true [.i, .i] (.t 96) (.t 97)),
   .op (some 99) none (.pick (.t 94) (.t 98) (.c (.bool false))),
   .op (some 0) none (.mov (.t 99))])
   .ret)))))))))))))))
def r_L1_turns : List RVar := [.tmp 0]
def n_L1_turns : Nat := 100
theorem k_L1_turns : chkFn Go.Proofs.Try.prog 9 n_L1_turns r_L1_turns c_L1_turns = true := by kernel_rfl
theorem f_L1_turns : Fc Go.Proofs.Try.prog 9 [] (.bool true) := by
  refine Fn.step mixed k_L1_turns ?_
  repeat' (first | refine i_len rfl ?_ | refine i_s rfl ?_ | refine i_lenm rfl rfl rfl ?_ | refine c_seq ?_ | refine c_cut0 ?_ | refine c_ops ?_ | refine i_nil ?_ | refine e_seq ?_ | refine e_block ?_ | refine c_block ?_ | refine c_skip ?_ | refine c_ret ?_ | refine c_exit ?_ | refine e_exit rfl ?_ | refine i_s0 rfl ?_ | refine c_leaf ?_ | refine i_gt rfl ?_ | refine i_gf rfl ?_ | refine i_gd rfl ?_ | refine c_t rfl ?_ | refine c_f rfl ?_ | refine i_conv rfl (by simp only [InR, List.length_map]; omega) ?_ | refine i_add rfl rfl (by simp only [InR, List.length_map]; omega) ?_ | refine i_sub rfl rfl (by simp only [InR, List.length_map]; omega) ?_ | refine i_ixm rfl rfl (by assumption) ?_ | refine i_iai rfl rfl (by omega) (by assumption) rfl ?_ | refine i_iam rfl rfl (by assumption) rfl ?_ | refine i_tk rfl rfl (by omega) ?_ | refine i_stb rfl ?_ | refine i_alloc rfl ?_ | refine i_box rfl rfl ?_ | refine i_nv rfl ?_ | refine c_node ?_ ?_ | refine i_g rfl (fun h => ?_) (fun h => ?_) | refine c_cond rfl (fun h => ?_) (fun h => ?_) | refine i_f rfl rfl (f_L1_switches) rfl ?_ | refine i_f rfl rfl (f_sw_Applicable) rfl ?_ | refine i_f rfl rfl (f_sw_Apply) rfl ?_ | refine i_f rfl rfl (f_sw_Solves) rfl ?_ | refine i_f rfl rfl (f_sw_Cost) rfl ?_ | refine i_f rfl rfl (f_sw_Strips) rfl ?_ | refine i_f rfl rfl (f_sw_Same) rfl ?_ | refine i_f rfl rfl (f_mt0) rfl ?_ | refine i_f rfl rfl (f_same0) rfl ?_ | refine i_f rfl rfl (f_same1) rfl ?_ | refine i_f rfl rfl (f_R1_At _ _) rfl ?_)
  all_goals exact e_ret ⟨rfl, _, rfl, rfl⟩
end Hm
end

section
/- What comes in: integers, lists of integers. -/
namespace Hm
set_option linter.unusedVariables false
set_option linter.unusedSimpArgs false
open Go
theorem in_int {H : Type} {n : Nat} {d : DataW H} (h : wt Go.Proofs.Try.prog n 3 d) : ∃ m, dv d = .int .i64 m ∧ InR .i64 m := by
  obtain ⟨m, rfl, hm⟩ := wt_int Go.Proofs.Try.underlying3 h
  exact ⟨m, rfl, hm⟩
theorem by_int : Program.bytesOf Go.Proofs.Try.prog 3 = 8 := by kernel_rfl
theorem in_Int1 {H : Type} (n : Nat) (d : DataW H) (h : wt Go.Proofs.Try.prog n 3 d) : ∃ m, dv d = i64V m ∧ InR .i64 m := in_int h
theorem in_Ints {H : Type} {n : Nat} {d : DataW H} (h : wt Go.Proofs.Try.prog n 22 d) : ∃ l : List Int, dv d = .sl .p (l.map i64V) ∧ l.length ≤ 17592186044416 := by
  obtain ⟨l, h1, h2, h3⟩ := wt_sl Go.Proofs.Try.underlying22 in_Int1 h
  rw [by_int] at h2
  exact ⟨l, h1, by omega⟩
end Hm
end

section
/- What comes in: multi-valued tasks, plans, integers. -/
namespace Hm
set_option linter.unusedVariables false
set_option linter.unusedSimpArgs false
open Go
theorem by_Asg : Program.bytesOf Go.Proofs.Try.prog 71 = 16 := by kernel_rfl
theorem by_MOp : Program.bytesOf Go.Proofs.Try.prog 35 = 56 := by kernel_rfl
theorem in_Asg {H : Type} (n : Nat) (d : DataW H) (h : wt Go.Proofs.Try.prog n 71 d) : ∃ t : Asg, dv d = asV t ∧ InR .i64 t.var ∧ InR .i64 t.value := by
  obtain ⟨parts, m, rfl, hp⟩ := wt_st Go.Proofs.Try.underlying71 h
  match parts, hp with
  | [d0, d1], hp =>
    obtain ⟨h0, h1, _⟩ := hp
    obtain ⟨s, rfl, hs⟩ := wt_int Go.Proofs.Try.underlying3 h0
    obtain ⟨k, rfl, hk⟩ := wt_int Go.Proofs.Try.underlying3 h1
    exact ⟨⟨s, k⟩, rfl, hs, hk⟩
theorem in_Asgs {H : Type} {n : Nat} {d : DataW H} (h : wt Go.Proofs.Try.prog n 23 d) : ∃ l : List Asg, dv d = .sl .p (l.map asV) ∧ l.length ≤ 17592186044416 := by
  obtain ⟨l, h1, h2, h3⟩ := wt_sl Go.Proofs.Try.underlying23 in_Asg h
  rw [by_Asg] at h2
  exact ⟨l, h1, by omega⟩
theorem in_MOp {H : Type} (n : Nat) (d : DataW H) (h : wt Go.Proofs.Try.prog n 35 d) : ∃ t : MOp, dv d = moV t ∧ t.pre.length ≤ 17592186044416 ∧ t.post.length ≤ 17592186044416 := by
  obtain ⟨parts, m, rfl, hp⟩ := wt_st Go.Proofs.Try.underlying35 h
  match parts, hp with
  | [d0, d1, d2], hp =>
    obtain ⟨h0, h1, h2, _⟩ := hp
    obtain ⟨l0, e0, b0⟩ := in_Asgs h0
    obtain ⟨l1, e1, b1⟩ := in_Asgs h1
    obtain ⟨k, rfl, hk⟩ := wt_int Go.Proofs.Try.underlying3 h2
    refine ⟨⟨l0, l1, k⟩, ?_, b0, b1⟩
    simp only [dv, dvC, V.cells, e0, e1, List.append_nil, moV, List.cons_append, List.nil_append]
theorem in_MOps {H : Type} {n : Nat} {d : DataW H} (h : wt Go.Proofs.Try.prog n 24 d) : ∃ l : List MOp, dv d = .sl .p (l.map moV) ∧ l.length ≤ 17592186044416 ∧ ∀ t ∈ l, t.pre.length ≤ 17592186044416 ∧ t.post.length ≤ 17592186044416 := by
  obtain ⟨l, h1, h2, h3⟩ := wt_sl Go.Proofs.Try.underlying24 in_MOp h
  rw [by_MOp] at h2
  exact ⟨l, h1, by omega, h3⟩
theorem in_MTask {H : Type} {n : Nat} {d : DataW H} (h : wt Go.Proofs.Try.prog n 26 d) : ∃ t : MTask, dv d = mtV t ∧ MOk t := by
  obtain ⟨parts, m, rfl, hp⟩ := wt_st Go.Proofs.Try.underlying26 h
  match parts, hp with
  | [d0, d1, d2, d3], hp =>
    obtain ⟨h0, h1, h2, h3, _⟩ := hp
    obtain ⟨l0, e0, b0⟩ := in_Ints h0
    obtain ⟨l1, e1, b1⟩ := in_Ints h1
    obtain ⟨l2, e2, b2⟩ := in_Asgs h2
    obtain ⟨l3, e3, b3, b4⟩ := in_MOps h3
    refine ⟨⟨l0, l1, l2, l3⟩, ?_, ?_⟩
    · simp only [dv, dvC, V.cells, e0, e1, e2, e3, List.append_nil, mtV, List.cons_append, List.nil_append]
    · exact ⟨Nat.le_trans b0 (by decide), Nat.le_trans b1 (by decide), Nat.le_trans b2 (by decide), Nat.le_trans b3 (by decide), fun o ho => ⟨Nat.le_trans (b4 o ho).1 (by decide), Nat.le_trans (b4 o ho).2 (by decide)⟩⟩
end Hm
end
