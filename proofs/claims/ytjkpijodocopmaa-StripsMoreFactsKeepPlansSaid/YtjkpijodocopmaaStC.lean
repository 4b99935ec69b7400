/- Contracts: the reference for steps and plans; the closed example. -/
import Derived.Test.YtjkpijodocopmaaStB
import Derived.Test.YtjkpijodocopmaaStA
import Derived.Test.YtjkpijodocopmaaCoreC
section
/- Contracts: the reference for steps and plans; the closed example. -/
namespace Hm
open Go
set_option maxRecDepth 100000
set_option maxHeartbeats 2000000
set_option linter.unusedSimpArgs false
set_option linter.unusedVariables false
theorem f_Ints_same (xs : List Int) (hl : xs.length ≤ 140737488355328) : Fc Go.Proofs.Try.prog 15 [.sl .p (xs.map i64V), .sl .p (xs.map i64V)] (.bool true) := by
  have := f_R1_Ints xs xs hl
  simpa using this
def updAt (s add del : List Int) (i : Nat) : Bool := decide ((i : Int) ∈ add) || (decide ((i : Int) ∈ s) && !decide ((i : Int) ∈ del))
theorem updL_eq {n : Nat} {s add del : List Int} (hs : IsSet n s) (ha : IsSet n add) : updL s add del = selK (updAt s add del) n :=
  updL_sel hs ha _ fun i _ => by simp [updAt]
theorem updL_eqF {t : STask} (hv : SV t) {s add del : List Int} (hs : IsSet t.facts s) (ha : IsSet t.facts add) : updL s add del = selK (updAt s add del) t.facts.toNat := by
  refine updL_eq ?_ ?_ <;> rw [facts_nat hv] <;> assumption
theorem updL_c {n : Nat} {s add del r : List Int} (h1 : isSetB n s = true) (h2 : isSetB n add = true) (h : selK (updAt s add del) n = r) : updL s add del = r := (updL_eq (isSet_of h1) (isSet_of h2)).trans h
def c_R1_After : Cmd :=
  (.seq
   (.ops [
   .op (some 3) none (.box 1216196 4 (.t 0)),
   .op (some 6) none (.mov (.c (.sl .nil [])))])
   (.cut
   (.seq
   (.ops [
   .op (some 7) none (.newVec 1216449)])
   (.cut
   (.seq
   (.seq
   (.ops [
   .op (some 8) none (.mov (.c (.int .i64 (0))))])
   (.cut
   (.block 0
   (.loop
   (.seq
   (.seq
   (.ops [
   .op (some 9) none (.mov (.t 8)),
   .op (some 10) none (.faddr 0 (.t 3)),
   .op (some 11) none (.load false 1 (.t 10)),
   .op (some 12) none (.bin .lss false [] (.t 9) (.t 11))])
   (.cut
   (.cond (.t 12)
   .skip
   (.exit 0))))
   (.cut
   (.seq
   (.block 1
   (.seq
   (.ops [
   .op (some 15) none (.faddr 3 (.t 3)),
   .op (some 16) none (.load false 1 (.t 15)),
   .op (some 17) none (.mov (.t 2)),
   .op (some 18) none (.iaddr 4 (.t 16) (.t 17)),
   .op (some 19) none (.faddr 1 (.t 18)),
   .op (some 20) none (.load false 1 (.t 19)),
   .op (some 21) none (.mov (.t 8)),
   .op (some 22) none (.call .f (.c (.fn 22 [])) [.t 20, .t 21]),
   .op (some 23) none (.mov (.t 22)),
   .op (some 24) (some (23, false)) (.mov (.t 1)),
   .op (some 25) (some (23, false)) (.mov (.t 8)),
   .op (some 26) (some (23, false)) (.call .f (.c (.fn 22 [])) [.t 24, .t 25]),
   .op (some 27) (some (23, false)) (.mov (.t 26)),
   .op (some 28) (some (27, true)) (.faddr 3 (.t 3)),
   .op (some 29) (some (27, true)) (.load false 1 (.t 28)),
   .op (some 30) (some (27, true)) (.mov (.t 2)),
   .op (some 31) (some (27, true)) (.iaddr 4 (.t 29) (.t 30)),
   .op (some 32) (some (27, true)) (.faddr 2 (.t 31)),
   .op (some 33) (some (27, true)) (.load false 1 (.t 32)),
   .op (some 34) (some (27, true)) (.mov (.t 8)),
   .op (some 35) (some (27, true)) (.call .f (.c (.fn 22 [])) [.t 33, .t 34]),
   .op (some 36) (some (27, true)) (.not (.t 35)),
   .op (some 37) (some (23, false)) (.pick (.t 27) (.t 36) (.c (.bool false))),
   .op (some 38) none (.pick (.t 23) (.c (.bool true)) (.t 37))])
   (.cut
   (.cond (.t 38)
   (.ops [
   .op (some 39) none (.mov (.t 7)),
   .op (some 40) none (.mov (.t 8)),
   .op (some 41) none (.bsl 1 [.t 40]),
   .op (some 42) none (.append 1 8 (.t 39) (.t 41)),
   .op (some 7) none (.mov (.t 42))])
   .skip))))
   (.cut
   (.ops [
   .op (some 13) none (.mov (.t 8)),
   .op (some 14) none (.bin .add false [] (.t 13) (.c (.int .i64 (1)))),
   .op (some 8) none (.mov (.t 14))])))))))))
   (.cut
   (.seq
   (.ops [
   .op (some 43) none (.mov (.t 7)),
   .op (some 6) none (.mov (.t 43))])
   .ret)))))))
def r_R1_After : List RVar := [.tmp 6]
def n_R1_After : Nat := 44
theorem k_R1_After : chkFn Go.Proofs.Try.prog 19 n_R1_After r_R1_After c_R1_After = true := by kernel_rfl
theorem f_R1_After (t : STask) (hv : SV t) (s : List Int) (hs : IsSet t.facts s) (op : Int) (h0 : 0 ≤ op) (o : SOp) (hc : t.ops[op.toNat]? = some o) : Fc Go.Proofs.Try.prog 19 [skV t, .sl .p (s.map i64V), .int .i64 op] (.sl .p ((updL s o.add o.del).map i64V)) := by
  have hoo := hv.op o (mem_get hc)
  have hsl := set_le hv hs
  have hal := set_le hv hoo.add
  have hdl := set_le hv hoo.del
  rw [updL_eqF hv hs hoo.add]
  have hf := facts_nat hv
  have hf1 := hv.f1
  generalize t.facts.toNat = n at *
  refine Fn.step mixed k_R1_After ?_
  repeat (first | refine i_len rfl ?_ | refine i_s rfl ?_ | refine i_lenm rfl rfl rfl ?_ | refine c_seq ?_ | refine c_cut0 ?_ | refine c_ops ?_ | refine i_nil ?_ | refine e_seq ?_ | refine e_block ?_ | refine c_block ?_ | refine c_skip ?_ | refine c_ret ?_ | refine c_exit ?_ | refine e_exit rfl ?_ | refine i_s0 rfl ?_ | refine c_leaf ?_ | refine i_gt rfl ?_ | refine i_gf rfl ?_ | refine i_gd rfl ?_ | refine c_t rfl ?_ | refine c_f rfl ?_ | refine i_conv rfl (by simp only [InR, List.length_map]; omega) ?_ | refine i_add rfl rfl (by simp only [InR, List.length_map]; omega) ?_ | refine i_sub rfl rfl (by simp only [InR, List.length_map]; omega) ?_ | refine i_ixm rfl rfl (by assumption) ?_ | refine i_iai rfl rfl (by omega) (by assumption) rfl ?_ | refine i_iam rfl rfl (by assumption) rfl ?_ | refine i_tk rfl rfl (by omega) ?_ | refine i_stb rfl ?_ | refine i_alloc rfl ?_ | refine i_box rfl rfl ?_ | refine i_nv rfl ?_)
  refine c_for n (fun k => [(1, .sl .p (s.map i64V)), (2, .int .i64 op), (3, .bptr 1216196 0), (7, .sl (.own 1216449) ((selK (updAt s o.add o.del) k).map i64V)), (8, .int .i64 k)]) (fun k => [(1216196, .box (skV t)), (1216449, .vec (selK (updAt s o.add o.del) k).length)]) (fun _ => True) trivial ⟨by repeat (first | exact trivial | refine ⟨rfl, ?_⟩), by repeat (first | exact trivial | refine ⟨rfl, ?_⟩), rfl⟩ fun k hk _ => ?_
  have hml := selK_len (updAt s o.add o.del) k
  have e := selK_succ (updAt s o.add o.del) k
  have e2 : updAt s o.add o.del k = (decide ((k : Int) ∈ o.add) || (decide ((k : Int) ∈ s) && !decide ((k : Int) ∈ o.del))) := rfl
  repeat (first | refine i_len rfl ?_ | refine i_s rfl ?_ | refine i_lenm rfl rfl rfl ?_ | refine c_seq ?_ | refine c_cut0 ?_ | refine c_ops ?_ | refine i_nil ?_ | refine e_seq ?_ | refine e_block ?_ | refine c_block ?_ | refine c_skip ?_ | refine c_ret ?_ | refine c_exit ?_ | refine e_exit rfl ?_ | refine i_s0 rfl ?_ | refine c_leaf ?_ | refine i_gt rfl ?_ | refine i_gf rfl ?_ | refine i_gd rfl ?_ | refine c_t rfl ?_ | refine c_f rfl ?_ | refine i_conv rfl (by simp only [InR, List.length_map]; omega) ?_ | refine i_add rfl rfl (by simp only [InR, List.length_map]; omega) ?_ | refine i_sub rfl rfl (by simp only [InR, List.length_map]; omega) ?_ | refine i_ixm rfl rfl (by assumption) ?_ | refine i_iai rfl rfl (by omega) (by assumption) rfl ?_ | refine i_iam rfl rfl (by assumption) rfl ?_ | refine i_tk rfl rfl (by omega) ?_ | refine i_stb rfl ?_ | refine i_alloc rfl ?_ | refine i_box rfl rfl ?_ | refine i_nv rfl ?_)
  refine c_cond rfl (fun h => ?_) (fun h => ?_)
  · have hlt : k < n := by have : (k : Int) < t.facts := by simpa using h
                           omega
    have hA := f_R1_Has o.add k (by omega)
    have hS := f_R1_Has s k (by omega)
    have hD := f_R1_Has o.del k (by omega)
    clear h hv hs hoo
    cases b1 : decide ((k : Int) ∈ o.add) <;> cases b2 : decide ((k : Int) ∈ s) <;> cases b3 : decide ((k : Int) ∈ o.del)
    all_goals
      rw [b1] at hA
      rw [b2] at hS
      rw [b3] at hD
      rw [b1, b2, b3] at e2
      rw [e2] at e
      clear e2 b1 b2 b3
      repeat (first | refine i_len rfl ?_ | refine i_s rfl ?_ | refine i_lenm rfl rfl rfl ?_ | refine c_seq ?_ | refine c_cut0 ?_ | refine c_ops ?_ | refine i_nil ?_ | refine e_seq ?_ | refine e_block ?_ | refine c_block ?_ | refine c_skip ?_ | refine c_ret ?_ | refine c_exit ?_ | refine e_exit rfl ?_ | refine i_s0 rfl ?_ | refine c_leaf ?_ | refine i_gt rfl ?_ | refine i_gf rfl ?_ | refine i_gd rfl ?_ | refine c_t rfl ?_ | refine c_f rfl ?_ | refine i_conv rfl (by simp only [InR, List.length_map]; omega) ?_ | refine i_add rfl rfl (by simp only [InR, List.length_map]; omega) ?_ | refine i_sub rfl rfl (by simp only [InR, List.length_map]; omega) ?_ | refine i_ixm rfl rfl (by assumption) ?_ | refine i_iai rfl rfl (by omega) (by assumption) rfl ?_ | refine i_iam rfl rfl (by assumption) rfl ?_ | refine i_tk rfl rfl (by omega) ?_ | refine i_stb rfl ?_ | refine i_alloc rfl ?_ | refine i_box rfl rfl ?_ | refine i_nv rfl ?_ | refine i_f rfl rfl (hA) rfl ?_ | refine i_f rfl rfl (hS) rfl ?_ | refine i_f rfl rfl (hD) rfl ?_)
      first
        | (refine i_appM rfl rfl rfl rfl rfl (by omega) (by omega) ?_
           repeat (first | refine i_len rfl ?_ | refine i_s rfl ?_ | refine i_lenm rfl rfl rfl ?_ | refine c_seq ?_ | refine c_cut0 ?_ | refine c_ops ?_ | refine i_nil ?_ | refine e_seq ?_ | refine e_block ?_ | refine c_block ?_ | refine c_skip ?_ | refine c_ret ?_ | refine c_exit ?_ | refine e_exit rfl ?_ | refine i_s0 rfl ?_ | refine c_leaf ?_ | refine i_gt rfl ?_ | refine i_gf rfl ?_ | refine i_gd rfl ?_ | refine c_t rfl ?_ | refine c_f rfl ?_ | refine i_conv rfl (by simp only [InR, List.length_map]; omega) ?_ | refine i_add rfl rfl (by simp only [InR, List.length_map]; omega) ?_ | refine i_sub rfl rfl (by simp only [InR, List.length_map]; omega) ?_ | refine i_ixm rfl rfl (by assumption) ?_ | refine i_iai rfl rfl (by omega) (by assumption) rfl ?_ | refine i_iam rfl rfl (by assumption) rfl ?_ | refine i_tk rfl rfl (by omega) ?_ | refine i_stb rfl ?_ | refine i_alloc rfl ?_ | refine i_box rfl rfl ?_ | refine i_nv rfl ?_)
           refine e_for hlt trivial ⟨⟨rfl, rfl, rfl, ?_, rfl, trivial⟩, ⟨rfl, ?_, trivial⟩, rfl⟩
           · rw [e]; rfl
           · rw [e]; simp; rfl)
        | (refine e_for hlt trivial ⟨⟨rfl, rfl, rfl, ?_, rfl, trivial⟩, ⟨rfl, ?_, trivial⟩, rfl⟩
           · rw [e]; simp; rfl
           · rw [e]; simp; rfl)
  · have hge : k = n := by have : ¬ (k : Int) < t.facts := by simpa using h
                           omega
    subst hge
    repeat (first | refine i_len rfl ?_ | refine i_s rfl ?_ | refine i_lenm rfl rfl rfl ?_ | refine c_seq ?_ | refine c_cut0 ?_ | refine c_ops ?_ | refine i_nil ?_ | refine e_seq ?_ | refine e_block ?_ | refine c_block ?_ | refine c_skip ?_ | refine c_ret ?_ | refine c_exit ?_ | refine e_exit rfl ?_ | refine i_s0 rfl ?_ | refine c_leaf ?_ | refine i_gt rfl ?_ | refine i_gf rfl ?_ | refine i_gd rfl ?_ | refine c_t rfl ?_ | refine c_f rfl ?_ | refine i_conv rfl (by simp only [InR, List.length_map]; omega) ?_ | refine i_add rfl rfl (by simp only [InR, List.length_map]; omega) ?_ | refine i_sub rfl rfl (by simp only [InR, List.length_map]; omega) ?_ | refine i_ixm rfl rfl (by assumption) ?_ | refine i_iai rfl rfl (by omega) (by assumption) rfl ?_ | refine i_iam rfl rfl (by assumption) rfl ?_ | refine i_tk rfl rfl (by omega) ?_ | refine i_stb rfl ?_ | refine i_alloc rfl ?_ | refine i_box rfl rfl ?_ | refine i_nv rfl ?_)
    exact e_ret ⟨rfl, _, rfl, rfl⟩
def endV (o : Option (List Int)) : V := match o with
  | some e => .tup [.sl .p (e.map i64V), .bool true]
  | none => .tup [.sl .p [], .bool false]
def c_R1_Ends : Cmd :=
  (.seq
   (.ops [
   .op (some 3) none (.box 1856196 4 (.t 0)),
   .op (some 6) none (.mov (.c (.sl .nil []))),
   .op (some 7) none (.mov (.c (.bool false)))])
   (.cut
   (.seq
   (.seq
   (.ops [
   .op (some 8) none (.mov (.c (.int .i64 (0))))])
   (.cut
   (.block 0
   (.loop
   (.seq
   (.seq
   (.ops [
   .op (some 9) none (.mov (.t 8)),
   .op (some 10) none (.mov (.t 2)),
   .op (some 11) none (.len false (.t 10)),
   .op (some 12) none (.bin .lss false [] (.t 9) (.t 11))])
   (.cut
   (.cond (.t 12)
   .skip
   (.exit 0))))
   (.cut
   (.seq
   (.block 1
   (.seq
   (.seq
   (.ops [
   .op (some 15) none (.load true 4 (.t 3)),
   .op (some 16) none (.mov (.t 1)),
   .op (some 17) none (.mov (.t 2)),
   .op (some 18) none (.mov (.t 8)),
   .op (some 19) none (.iaddr 1 (.t 17) (.t 18)),
   .op (some 20) none (.load false 1 (.t 19)),
   .op (some 21) none (.call .f (.c (.fn 14 [])) [.t 15, .t 16, .t 20]),
   .op (some 22) none (.not (.t 21))])
   (.cut
   (.cond (.t 22)
   (.seq
   (.ops [
   .op (some 6) none (.mov (.c (.sl .nil []))),
   .op (some 7) none (.mov (.c (.bool false)))])
   .ret)
   .skip)))
   (.cut
   (.ops [
   .op (some 23) none (.load true 4 (.t 3)),
   .op (some 24) none (.mov (.t 1)),
   .op (some 25) none (.mov (.t 2)),
   .op (some 26) none (.mov (.t 8)),
   .op (some 27) none (.iaddr 1 (.t 25) (.t 26)),
   .op (some 28) none (.load false 1 (.t 27)),
   .op (some 29) none (.call .f (.c (.fn 19 [])) [.t 23, .t 24, .t 28]),
   .op (some 1) none (.mov (.t 29))]))))
   (.cut
   (.ops [
   .op (some 13) none (.mov (.t 8)),
   .op (some 14) none (.bin .add false [] (.t 13) (.c (.int .i64 (1)))),
   .op (some 8) none (.mov (.t 14))])))))))))
   (.cut
   (.seq
   (.ops [
   .op (some 30) none (.mov (.t 1)),
   .op (some 6) none (.mov (.t 30)),
   .op (some 7) none (.mov (.c (.bool true)))])
   .ret)))))
def r_R1_Ends : List RVar := [.tmp 6, .tmp 7]
def n_R1_Ends : Nat := 31
theorem k_R1_Ends : chkFn Go.Proofs.Try.prog 29 n_R1_Ends r_R1_Ends c_R1_Ends = true := by kernel_rfl
theorem f_R1_Ends (t : STask) (hv : SV t) (s : List Int) (hs : IsSet t.facts s) (plan : List Int) (hl : plan.length ≤ 1000000) (hp : ∀ x ∈ plan, 0 ≤ x ∧ x < t.ops.length) : Fc Go.Proofs.Try.prog 29 [skV t, .sl .p (s.map i64V), .sl .p (plan.map i64V)] (endV (endS t s plan)) := by
  refine Fn.step mixed k_R1_Ends ?_
  repeat (first | refine i_len rfl ?_ | refine i_s rfl ?_ | refine i_lenm rfl rfl rfl ?_ | refine c_seq ?_ | refine c_cut0 ?_ | refine c_ops ?_ | refine i_nil ?_ | refine e_seq ?_ | refine e_block ?_ | refine c_block ?_ | refine c_skip ?_ | refine c_ret ?_ | refine c_exit ?_ | refine e_exit rfl ?_ | refine i_s0 rfl ?_ | refine c_leaf ?_ | refine i_gt rfl ?_ | refine i_gf rfl ?_ | refine i_gd rfl ?_ | refine c_t rfl ?_ | refine c_f rfl ?_ | refine i_conv rfl (by simp only [InR, List.length_map]; omega) ?_ | refine i_add rfl rfl (by simp only [InR, List.length_map]; omega) ?_ | refine i_sub rfl rfl (by simp only [InR, List.length_map]; omega) ?_ | refine i_ixm rfl rfl (by assumption) ?_ | refine i_iai rfl rfl (by omega) (by assumption) rfl ?_ | refine i_iam rfl rfl (by assumption) rfl ?_ | refine i_tk rfl rfl (by omega) ?_ | refine i_stb rfl ?_ | refine i_alloc rfl ?_ | refine i_box rfl rfl ?_ | refine i_nv rfl ?_)
  refine c_lp (ι := Nat × List Int) (fun i => [(1, .sl .p (i.2.map i64V)), (2, .sl .p (plan.map i64V)), (3, .bptr 1856196 0), (8, .int .i64 i.1)])
    (fun i => [(1856196, .box (skV t))])
    (fun i => i.1 ≤ plan.length ∧ IsSet t.facts i.2 ∧ endS t i.2 (plan.drop i.1) = endS t s plan) (fun i => plan.length - i.1) (0, s) ⟨Nat.zero_le _, hs, rfl⟩ ⟨by repeat (first | exact trivial | refine ⟨rfl, ?_⟩), by repeat (first | exact trivial | refine ⟨rfl, ?_⟩), rfl⟩ fun i hi => ?_
  obtain ⟨k, u⟩ := i
  obtain ⟨h1, h3, h4⟩ := hi
  simp only at h1 h3 h4
  have hul := set_le hv h3
  clear hs
  repeat (first | refine i_len rfl ?_ | refine i_s rfl ?_ | refine i_lenm rfl rfl rfl ?_ | refine c_seq ?_ | refine c_cut0 ?_ | refine c_ops ?_ | refine i_nil ?_ | refine e_seq ?_ | refine e_block ?_ | refine c_block ?_ | refine c_skip ?_ | refine c_ret ?_ | refine c_exit ?_ | refine e_exit rfl ?_ | refine i_s0 rfl ?_ | refine c_leaf ?_ | refine i_gt rfl ?_ | refine i_gf rfl ?_ | refine i_gd rfl ?_ | refine c_t rfl ?_ | refine c_f rfl ?_ | refine i_conv rfl (by simp only [InR, List.length_map]; omega) ?_ | refine i_add rfl rfl (by simp only [InR, List.length_map]; omega) ?_ | refine i_sub rfl rfl (by simp only [InR, List.length_map]; omega) ?_ | refine i_ixm rfl rfl (by assumption) ?_ | refine i_iai rfl rfl (by omega) (by assumption) rfl ?_ | refine i_iam rfl rfl (by assumption) rfl ?_ | refine i_tk rfl rfl (by omega) ?_ | refine i_stb rfl ?_ | refine i_alloc rfl ?_ | refine i_box rfl rfl ?_ | refine i_nv rfl ?_)
  refine c_cond rfl (fun h => ?_) (fun h => ?_)
  · have hlt : k < plan.length := by simpa using h
    obtain ⟨x, hx⟩ := get_some hlt
    obtain ⟨x0, x1⟩ := hp x (mem_get hx)
    obtain ⟨o, hc⟩ := get_some (l := t.ops) (k := x.toNat) (by omega)
    have hoo := hv.op o (mem_get hc)
    have hA := f_R1_Applies t u (by omega) x x0 o hc (by have := set_le hv hoo.pre; omega)
    have hN := f_R1_After t hv u h3 x x0 o hc
    have ed : plan.drop k = x :: plan.drop (k + 1) := by
      obtain ⟨h5, h6⟩ := List.getElem?_eq_some_iff.1 hx
      rw [← h6]; exact List.drop_eq_getElem_cons hlt
    have hst := stepS_op (s := u) hc
    rw [ed] at h4
    simp only [endS, hst] at h4
    clear h
    cases hi : inclB o.pre u with
    | true =>
      rw [hi] at hA
      rw [hi, if_pos rfl] at h4
      repeat (first | refine i_len rfl ?_ | refine i_s rfl ?_ | refine i_lenm rfl rfl rfl ?_ | refine c_seq ?_ | refine c_cut0 ?_ | refine c_ops ?_ | refine i_nil ?_ | refine e_seq ?_ | refine e_block ?_ | refine c_block ?_ | refine c_skip ?_ | refine c_ret ?_ | refine c_exit ?_ | refine e_exit rfl ?_ | refine i_s0 rfl ?_ | refine c_leaf ?_ | refine i_gt rfl ?_ | refine i_gf rfl ?_ | refine i_gd rfl ?_ | refine c_t rfl ?_ | refine c_f rfl ?_ | refine i_conv rfl (by simp only [InR, List.length_map]; omega) ?_ | refine i_add rfl rfl (by simp only [InR, List.length_map]; omega) ?_ | refine i_sub rfl rfl (by simp only [InR, List.length_map]; omega) ?_ | refine i_ixm rfl rfl (by assumption) ?_ | refine i_iai rfl rfl (by omega) (by assumption) rfl ?_ | refine i_iam rfl rfl (by assumption) rfl ?_ | refine i_tk rfl rfl (by omega) ?_ | refine i_stb rfl ?_ | refine i_alloc rfl ?_ | refine i_box rfl rfl ?_ | refine i_nv rfl ?_ | refine i_f rfl rfl (hA) rfl ?_ | refine i_f rfl rfl (hN) rfl ?_)
      exact e_lp (k + 1, updL u o.add o.del) ⟨hlt, updL_set h3 hoo.add, h4⟩ (by simp only; omega) ⟨by repeat (first | exact trivial | refine ⟨rfl, ?_⟩), by repeat (first | exact trivial | refine ⟨rfl, ?_⟩), rfl⟩
    | false =>
      rw [hi] at hA
      rw [hi, if_neg (by simp)] at h4
      repeat (first | refine i_len rfl ?_ | refine i_s rfl ?_ | refine i_lenm rfl rfl rfl ?_ | refine c_seq ?_ | refine c_cut0 ?_ | refine c_ops ?_ | refine i_nil ?_ | refine e_seq ?_ | refine e_block ?_ | refine c_block ?_ | refine c_skip ?_ | refine c_ret ?_ | refine c_exit ?_ | refine e_exit rfl ?_ | refine i_s0 rfl ?_ | refine c_leaf ?_ | refine i_gt rfl ?_ | refine i_gf rfl ?_ | refine i_gd rfl ?_ | refine c_t rfl ?_ | refine c_f rfl ?_ | refine i_conv rfl (by simp only [InR, List.length_map]; omega) ?_ | refine i_add rfl rfl (by simp only [InR, List.length_map]; omega) ?_ | refine i_sub rfl rfl (by simp only [InR, List.length_map]; omega) ?_ | refine i_ixm rfl rfl (by assumption) ?_ | refine i_iai rfl rfl (by omega) (by assumption) rfl ?_ | refine i_iam rfl rfl (by assumption) rfl ?_ | refine i_tk rfl rfl (by omega) ?_ | refine i_stb rfl ?_ | refine i_alloc rfl ?_ | refine i_box rfl rfl ?_ | refine i_nv rfl ?_ | refine i_f rfl rfl (hA) rfl ?_ | refine i_f rfl rfl (hN) rfl ?_)
      exact e_ret ⟨rfl, _, rfl, by rw [← h4]; rfl⟩
  · have hge : k = plan.length := by have : ¬ k < plan.length := by simpa using h
                                     omega
    subst hge
    rw [List.drop_length] at h4
    simp only [endS] at h4
    repeat (first | refine i_len rfl ?_ | refine i_s rfl ?_ | refine i_lenm rfl rfl rfl ?_ | refine c_seq ?_ | refine c_cut0 ?_ | refine c_ops ?_ | refine i_nil ?_ | refine e_seq ?_ | refine e_block ?_ | refine c_block ?_ | refine c_skip ?_ | refine c_ret ?_ | refine c_exit ?_ | refine e_exit rfl ?_ | refine i_s0 rfl ?_ | refine c_leaf ?_ | refine i_gt rfl ?_ | refine i_gf rfl ?_ | refine i_gd rfl ?_ | refine c_t rfl ?_ | refine c_f rfl ?_ | refine i_conv rfl (by simp only [InR, List.length_map]; omega) ?_ | refine i_add rfl rfl (by simp only [InR, List.length_map]; omega) ?_ | refine i_sub rfl rfl (by simp only [InR, List.length_map]; omega) ?_ | refine i_ixm rfl rfl (by assumption) ?_ | refine i_iai rfl rfl (by omega) (by assumption) rfl ?_ | refine i_iam rfl rfl (by assumption) rfl ?_ | refine i_tk rfl rfl (by omega) ?_ | refine i_stb rfl ?_ | refine i_alloc rfl ?_ | refine i_box rfl rfl ?_ | refine i_nv rfl ?_)
    exact e_ret ⟨rfl, _, rfl, by rw [← h4]; rfl⟩
def c_R1_Works : Cmd :=
  (.seq
   (.ops [
   .op (some 3) none (.box 2944196 4 (.t 0)),
   .op (some 6) none (.mov (.c (.bool false)))])
   (.cut
   (.seq
   (.ops [
   .op (some 10) none (.load true 4 (.t 3)),
   .op (some 11) none (.mov (.t 1)),
   .op (some 12) none (.mov (.t 2)),
   .op (some 13) none (.call .f (.c (.fn 29 [])) [.t 10, .t 11, .t 12]),
   .op (some 9) none (.mov (.t 13)),
   .op (some 14) none (.extract (.t 9) 0),
   .op (some 15) none (.extract (.t 9) 1),
   .op (some 7) none (.mov (.t 14)),
   .op (some 8) none (.mov (.t 15))])
   (.cut
   (.seq
   (.ops [
   .op (some 16) none (.mov (.t 8)),
   .op (some 17) none (.mov (.t 16)),
   .op (some 18) (some (17, true)) (.faddr 2 (.t 3)),
   .op (some 19) (some (17, true)) (.load false 1 (.t 18)),
   .op (some 20) (some (17, true)) (.mov (.t 7)),
   .op (some 21) (some (17, true)) (.call .f (.c (.fn 31 [])) [.t 19, .t 20]),
   .op (some 22) none (.pick (.t 17) (.t 21) (.c (.bool false))),
   .op (some 6) none (.mov (.t 22))])
   .ret)))))
def r_R1_Works : List RVar := [.tmp 6]
def n_R1_Works : Nat := 23
theorem k_R1_Works : chkFn Go.Proofs.Try.prog 46 n_R1_Works r_R1_Works c_R1_Works = true := by kernel_rfl
theorem f_R1_Works (t : STask) (hv : SV t) (s : List Int) (hs : IsSet t.facts s) (plan : List Int) (hl : plan.length ≤ 1000000) (hp : ∀ x ∈ plan, 0 ≤ x ∧ x < t.ops.length) : Fc Go.Proofs.Try.prog 46 [skV t, .sl .p (s.map i64V), .sl .p (plan.map i64V)] (.bool (worksB t s plan)) := by
  have hE := f_R1_Ends t hv s hs plan hl hp
  have hgl := set_le hv hv.goal
  unfold worksB
  cases he : endS t s plan with
  | some e =>
    have hel := set_le hv (endS_set hv plan s e hs he)
    have hS := f_R1_Subset t.goal e (by omega) (by omega)
    rw [he] at hE
    refine Fn.step mixed k_R1_Works ?_
    repeat' (first | refine i_len rfl ?_ | refine i_s rfl ?_ | refine i_lenm rfl rfl rfl ?_ | refine c_seq ?_ | refine c_cut0 ?_ | refine c_ops ?_ | refine i_nil ?_ | refine e_seq ?_ | refine e_block ?_ | refine c_block ?_ | refine c_skip ?_ | refine c_ret ?_ | refine c_exit ?_ | refine e_exit rfl ?_ | refine i_s0 rfl ?_ | refine c_leaf ?_ | refine i_gt rfl ?_ | refine i_gf rfl ?_ | refine i_gd rfl ?_ | refine c_t rfl ?_ | refine c_f rfl ?_ | refine i_conv rfl (by simp only [InR, List.length_map]; omega) ?_ | refine i_add rfl rfl (by simp only [InR, List.length_map]; omega) ?_ | refine i_sub rfl rfl (by simp only [InR, List.length_map]; omega) ?_ | refine i_ixm rfl rfl (by assumption) ?_ | refine i_iai rfl rfl (by omega) (by assumption) rfl ?_ | refine i_iam rfl rfl (by assumption) rfl ?_ | refine i_tk rfl rfl (by omega) ?_ | refine i_stb rfl ?_ | refine i_alloc rfl ?_ | refine i_box rfl rfl ?_ | refine i_nv rfl ?_ | refine c_node ?_ ?_ | refine i_g rfl (fun h => ?_) (fun h => ?_) | refine c_cond rfl (fun h => ?_) (fun h => ?_) | refine i_f rfl rfl (hE) rfl ?_ | refine i_f rfl rfl (hS) rfl ?_)
    exact e_ret ⟨rfl, _, rfl, rfl⟩
  | none =>
    rw [he] at hE
    refine Fn.step mixed k_R1_Works ?_
    repeat' (first | refine i_len rfl ?_ | refine i_s rfl ?_ | refine i_lenm rfl rfl rfl ?_ | refine c_seq ?_ | refine c_cut0 ?_ | refine c_ops ?_ | refine i_nil ?_ | refine e_seq ?_ | refine e_block ?_ | refine c_block ?_ | refine c_skip ?_ | refine c_ret ?_ | refine c_exit ?_ | refine e_exit rfl ?_ | refine i_s0 rfl ?_ | refine c_leaf ?_ | refine i_gt rfl ?_ | refine i_gf rfl ?_ | refine i_gd rfl ?_ | refine c_t rfl ?_ | refine c_f rfl ?_ | refine i_conv rfl (by simp only [InR, List.length_map]; omega) ?_ | refine i_add rfl rfl (by simp only [InR, List.length_map]; omega) ?_ | refine i_sub rfl rfl (by simp only [InR, List.length_map]; omega) ?_ | refine i_ixm rfl rfl (by assumption) ?_ | refine i_iai rfl rfl (by omega) (by assumption) rfl ?_ | refine i_iam rfl rfl (by assumption) rfl ?_ | refine i_tk rfl rfl (by omega) ?_ | refine i_stb rfl ?_ | refine i_alloc rfl ?_ | refine i_box rfl rfl ?_ | refine i_nv rfl ?_ | refine c_node ?_ ?_ | refine i_g rfl (fun h => ?_) (fun h => ?_) | refine c_cond rfl (fun h => ?_) (fun h => ?_) | refine i_f rfl rfl (hE) rfl ?_)
    exact e_ret ⟨rfl, _, rfl, rfl⟩
def c_R1_Solves : Cmd :=
  (.seq
   (.ops [
   .op (some 2) none (.box 1664132 4 (.t 0)),
   .op (some 4) none (.mov (.c (.bool false)))])
   (.cut
   (.seq
   (.ops [
   .op (some 5) none (.load true 4 (.t 2)),
   .op (some 6) none (.faddr 1 (.t 2)),
   .op (some 7) none (.load false 1 (.t 6)),
   .op (some 8) none (.mov (.t 1)),
   .op (some 9) none (.call .f (.c (.fn 46 [])) [.t 5, .t 7, .t 8]),
   .op (some 4) none (.mov (.t 9))])
   .ret)))
def r_R1_Solves : List RVar := [.tmp 4]
def n_R1_Solves : Nat := 10
theorem k_R1_Solves : chkFn Go.Proofs.Try.prog 26 n_R1_Solves r_R1_Solves c_R1_Solves = true := by kernel_rfl
theorem f_R1_Solves (t : STask) (hv : SV t) (plan : List Int) (hl : plan.length ≤ 1000000) (hp : ∀ x ∈ plan, 0 ≤ x ∧ x < t.ops.length) : Fc Go.Proofs.Try.prog 26 [skV t, .sl .p (plan.map i64V)] (.bool (worksB t t.init plan)) := by
  have hW := f_R1_Works t hv t.init hv.init plan hl hp
  refine Fn.step mixed k_R1_Solves ?_
  repeat' (first | refine i_len rfl ?_ | refine i_s rfl ?_ | refine i_lenm rfl rfl rfl ?_ | refine c_seq ?_ | refine c_cut0 ?_ | refine c_ops ?_ | refine i_nil ?_ | refine e_seq ?_ | refine e_block ?_ | refine c_block ?_ | refine c_skip ?_ | refine c_ret ?_ | refine c_exit ?_ | refine e_exit rfl ?_ | refine i_s0 rfl ?_ | refine c_leaf ?_ | refine i_gt rfl ?_ | refine i_gf rfl ?_ | refine i_gd rfl ?_ | refine c_t rfl ?_ | refine c_f rfl ?_ | refine i_conv rfl (by simp only [InR, List.length_map]; omega) ?_ | refine i_add rfl rfl (by simp only [InR, List.length_map]; omega) ?_ | refine i_sub rfl rfl (by simp only [InR, List.length_map]; omega) ?_ | refine i_ixm rfl rfl (by assumption) ?_ | refine i_iai rfl rfl (by omega) (by assumption) rfl ?_ | refine i_iam rfl rfl (by assumption) rfl ?_ | refine i_tk rfl rfl (by omega) ?_ | refine i_stb rfl ?_ | refine i_alloc rfl ?_ | refine i_box rfl rfl ?_ | refine i_nv rfl ?_ | refine c_node ?_ ?_ | refine i_g rfl (fun h => ?_) (fun h => ?_) | refine c_cond rfl (fun h => ?_) (fun h => ?_) | refine i_f rfl rfl (hW) rfl ?_)
  exact e_ret ⟨rfl, _, rfl, rfl⟩
def acT : STask := ⟨3, [0], [2], [⟨[0], [1], [0], 2⟩, ⟨[1], [2], [1], 3⟩]⟩
theorem ac_ok : SkOk acT := by
  refine ⟨by decide, by decide, by decide, fun o ho => ?_⟩
  simp only [acT, List.mem_cons, List.not_mem_nil, or_false] at ho
  rcases ho with rfl | rfl <;> exact ⟨by decide, by decide, by decide⟩
def c_L1_steps : Cmd :=
  (.seq
   (.ops [
   .op (some 0) none (.alloc 2176004 (.agg [.int .i64 (0), .sl .nil [], .sl .nil [], .sl .nil []]))])
   (.cut
   (.seq
   (.ops [
   .op (some 1) none (.bsl 1 [.c (.int .i64 (0))]),
   .op (some 2) none (.bsl 1 [.c (.int .i64 (2))]),
   .op (some 3) none (.bsl 1 [.c (.int .i64 (0))]),
   .op (some 4) none (.bsl 1 [.c (.int .i64 (1))]),
   .op (some 5) none (.bsl 1 [.c (.int .i64 (0))]),
   .op (some 6) none (.build [.sl .nil [], .sl .nil [], .sl .nil [], .int .i64 (0)] [(0, 1, .t 3), (1, 1, .t 4), (2, 1, .t 5), (3, 1, .c (.int .i64 (2)))]),
   .op (some 7) none (.bsl 1 [.c (.int .i64 (1))]),
   .op (some 8) none (.bsl 1 [.c (.int .i64 (2))]),
   .op (some 9) none (.bsl 1 [.c (.int .i64 (1))]),
   .op (some 10) none (.build [.sl .nil [], .sl .nil [], .sl .nil [], .int .i64 (0)] [(0, 1, .t 7), (1, 1, .t 8), (2, 1, .t 9), (3, 1, .c (.int .i64 (3)))]),
   .op (some 11) none (.bsl 4 [.t 6, .t 10]),
   .op (some 12) none (.build [.int .i64 (0), .sl .nil [], .sl .nil [], .sl .nil []] [(0, 1, .c (.int .i64 (3))), (1, 1, .t 1), (2, 1, .t 2), (3, 1, .t 11)]),
   .op none none (.store 4 (.t 0) (.t 12))])
   .ret)))
def r_L1_steps : List RVar := [.cell true 4 0]
def n_L1_steps : Nat := 13
theorem k_L1_steps : chkFn Go.Proofs.Try.prog 34 n_L1_steps r_L1_steps c_L1_steps = true := by kernel_rfl
theorem f_L1_steps : Fc Go.Proofs.Try.prog 34 [] (skV acT) := by
  refine Fn.step mixed k_L1_steps ?_
  repeat' (first | refine i_len rfl ?_ | refine i_s rfl ?_ | refine i_lenm rfl rfl rfl ?_ | refine c_seq ?_ | refine c_cut0 ?_ | refine c_ops ?_ | refine i_nil ?_ | refine e_seq ?_ | refine e_block ?_ | refine c_block ?_ | refine c_skip ?_ | refine c_ret ?_ | refine c_exit ?_ | refine e_exit rfl ?_ | refine i_s0 rfl ?_ | refine c_leaf ?_ | refine i_gt rfl ?_ | refine i_gf rfl ?_ | refine i_gd rfl ?_ | refine c_t rfl ?_ | refine c_f rfl ?_ | refine i_conv rfl (by simp only [InR, List.length_map]; omega) ?_ | refine i_add rfl rfl (by simp only [InR, List.length_map]; omega) ?_ | refine i_sub rfl rfl (by simp only [InR, List.length_map]; omega) ?_ | refine i_ixm rfl rfl (by assumption) ?_ | refine i_iai rfl rfl (by omega) (by assumption) rfl ?_ | refine i_iam rfl rfl (by assumption) rfl ?_ | refine i_tk rfl rfl (by omega) ?_ | refine i_stb rfl ?_ | refine i_alloc rfl ?_ | refine i_box rfl rfl ?_ | refine i_nv rfl ?_ | refine c_node ?_ ?_ | refine i_g rfl (fun h => ?_) (fun h => ?_) | refine c_cond rfl (fun h => ?_) (fun h => ?_))
  exact e_ret ⟨rfl, _, rfl, rfl⟩
theorem ac_f : sFault acT = okF := by decide +kernel
theorem ac_s01 : stFault acT [0, 1] = okF := by decide +kernel
theorem ac_s0 : stFault acT [0] = okF := by decide +kernel
theorem ac_s2 : stFault acT [2] = okF := by decide +kernel
theorem ac_p : plFault acT [0, 1] = okF := by decide +kernel
theorem ac_u1 : updL [0] [1] [0] = [1] := updL_c (n := 3) (by decide +kernel) (by decide +kernel) (by decide +kernel)
theorem ac_u2 : updL [1] [2] [1] = [2] := updL_c (n := 3) (by decide +kernel) (by decide +kernel) (by decide +kernel)
theorem ac_u3 : updL [2] [1] [2] = [1] := updL_c (n := 3) (by decide +kernel) (by decide +kernel) (by decide +kernel)
theorem ac_t0 : stepS acT [0] 0 = some [1] := by
  rw [stepS_op (o := ⟨[0], [1], [0], 2⟩) rfl, if_pos (by decide +kernel), ac_u1]
theorem ac_t1 : stepS acT [1] 1 = some [2] := by
  rw [stepS_op (o := ⟨[1], [2], [1], 3⟩) rfl, if_pos (by decide +kernel), ac_u2]
theorem ac_run : runT acT [0] [0, 1] = [[1], [2]] := by simp [runT, ac_t0, ac_t1]
theorem ac_end : endS acT [0] [0, 1] = some [2] := by simp [endS, ac_t0, ac_t1]
theorem f_ac1 : Fc Go.Proofs.Try.prog 13 [skV acT, .sl .p ([0, 1].map i64V)] (.tup [.sl .p ([0, 1].map i64V), ftV okF]) := by
  have := f_strips_Applicable_ok acT ac_ok [0, 1] ac_s01
  rwa [appS_sel, show selK (appAtS acT [0, 1]) acT.ops.length = [0, 1] from by decide +kernel] at this
theorem f_ac2 : Fc Go.Proofs.Try.prog 18 [skV acT, .sl .p ([0].map i64V), .int .i64 0] (.tup [.sl .p ([1].map i64V), ftV okF]) := by
  have := f_strips_Apply_ok acT ac_ok [0] ac_s0 0 (by decide) (by decide) ⟨[0], [1], [0], 2⟩ rfl
  rwa [if_pos (by decide +kernel), ac_u1] at this
theorem f_ac3 : Fc Go.Proofs.Try.prog 30 [skV acT, .sl .p ([0].map i64V), .sl .p ([0, 1].map i64V)] (.tup [.sl .p ([[0], [1], [2]].map ssV), ftV okF]) := by
  have := f_strips_Play acT ac_ok [0] (by decide) [0, 1] (by decide)
  have e : playF acT [0] [0, 1] = okF := by
    unfold playF
    rw [if_pos ac_s0, if_pos (by decide +kernel), ac_run]; rfl
  rwa [playL, if_pos e, e, ac_run] at this
theorem f_ac4 : Fc Go.Proofs.Try.prog 24 [skV acT, .sl .p ([0, 1].map i64V)] (.tup [.bool true, ftV okF]) := by
  have := f_strips_Solves_ok acT ac_ok [0, 1] ac_p
  rwa [show worksB acT acT.init [0, 1] = true from by unfold worksB; rw [show acT.init = [0] from rfl, ac_end]; decide +kernel] at this
theorem f_ac5 : Fc Go.Proofs.Try.prog 25 [skV acT, .sl .p ([0, 1].map i64V)] (.tup [.int .i64 5, ftV okF]) := by
  have := f_strips_Cost_ok acT ac_ok [0, 1] ac_p
  rwa [show costS acT [0, 1] = 5 from by decide +kernel] at this
theorem f_ac6 : Fc Go.Proofs.Try.prog 20 [skV acT, .sl .p ([2].map i64V), .int .i64 1] (.tup [.sl .p ([1].map i64V), .bool true, ftV okF]) := by
  have := f_strips_Regress_ok acT ac_ok [2] ac_s2 1 (by decide) (by decide) ⟨[1], [2], [1], 3⟩ rfl
  rwa [if_pos (by decide +kernel), ac_u3] at this
theorem f_ac7 : Fc Go.Proofs.Try.prog 18 [skV acT, .sl .p ([0].map i64V), .int .i64 1] (.tup [.sl .p [], ftV ⟨11, 1⟩]) := by
  have := f_strips_Apply_ok acT ac_ok [0] ac_s0 1 (by decide) (by decide) ⟨[1], [2], [1], 3⟩ rfl
  rwa [if_neg (by decide +kernel)] at this
theorem f_ac8 : Fc Go.Proofs.Try.prog 11 [skV ⟨-1, [], [], []⟩] (ftV ⟨3, -1⟩) := f_strips_Validate ⟨-1, [], [], []⟩ ⟨by decide, by decide, by decide, fun o ho => by simp at ho⟩
theorem f_ac9 : Fc Go.Proofs.Try.prog 15 [.sl .p ([0, 1].map i64V), .sl .p ([0, 1].map i64V)] (.bool true) := f_Ints_same [0, 1] (by decide)
theorem f_ac10 : Fc Go.Proofs.Try.prog 15 [.sl .p ([1].map i64V), .sl .p ([1].map i64V)] (.bool true) := f_Ints_same [1] (by decide)
def c_L1_acts : Cmd :=
  (.seq
   (.ops [
   .op (some 0) none (.mov (.c (.bool false)))])
   (.cut
   (.seq
   (.ops [
   .op (some 18) none (.call .f (.c (.fn 34 [])) []),
   .op (some 19) none (.bsl 1 [.c (.int .i64 (0)), .c (.int .i64 (1))]),
   .op (some 20) none (.call .f (.c (.fn 13 [])) [.t 18, .t 19]),
   .op (some 17) none (.mov (.t 20)),
   .op (some 21) none (.extract (.t 17) 0),
   .op (some 22) none (.extract (.t 17) 1),
   .op (some 2) none (.alloc 640130 (.agg [.int .i64 (0), .int .i64 (0)])),
   .op (some 1) none (.mov (.t 21)),
   .op none none (.store 2 (.t 2) (.t 22))])
   (.cut
   (.seq
   (.ops [
   .op (some 24) none (.call .f (.c (.fn 34 [])) []),
   .op (some 25) none (.bsl 1 [.c (.int .i64 (0))]),
   .op (some 26) none (.call .f (.c (.fn 18 [])) [.t 24, .t 25, .c (.int .i64 (0))]),
   .op (some 23) none (.mov (.t 26)),
   .op (some 27) none (.extract (.t 23) 0),
   .op (some 28) none (.extract (.t 23) 1),
   .op (some 4) none (.alloc 640258 (.agg [.int .i64 (0), .int .i64 (0)])),
   .op (some 3) none (.mov (.t 27)),
   .op none none (.store 2 (.t 4) (.t 28))])
   (.cut
   (.seq
   (.ops [
   .op (some 30) none (.call .f (.c (.fn 34 [])) []),
   .op (some 31) none (.bsl 1 [.c (.int .i64 (0))]),
   .op (some 32) none (.bsl 1 [.c (.int .i64 (0)), .c (.int .i64 (1))]),
   .op (some 33) none (.call .f (.c (.fn 30 [])) [.t 30, .t 31, .t 32]),
   .op (some 29) none (.mov (.t 33)),
   .op (some 34) none (.extract (.t 29) 0),
   .op (some 35) none (.extract (.t 29) 1),
   .op (some 6) none (.alloc 640386 (.agg [.int .i64 (0), .int .i64 (0)])),
   .op (some 5) none (.mov (.t 34)),
   .op none none (.store 2 (.t 6) (.t 35))])
   (.cut
   (.seq
   (.ops [
   .op (some 37) none (.call .f (.c (.fn 34 [])) []),
   .op (some 38) none (.bsl 1 [.c (.int .i64 (0)), .c (.int .i64 (1))]),
   .op (some 39) none (.call .f (.c (.fn 24 [])) [.t 37, .t 38]),
   .op (some 36) none (.mov (.t 39)),
   .op (some 40) none (.extract (.t 36) 0),
   .op (some 41) none (.extract (.t 36) 1),
   .op (some 8) none (.alloc 640514 (.agg [.int .i64 (0), .int .i64 (0)])),
   .op (some 7) none (.mov (.t 40)),
   .op none none (.store 2 (.t 8) (.t 41))])
   (.cut
   (.seq
   (.ops [
   .op (some 43) none (.call .f (.c (.fn 34 [])) []),
   .op (some 44) none (.bsl 1 [.c (.int .i64 (0)), .c (.int .i64 (1))]),
   .op (some 45) none (.call .f (.c (.fn 25 [])) [.t 43, .t 44]),
   .op (some 42) none (.mov (.t 45)),
   .op (some 46) none (.extract (.t 42) 0),
   .op (some 47) none (.extract (.t 42) 1),
   .op (some 10) none (.alloc 640642 (.agg [.int .i64 (0), .int .i64 (0)])),
   .op (some 9) none (.mov (.t 46)),
   .op none none (.store 2 (.t 10) (.t 47))])
   (.cut
   (.seq
   (.ops [
   .op (some 49) none (.call .f (.c (.fn 34 [])) []),
   .op (some 50) none (.bsl 1 [.c (.int .i64 (2))]),
   .op (some 51) none (.call .f (.c (.fn 20 [])) [.t 49, .t 50, .c (.int .i64 (1))]),
   .op (some 48) none (.mov (.t 51)),
   .op (some 52) none (.extract (.t 48) 0),
   .op (some 53) none (.extract (.t 48) 1),
   .op (some 54) none (.extract (.t 48) 2),
   .op (some 13) none (.alloc 640834 (.agg [.int .i64 (0), .int .i64 (0)])),
   .op (some 11) none (.mov (.t 52)),
   .op (some 12) none (.mov (.t 53)),
   .op none none (.store 2 (.t 13) (.t 54))])
   (.cut
   (.seq
   (.ops [
   .op (some 56) none (.call .f (.c (.fn 34 [])) []),
   .op (some 57) none (.bsl 1 [.c (.int .i64 (0))]),
   .op (some 58) none (.call .f (.c (.fn 18 [])) [.t 56, .t 57, .c (.int .i64 (1))]),
   .op (some 55) none (.mov (.t 58)),
   .op (some 59) none (.extract (.t 55) 0),
   .op (some 60) none (.extract (.t 55) 1),
   .op (some 15) none (.alloc 640962 (.agg [.int .i64 (0), .int .i64 (0)])),
   .op (some 14) none (.mov (.t 59)),
   .op none none (.store 2 (.t 15) (.t 60))])
   (.cut
   (.seq
   (.ops [
   .op (some 61) none (.faddr 0 (.t 2)),
   .op (some 62) none (.load false 1 (.t 61)),
   .op (some 63) none (.bin .eql false [.i] (.t 62) (.c (.int .i64 (0)))),
   .op (some 64) none (.mov (.t 63)),
   .op (some 65) (some (64, true)) (.faddr 0 (.t 4)),
   .op (some 66) (some (64, true)) (.load false 1 (.t 65)),
   .op (some 67) (some (64, true)) (.bin .eql false [.i] (.t 66) (.c (.int .i64 (0)))),
   .op (some 68) none (.pick (.t 64) (.t 67) (.c (.bool false))),
   .op (some 69) none (.mov (.t 68)),
   .op (some 70) (some (69, true)) (.faddr 0 (.t 6)),
   .op (some 71) (some (69, true)) (.load false 1 (.t 70)),
   .op (some 72) (some (69, true)) (.bin .eql false [.i] (.t 71) (.c (.int .i64 (0)))),
   .op (some 73) none (.pick (.t 69) (.t 72) (.c (.bool false))),
   .op (some 74) none (.mov (.t 73)),
   .op (some 75) (some (74, true)) (.faddr 0 (.t 8)),
   .op (some 76) (some (74, true)) (.load false 1 (.t 75)),
   .op (some 77) (some (74, true)) (.bin .eql false [.i] (.t 76) (.c (.int .i64 (0)))),
   .op (some 78) none (.pick (.t 74) (.t 77) (.c (.bool false))),
   .op (some 79) none (.mov (.t 78)),
   .op (some 80) (some (79, true)) (.faddr 0 (.t 10)),
   .op (some 81) (some (79, true)) (.load false 1 (.t 80)),
   .op (some 82) (some (79, true)) (.bin .eql false [.i] (.t 81) (.c (.int .i64 (0)))),
   .op (some 83) none (.pick (.t 79) (.t 82) (.c (.bool false))),
   .op (some 84) none (.mov (.t 83)),
   .op (some 85) (some (84, true)) (.faddr 0 (.t 13)),
   .op (some 86) (some (84, true)) (.load false 1 (.t 85)),
   .op (some 87) (some (84, true)) (.bin .eql false [.i] (.t 86) (.c (.int .i64 (0)))),
   .op (some 88) none (.pick (.t 84) (.t 87) (.c (.bool false))),
   .op (some 89) none (.mov (.t 88)),
   .op (some 90) (some (89, true)) (.load true 2 (.t 15)),
   .op (some 91) (some (89, true)) (.call .f (.c (.fn 17 [])) [.c (.int .i64 (11)), .c (.int .i64 (1))]),
   .op (some 92) (some (89, true)) (.bin .eql true [.i, .i] (.t 90) (.t 91)),
   .op (some 93) none (.pick (.t 89) (.t 92) (.c (.bool false))),
   .op (some 16) none (.mov (.t 93))])
   (.cut
   (.seq
   (.ops [
   .op (some 94) none (.mov (.t 16)),
   .op (some 95) none (.mov (.t 94)),
   .op (some 96) (some (95, true)) (.mov (.t 1)),
   .op (some 97) (some (95, true)) (.bsl 1 [.c (.int .i64 (0)), .c (.int .i64 (1))]),
   .op (some 98) (some (95, true)) (.call .f (.c (.fn 15 [])) [.t 96, .t 97]),
   .op (some 99) none (.pick (.t 95) (.t 98) (.c (.bool false))),
   .op (some 100) none (.mov (.t 99)),
   .op (some 101) (some (100, true)) (.mov (.t 3)),
   .op (some 102) (some (100, true)) (.bsl 1 [.c (.int .i64 (1))]),
   .op (some 103) (some (100, true)) (.call .f (.c (.fn 15 [])) [.t 101, .t 102]),
   .op (some 104) none (.pick (.t 100) (.t 103) (.c (.bool false))),
   .op (some 105) none (.mov (.t 104)),
   .op (some 106) (some (105, true)) (.mov (.t 5)),
   .op (some 107) (some (105, true)) (.len false (.t 106)),
   .op (some 108) (some (105, true)) (.bin .eql false [.i] (.t 107) (.c (.int .i64 (3)))),
   .op (some 109) none (.pick (.t 105) (.t 108) (.c (.bool false))),
   .op (some 110) none (.mov (.t 109)),
   .op (some 111) (some (110, true)) (.mov (.t 7)),
   .op (some 112) none (.pick (.t 110) (.t 111) (.c (.bool false))),
   .op (some 113) none (.mov (.t 112)),
   .op (some 114) (some (113, true)) (.mov (.t 9)),
   .op (some 115) (some (113, true)) (.bin .eql false [.i] (.t 114) (.c (.int .i64 (5)))),
   .op (some 116) none (.pick (.t 113) (.t 115) (.c (.bool false))),
   .op (some 117) none (.mov (.t 116)),
   .op (some 118) (some (117, true)) (.mov (.t 12)),
   .op (some 119) none (.pick (.t 117) (.t 118) (.c (.bool false))),
   .op (some 120) none (.mov (.t 119)),
   .op (some 121) (some (120, true)) (.mov (.t 11)),
   .op (some 122) (some (120, true)) (.bsl 1 [.c (.int .i64 (1))]),
   .op (some 123) (some (120, true)) (.call .f (.c (.fn 15 [])) [.t 121, .t 122]),
   .op (some 124) none (.pick (.t 120) (.t 123) (.c (.bool false))),
   .op (some 125) none (.mov (.t 124)),
   .op (some 126) (some (125, true)) (.build [.int .i64 (0), .sl .nil [], .sl .nil [], .sl .nil []] [(0, 1, .c (.int .i64 (-1)))]),
   .op (some 127) (some (125, true)) (.call .f (.c (.fn 11 [])) [.t 126]),
   .op (some 128) (some (125, true)) (.call .f (.c (.fn 17 [])) [.c (.int .i64 (3)), .c (.int .i64 (-1))]),
   .op (some 129) (some (125, true)) (.bin .eql true [.i, .i] (.t 127) (.t 128)),
   .op (some 130) none (.pick (.t 125) (.t 129) (.c (.bool false))),
   .op (some 0) none (.mov (.t 130))])
   .ret)))))))))))))))))))
def r_L1_acts : List RVar := [.tmp 0]
def n_L1_acts : Nat := 131
theorem k_L1_acts : chkFn Go.Proofs.Try.prog 10 n_L1_acts r_L1_acts c_L1_acts = true := by kernel_rfl
theorem f_L1_acts : Fc Go.Proofs.Try.prog 10 [] (.bool true) := by
  refine Fn.step mixed k_L1_acts ?_
  repeat' (first | refine i_len rfl ?_ | refine i_s rfl ?_ | refine i_lenm rfl rfl rfl ?_ | refine c_seq ?_ | refine c_cut0 ?_ | refine c_ops ?_ | refine i_nil ?_ | refine e_seq ?_ | refine e_block ?_ | refine c_block ?_ | refine c_skip ?_ | refine c_ret ?_ | refine c_exit ?_ | refine e_exit rfl ?_ | refine i_s0 rfl ?_ | refine c_leaf ?_ | refine i_gt rfl ?_ | refine i_gf rfl ?_ | refine i_gd rfl ?_ | refine c_t rfl ?_ | refine c_f rfl ?_ | refine i_conv rfl (by simp only [InR, List.length_map]; omega) ?_ | refine i_add rfl rfl (by simp only [InR, List.length_map]; omega) ?_ | refine i_sub rfl rfl (by simp only [InR, List.length_map]; omega) ?_ | refine i_ixm rfl rfl (by assumption) ?_ | refine i_iai rfl rfl (by omega) (by assumption) rfl ?_ | refine i_iam rfl rfl (by assumption) rfl ?_ | refine i_tk rfl rfl (by omega) ?_ | refine i_stb rfl ?_ | refine i_alloc rfl ?_ | refine i_box rfl rfl ?_ | refine i_nv rfl ?_ | refine c_node ?_ ?_ | refine i_g rfl (fun h => ?_) (fun h => ?_) | refine c_cond rfl (fun h => ?_) (fun h => ?_) | refine i_f rfl rfl (f_L1_steps) rfl ?_ | refine i_f rfl rfl (f_ac1) rfl ?_ | refine i_f rfl rfl (f_ac2) rfl ?_ | refine i_f rfl rfl (f_ac3) rfl ?_ | refine i_f rfl rfl (f_ac4) rfl ?_ | refine i_f rfl rfl (f_ac5) rfl ?_ | refine i_f rfl rfl (f_ac6) rfl ?_ | refine i_f rfl rfl (f_ac7) rfl ?_ | refine i_f rfl rfl (f_ac8) rfl ?_ | refine i_f rfl rfl (f_ac9) rfl ?_ | refine i_f rfl rfl (f_ac10) rfl ?_ | refine i_f rfl rfl (f_R1_At _ _) rfl ?_)
  all_goals exact e_ret ⟨rfl, _, rfl, rfl⟩
end Hm
end

section
/- What comes in: integers, lists of integers. -/
namespace Hm
open Go
theorem in_int {H : Type} {n : Nat} {d : DataW H} (h : wt Go.Proofs.Try.prog n 3 d) : ∃ m, dv d = .int .i64 m ∧ InR .i64 m := by
  obtain ⟨m, rfl, hm⟩ := wt_int Go.Proofs.Try.underlying3 h
  exact ⟨m, rfl, hm⟩
theorem by_int : Program.bytesOf Go.Proofs.Try.prog 3 = 8 := by kernel_rfl
theorem in_Int1 {H : Type} (n : Nat) (d : DataW H) (h : wt Go.Proofs.Try.prog n 3 d) : ∃ m, dv d = i64V m ∧ InR .i64 m := in_int h
theorem in_Ints {H : Type} {n : Nat} {d : DataW H} (h : wt Go.Proofs.Try.prog n 22 d) : ∃ l : List Int, dv d = .sl .p (l.map i64V) ∧ l.length ≤ 17592186044416 := by
  obtain ⟨l, h1, h2, h3⟩ := wt_sl Go.Proofs.Try.underlying22 in_Int1 h
  rw [by_int] at h2
  exact ⟨l, h1, by omega⟩
end Hm
end

section
/- What comes in: tasks over sets of facts. -/
namespace Hm
open Go
theorem by_SOp : Program.bytesOf Go.Proofs.Try.prog 42 = 80 := by kernel_rfl
theorem in_SOp {H : Type} (n : Nat) (d : DataW H) (h : wt Go.Proofs.Try.prog n 42 d) : ∃ t : SOp, dv d = soV t ∧ t.pre.length ≤ 17592186044416 ∧ t.add.length ≤ 17592186044416 ∧ t.del.length ≤ 17592186044416 := by
  obtain ⟨parts, m, rfl, hp⟩ := wt_st Go.Proofs.Try.underlying42 h
  match parts, hp with
  | [d0, d1, d2, d3], hp =>
    obtain ⟨h0, h1, h2, h3, _⟩ := hp
    obtain ⟨l0, e0, b0⟩ := in_Ints h0
    obtain ⟨l1, e1, b1⟩ := in_Ints h1
    obtain ⟨l2, e2, b2⟩ := in_Ints h2
    obtain ⟨k, rfl, hk⟩ := wt_int Go.Proofs.Try.underlying3 h3
    refine ⟨⟨l0, l1, l2, k⟩, ?_, b0, b1, b2⟩
    simp only [dv, dvC, V.cells, e0, e1, e2, List.append_nil, soV, List.cons_append, List.nil_append]
theorem in_SOps {H : Type} {n : Nat} {d : DataW H} (h : wt Go.Proofs.Try.prog n 23 d) : ∃ l : List SOp, dv d = .sl .p (l.map soV) ∧ l.length ≤ 17592186044416 ∧ ∀ t ∈ l, t.pre.length ≤ 17592186044416 ∧ t.add.length ≤ 17592186044416 ∧ t.del.length ≤ 17592186044416 := by
  obtain ⟨l, h1, h2, h3⟩ := wt_sl Go.Proofs.Try.underlying23 in_SOp h
  rw [by_SOp] at h2
  exact ⟨l, h1, by omega, h3⟩
theorem in_STask {H : Type} {n : Nat} {d : DataW H} (h : wt Go.Proofs.Try.prog n 25 d) : ∃ t : STask, dv d = skV t ∧ SkOk t := by
  obtain ⟨parts, m, rfl, hp⟩ := wt_st Go.Proofs.Try.underlying25 h
  match parts, hp with
  | [d0, d1, d2, d3], hp =>
    obtain ⟨h0, h1, h2, h3, _⟩ := hp
    obtain ⟨k, rfl, hk⟩ := wt_int Go.Proofs.Try.underlying3 h0
    obtain ⟨l1, e1, b1⟩ := in_Ints h1
    obtain ⟨l2, e2, b2⟩ := in_Ints h2
    obtain ⟨l3, e3, b3, b4⟩ := in_SOps h3
    refine ⟨⟨k, l1, l2, l3⟩, ?_, ?_⟩
    · simp only [dv, dvC, V.cells, e1, e2, e3, List.append_nil, skV, List.cons_append, List.nil_append]
    · exact ⟨Nat.le_trans b1 (by decide), Nat.le_trans b2 (by decide), Nat.le_trans b3 (by decide), fun o ho => ⟨Nat.le_trans (b4 o ho).1 (by decide), Nat.le_trans (b4 o ho).2.1 (by decide), Nat.le_trans (b4 o ho).2.2 (by decide)⟩⟩
end Hm
end

section
/- The laws of the frame and of regression answer true. -/
namespace Hm
open Go
set_option maxRecDepth 100000
set_option maxHeartbeats 4000000
set_option linter.unusedSimpArgs false
set_option linter.unusedVariables false
theorem hasB {l : List Int} {x : Int} : (decide (x ∈ l) = true) ↔ x ∈ l := by simp
theorem incl_upd {s add del : List Int} : inclB add (updL s add del) = true := by
  unfold inclB
  rw [List.all_eq_true]
  intro x hx
  exact decide_eq_true (updL_mem.2 (.inr hx))
theorem disj_upd {s add del : List Int} (h : ∀ x ∈ add, x ∉ del) : disjB del (updL s add del) = true := by
  unfold disjB
  rw [List.all_eq_true]
  intro x hx
  refine decide_eq_true fun hm => ?_
  rcases updL_mem.1 hm with q | q
  · exact q.2 hx
  · exact h x q hx
def c_L1_StripsFrame : Cmd :=
  (.seq
   (.ops [
   .op (some 3) none (.box 320196 4 (.t 0)),
   .op (some 6) none (.mov (.c (.bool false)))])
   (.cut
   (.seq
   (.ops [
   .op (some 12) none (.load true 4 (.t 3)),
   .op (some 13) none (.mov (.t 1)),
   .op (some 14) none (.mov (.t 2)),
   .op (some 15) none (.call .f (.c (.fn 18 [])) [.t 12, .t 13, .t 14]),
   .op (some 11) none (.mov (.t 15)),
   .op (some 16) none (.extract (.t 11) 0),
   .op (some 17) none (.extract (.t 11) 1),
   .op (some 8) none (.alloc 320514 (.agg [.int .i64 (0), .int .i64 (0)])),
   .op (some 7) none (.mov (.t 16)),
   .op none none (.store 2 (.t 8) (.t 17))])
   (.cut
   (.seq
   (.seq
   (.ops [
   .op (some 18) none (.call .f (.c (.fn 10 [])) []),
   .op (some 19) none (.not (.t 18)),
   .op (some 20) none (.mov (.t 19)),
   .op (some 21) (some (20, false)) (.faddr 0 (.t 8)),
   .op (some 22) (some (20, false)) (.load false 1 (.t 21)),
   .op (some 23) (some (20, false)) (.bin .neq false [.i] (.t 22) (.c (.int .i64 (0)))),
   .op (some 24) none (.pick (.t 20) (.c (.bool true)) (.t 23))])
   (.cut
   (.cond (.t 24)
   (.seq
   (.ops [
   .op (some 25) none (.call .f (.c (.fn 10 [])) []),
   .op (some 26) none (.mov (.t 25)),
   .op (some 27) (some (26, true)) (.mov (.t 7)),
   .op (some 28) (some (26, true)) (.len false (.t 27)),
   .op (some 29) (some (26, true)) (.bin .eql false [.i] (.t 28) (.c (.int .i64 (0)))),
   .op (some 30) none (.pick (.t 26) (.t 29) (.c (.bool false))),
   .op (some 6) none (.mov (.t 30))])
   .ret)
   .skip)))
   (.cut
   (.seq
   (.ops [
   .op (some 31) none (.faddr 3 (.t 3)),
   .op (some 32) none (.load false 1 (.t 31)),
   .op (some 33) none (.mov (.t 2)),
   .op (some 34) none (.iaddr 4 (.t 32) (.t 33)),
   .op (some 35) none (.load true 4 (.t 34)),
   .op (some 9) none (.alloc 320580 (.agg [.sl .nil [], .sl .nil [], .sl .nil [], .int .i64 (0)])),
   .op none none (.store 4 (.t 9) (.t 35))])
   (.cut
   (.seq
   (.seq
   (.ops [
   .op (some 10) none (.mov (.c (.int .i64 (0))))])
   (.cut
   (.block 0
   (.loop
   (.seq
   (.seq
   (.ops [
   .op (some 36) none (.mov (.t 10)),
   .op (some 37) none (.faddr 0 (.t 3)),
   .op (some 38) none (.load false 1 (.t 37)),
   .op (some 39) none (.bin .lss false [] (.t 36) (.t 38))])
   (.cut
   (.cond (.t 39)
   .skip
   (.exit 0))))
   (.cut
   (.seq
   (.block 1
   (.seq
   (.ops [
   .op (some 42) none (.faddr 1 (.t 9)),
   .op (some 43) none (.load false 1 (.t 42)),
   .op (some 44) none (.mov (.t 10)),
   .op (some 45) none (.call .f (.c (.fn 22 [])) [.t 43, .t 44]),
   .op (some 46) none (.not (.t 45)),
   .op (some 47) none (.mov (.t 46)),
   .op (some 48) (some (47, true)) (.faddr 2 (.t 9)),
   .op (some 49) (some (47, true)) (.load false 1 (.t 48)),
   .op (some 50) (some (47, true)) (.mov (.t 10)),
   .op (some 51) (some (47, true)) (.call .f (.c (.fn 22 [])) [.t 49, .t 50]),
   .op (some 52) (some (47, true)) (.not (.t 51)),
   .op (some 53) none (.pick (.t 47) (.t 52) (.c (.bool false))),
   .op (some 54) none (.mov (.t 53)),
   .op (some 55) (some (54, true)) (.mov (.t 1)),
   .op (some 56) (some (54, true)) (.mov (.t 10)),
   .op (some 57) (some (54, true)) (.call .f (.c (.fn 22 [])) [.t 55, .t 56]),
   .op (some 58) (some (54, true)) (.mov (.t 7)),
   .op (some 59) (some (54, true)) (.mov (.t 10)),
   .op (some 60) (some (54, true)) (.call .f (.c (.fn 22 [])) [.t 58, .t 59]),
   .op (some 61) (some (54, true)) (.bin .neq false [.b] (.t 57) (.t 60)),
   .op (some 62) none (.pick (.t 54) (.t 61) (.c (.bool false)))])
   (.cut
   (.cond (.t 62)
   (.seq
   (.ops [
   .op (some 6) none (.mov (.c (.bool false)))])
   .ret)
   .skip))))
   (.cut
   (.ops [
   .op (some 40) none (.mov (.t 10)),
   .op (some 41) none (.bin .add false [] (.t 40) (.c (.int .i64 (1)))),
   .op (some 10) none (.mov (.t 41))])))))))))
   (.cut
   (.seq
   (.ops [
   .op (some 63) none (.faddr 1 (.t 9)),
   .op (some 64) none (.load false 1 (.t 63)),
   .op (some 65) none (.mov (.t 7)),
   .op (some 66) none (.call .f (.c (.fn 31 [])) [.t 64, .t 65]),
   .op (some 67) none (.mov (.t 66)),
   .op (some 68) (some (67, true)) (.faddr 2 (.t 9)),
   .op (some 69) (some (67, true)) (.load false 1 (.t 68)),
   .op (some 70) (some (67, true)) (.mov (.t 7)),
   .op (some 71) (some (67, true)) (.call .f (.c (.fn 21 [])) [.t 69, .t 70]),
   .op (some 72) none (.pick (.t 67) (.t 71) (.c (.bool false))),
   .op (some 6) none (.mov (.t 72))])
   .ret)))))))))))
def r_L1_StripsFrame : List RVar := [.tmp 6]
def n_L1_StripsFrame : Nat := 73
theorem k_L1_StripsFrame : chkFn Go.Proofs.Try.prog 5 n_L1_StripsFrame r_L1_StripsFrame c_L1_StripsFrame = true := by kernel_rfl
theorem f_L1_StripsFrame (t : STask) (ho : SkOk t) (s : List Int) (hs : s.length ≤ 140737488355328) (op : Int) : Fc Go.Proofs.Try.prog 5 [skV t, .sl .p (s.map i64V), .int .i64 op] (.bool true) := by
  have hT := f_L1_acts
  by_cases hb : stFault t s = okF
  · by_cases hr : 0 ≤ op ∧ op < t.ops.length
    · obtain ⟨o, hc⟩ := get_some (l := t.ops) (k := op.toNat) (by omega)
      obtain ⟨r0, r1⟩ := hr
      have hA := f_strips_Apply_ok t ho s hb op r0 r1 o hc
      cases hi : inclB o.pre s with
      | false =>
        rw [hi, if_neg (by simp)] at hA
        refine Fn.step mixed k_L1_StripsFrame ?_
        repeat' (first | refine i_len rfl ?_ | refine i_s rfl ?_ | refine i_lenm rfl rfl rfl ?_ | refine c_seq ?_ | refine c_cut0 ?_ | refine c_ops ?_ | refine i_nil ?_ | refine e_seq ?_ | refine e_block ?_ | refine c_block ?_ | refine c_skip ?_ | refine c_ret ?_ | refine c_exit ?_ | refine e_exit rfl ?_ | refine i_s0 rfl ?_ | refine c_leaf ?_ | refine i_gt rfl ?_ | refine i_gf rfl ?_ | refine i_gd rfl ?_ | refine c_t rfl ?_ | refine c_f rfl ?_ | refine i_conv rfl (by simp only [InR, List.length_map]; omega) ?_ | refine i_add rfl rfl (by simp only [InR, List.length_map]; omega) ?_ | refine i_sub rfl rfl (by simp only [InR, List.length_map]; omega) ?_ | refine i_ixm rfl rfl (by assumption) ?_ | refine i_iai rfl rfl (by omega) (by assumption) rfl ?_ | refine i_iam rfl rfl (by assumption) rfl ?_ | refine i_tk rfl rfl (by omega) ?_ | refine i_stb rfl ?_ | refine i_alloc rfl ?_ | refine i_box rfl rfl ?_ | refine i_nv rfl ?_ | refine c_node ?_ ?_ | refine i_g rfl (fun h => ?_) (fun h => ?_) | refine c_cond rfl (fun h => ?_) (fun h => ?_) | refine i_f rfl rfl (hT) rfl ?_ | refine i_f rfl rfl (hA) rfl ?_)
        exact e_ret ⟨rfl, _, rfl, rfl⟩
      | true =>
        rw [hi, if_pos rfl] at hA
        obtain ⟨hv, hss, _⟩ := stFault_ok hb
        have hoo := hv.op o (mem_get hc)
        have hsl := set_le hv hss
        have hal := set_le hv hoo.add
        have hdl := set_le hv hoo.del
        have hnl := set_le hv (updL_set (del := o.del) hss hoo.add)
        have hf := facts_nat hv
        have hf1 := hv.f1
        have hI := f_R1_Subset o.add (updL s o.add o.del) (by omega) (by omega)
        rw [show (o.add.all fun x => decide (x ∈ updL s o.add o.del)) = true from incl_upd] at hI
        have hD := f_R1_Disjoint o.del (updL s o.add o.del) (by omega) (by omega)
        rw [disj_upd hoo.dis] at hD
        have hmem : ∀ x, x ∉ o.add → x ∉ o.del → (x ∈ s ↔ x ∈ updL s o.add o.del) := fun x h1 h2 => by rw [updL_mem]; simp [h1, h2]
        generalize updL s o.add o.del = nx at *
        generalize hn : t.facts.toNat = n at *
        refine Fn.step mixed k_L1_StripsFrame ?_
        repeat' (first | refine i_len rfl ?_ | refine i_s rfl ?_ | refine i_lenm rfl rfl rfl ?_ | refine c_seq ?_ | refine c_cut0 ?_ | refine c_ops ?_ | refine i_nil ?_ | refine e_seq ?_ | refine e_block ?_ | refine c_block ?_ | refine c_skip ?_ | refine c_ret ?_ | refine c_exit ?_ | refine e_exit rfl ?_ | refine i_s0 rfl ?_ | refine c_leaf ?_ | refine i_gt rfl ?_ | refine i_gf rfl ?_ | refine i_gd rfl ?_ | refine c_t rfl ?_ | refine c_f rfl ?_ | refine i_conv rfl (by simp only [InR, List.length_map]; omega) ?_ | refine i_add rfl rfl (by simp only [InR, List.length_map]; omega) ?_ | refine i_sub rfl rfl (by simp only [InR, List.length_map]; omega) ?_ | refine i_ixm rfl rfl (by assumption) ?_ | refine i_iai rfl rfl (by omega) (by assumption) rfl ?_ | refine i_iam rfl rfl (by assumption) rfl ?_ | refine i_tk rfl rfl (by omega) ?_ | refine i_stb rfl ?_ | refine i_alloc rfl ?_ | refine i_box rfl rfl ?_ | refine i_nv rfl ?_ | refine c_node ?_ ?_ | refine i_g rfl (fun h => ?_) (fun h => ?_) | refine c_cond rfl (fun h => ?_) (fun h => ?_) | refine i_f rfl rfl (hT) rfl ?_ | refine i_f rfl rfl (hA) rfl ?_)
        refine c_for n (fun k => [(1, .sl .p (s.map i64V)), (3, .bptr 320196 0), (7, .sl .p (nx.map i64V)), (9, .bptr 320580 0), (10, .int .i64 k)]) (fun _ => [(320196, .box (skV t)), (320580, .box (soV o))]) (fun _ => True) trivial ⟨by repeat (first | exact trivial | refine ⟨rfl, ?_⟩), by repeat (first | exact trivial | refine ⟨rfl, ?_⟩), rfl⟩ fun k hk _ => ?_
        clear hA hT
        repeat (first | refine i_len rfl ?_ | refine i_s rfl ?_ | refine i_lenm rfl rfl rfl ?_ | refine c_seq ?_ | refine c_cut0 ?_ | refine c_ops ?_ | refine i_nil ?_ | refine e_seq ?_ | refine e_block ?_ | refine c_block ?_ | refine c_skip ?_ | refine c_ret ?_ | refine c_exit ?_ | refine e_exit rfl ?_ | refine i_s0 rfl ?_ | refine c_leaf ?_ | refine i_gt rfl ?_ | refine i_gf rfl ?_ | refine i_gd rfl ?_ | refine c_t rfl ?_ | refine c_f rfl ?_ | refine i_conv rfl (by simp only [InR, List.length_map]; omega) ?_ | refine i_add rfl rfl (by simp only [InR, List.length_map]; omega) ?_ | refine i_sub rfl rfl (by simp only [InR, List.length_map]; omega) ?_ | refine i_ixm rfl rfl (by assumption) ?_ | refine i_iai rfl rfl (by omega) (by assumption) rfl ?_ | refine i_iam rfl rfl (by assumption) rfl ?_ | refine i_tk rfl rfl (by omega) ?_ | refine i_stb rfl ?_ | refine i_alloc rfl ?_ | refine i_box rfl rfl ?_ | refine i_nv rfl ?_)
        refine c_cond rfl (fun h => ?_) (fun h => ?_)
        · have hlt : k < n := by have : (k : Int) < t.facts := by simpa using h
                                 omega
          have g1 := f_R1_Has o.add k (by omega)
          have g2 := f_R1_Has o.del k (by omega)
          have g3 := f_R1_Has s k (by omega)
          have g4 := f_R1_Has nx k (by omega)
          have hm := hmem k
          clear h hI hD hmem ho hv hss hoo hb
          by_cases b1 : (k : Int) ∈ o.add
          · rw [decide_eq_true b1] at g1
            repeat' (first | refine i_len rfl ?_ | refine i_s rfl ?_ | refine i_lenm rfl rfl rfl ?_ | refine c_seq ?_ | refine c_cut0 ?_ | refine c_ops ?_ | refine i_nil ?_ | refine e_seq ?_ | refine e_block ?_ | refine c_block ?_ | refine c_skip ?_ | refine c_ret ?_ | refine c_exit ?_ | refine e_exit rfl ?_ | refine i_s0 rfl ?_ | refine c_leaf ?_ | refine i_gt rfl ?_ | refine i_gf rfl ?_ | refine i_gd rfl ?_ | refine c_t rfl ?_ | refine c_f rfl ?_ | refine i_conv rfl (by simp only [InR, List.length_map]; omega) ?_ | refine i_add rfl rfl (by simp only [InR, List.length_map]; omega) ?_ | refine i_sub rfl rfl (by simp only [InR, List.length_map]; omega) ?_ | refine i_ixm rfl rfl (by assumption) ?_ | refine i_iai rfl rfl (by omega) (by assumption) rfl ?_ | refine i_iam rfl rfl (by assumption) rfl ?_ | refine i_tk rfl rfl (by omega) ?_ | refine i_stb rfl ?_ | refine i_alloc rfl ?_ | refine i_box rfl rfl ?_ | refine i_nv rfl ?_ | refine c_node ?_ ?_ | refine i_g rfl (fun h => ?_) (fun h => ?_) | refine c_cond rfl (fun h => ?_) (fun h => ?_) | refine i_f rfl rfl (g1) rfl ?_)
            exact e_for hlt trivial ⟨by repeat (first | exact trivial | refine ⟨rfl, ?_⟩), by repeat (first | exact trivial | refine ⟨rfl, ?_⟩), rfl⟩
          · rw [decide_eq_false b1] at g1
            by_cases b2 : (k : Int) ∈ o.del
            · rw [decide_eq_true b2] at g2
              repeat' (first | refine i_len rfl ?_ | refine i_s rfl ?_ | refine i_lenm rfl rfl rfl ?_ | refine c_seq ?_ | refine c_cut0 ?_ | refine c_ops ?_ | refine i_nil ?_ | refine e_seq ?_ | refine e_block ?_ | refine c_block ?_ | refine c_skip ?_ | refine c_ret ?_ | refine c_exit ?_ | refine e_exit rfl ?_ | refine i_s0 rfl ?_ | refine c_leaf ?_ | refine i_gt rfl ?_ | refine i_gf rfl ?_ | refine i_gd rfl ?_ | refine c_t rfl ?_ | refine c_f rfl ?_ | refine i_conv rfl (by simp only [InR, List.length_map]; omega) ?_ | refine i_add rfl rfl (by simp only [InR, List.length_map]; omega) ?_ | refine i_sub rfl rfl (by simp only [InR, List.length_map]; omega) ?_ | refine i_ixm rfl rfl (by assumption) ?_ | refine i_iai rfl rfl (by omega) (by assumption) rfl ?_ | refine i_iam rfl rfl (by assumption) rfl ?_ | refine i_tk rfl rfl (by omega) ?_ | refine i_stb rfl ?_ | refine i_alloc rfl ?_ | refine i_box rfl rfl ?_ | refine i_nv rfl ?_ | refine c_node ?_ ?_ | refine i_g rfl (fun h => ?_) (fun h => ?_) | refine c_cond rfl (fun h => ?_) (fun h => ?_) | refine i_f rfl rfl (g1) rfl ?_ | refine i_f rfl rfl (g2) rfl ?_)
              exact e_for hlt trivial ⟨by repeat (first | exact trivial | refine ⟨rfl, ?_⟩), by repeat (first | exact trivial | refine ⟨rfl, ?_⟩), rfl⟩
            · rw [decide_eq_false b2] at g2
              have hm := hm b1 b2
              by_cases b3 : (k : Int) ∈ s
              · rw [decide_eq_true b3] at g3
                rw [decide_eq_true (hm.1 b3)] at g4
                repeat' (first | refine i_len rfl ?_ | refine i_s rfl ?_ | refine i_lenm rfl rfl rfl ?_ | refine c_seq ?_ | refine c_cut0 ?_ | refine c_ops ?_ | refine i_nil ?_ | refine e_seq ?_ | refine e_block ?_ | refine c_block ?_ | refine c_skip ?_ | refine c_ret ?_ | refine c_exit ?_ | refine e_exit rfl ?_ | refine i_s0 rfl ?_ | refine c_leaf ?_ | refine i_gt rfl ?_ | refine i_gf rfl ?_ | refine i_gd rfl ?_ | refine c_t rfl ?_ | refine c_f rfl ?_ | refine i_conv rfl (by simp only [InR, List.length_map]; omega) ?_ | refine i_add rfl rfl (by simp only [InR, List.length_map]; omega) ?_ | refine i_sub rfl rfl (by simp only [InR, List.length_map]; omega) ?_ | refine i_ixm rfl rfl (by assumption) ?_ | refine i_iai rfl rfl (by omega) (by assumption) rfl ?_ | refine i_iam rfl rfl (by assumption) rfl ?_ | refine i_tk rfl rfl (by omega) ?_ | refine i_stb rfl ?_ | refine i_alloc rfl ?_ | refine i_box rfl rfl ?_ | refine i_nv rfl ?_ | refine c_node ?_ ?_ | refine i_g rfl (fun h => ?_) (fun h => ?_) | refine c_cond rfl (fun h => ?_) (fun h => ?_) | refine i_f rfl rfl (g1) rfl ?_ | refine i_f rfl rfl (g2) rfl ?_ | refine i_f rfl rfl (g3) rfl ?_ | refine i_f rfl rfl (g4) rfl ?_)
                exact e_for hlt trivial ⟨by repeat (first | exact trivial | refine ⟨rfl, ?_⟩), by repeat (first | exact trivial | refine ⟨rfl, ?_⟩), rfl⟩
              · rw [decide_eq_false b3] at g3
                rw [decide_eq_false (fun h => b3 (hm.2 h))] at g4
                repeat' (first | refine i_len rfl ?_ | refine i_s rfl ?_ | refine i_lenm rfl rfl rfl ?_ | refine c_seq ?_ | refine c_cut0 ?_ | refine c_ops ?_ | refine i_nil ?_ | refine e_seq ?_ | refine e_block ?_ | refine c_block ?_ | refine c_skip ?_ | refine c_ret ?_ | refine c_exit ?_ | refine e_exit rfl ?_ | refine i_s0 rfl ?_ | refine c_leaf ?_ | refine i_gt rfl ?_ | refine i_gf rfl ?_ | refine i_gd rfl ?_ | refine c_t rfl ?_ | refine c_f rfl ?_ | refine i_conv rfl (by simp only [InR, List.length_map]; omega) ?_ | refine i_add rfl rfl (by simp only [InR, List.length_map]; omega) ?_ | refine i_sub rfl rfl (by simp only [InR, List.length_map]; omega) ?_ | refine i_ixm rfl rfl (by assumption) ?_ | refine i_iai rfl rfl (by omega) (by assumption) rfl ?_ | refine i_iam rfl rfl (by assumption) rfl ?_ | refine i_tk rfl rfl (by omega) ?_ | refine i_stb rfl ?_ | refine i_alloc rfl ?_ | refine i_box rfl rfl ?_ | refine i_nv rfl ?_ | refine c_node ?_ ?_ | refine i_g rfl (fun h => ?_) (fun h => ?_) | refine c_cond rfl (fun h => ?_) (fun h => ?_) | refine i_f rfl rfl (g1) rfl ?_ | refine i_f rfl rfl (g2) rfl ?_ | refine i_f rfl rfl (g3) rfl ?_ | refine i_f rfl rfl (g4) rfl ?_)
                exact e_for hlt trivial ⟨by repeat (first | exact trivial | refine ⟨rfl, ?_⟩), by repeat (first | exact trivial | refine ⟨rfl, ?_⟩), rfl⟩
        · have hge : k = n := by have : ¬ (k : Int) < t.facts := by simpa using h
                                 omega
          repeat' (first | refine i_len rfl ?_ | refine i_s rfl ?_ | refine i_lenm rfl rfl rfl ?_ | refine c_seq ?_ | refine c_cut0 ?_ | refine c_ops ?_ | refine i_nil ?_ | refine e_seq ?_ | refine e_block ?_ | refine c_block ?_ | refine c_skip ?_ | refine c_ret ?_ | refine c_exit ?_ | refine e_exit rfl ?_ | refine i_s0 rfl ?_ | refine c_leaf ?_ | refine i_gt rfl ?_ | refine i_gf rfl ?_ | refine i_gd rfl ?_ | refine c_t rfl ?_ | refine c_f rfl ?_ | refine i_conv rfl (by simp only [InR, List.length_map]; omega) ?_ | refine i_add rfl rfl (by simp only [InR, List.length_map]; omega) ?_ | refine i_sub rfl rfl (by simp only [InR, List.length_map]; omega) ?_ | refine i_ixm rfl rfl (by assumption) ?_ | refine i_iai rfl rfl (by omega) (by assumption) rfl ?_ | refine i_iam rfl rfl (by assumption) rfl ?_ | refine i_tk rfl rfl (by omega) ?_ | refine i_stb rfl ?_ | refine i_alloc rfl ?_ | refine i_box rfl rfl ?_ | refine i_nv rfl ?_ | refine c_node ?_ ?_ | refine i_g rfl (fun h => ?_) (fun h => ?_) | refine c_cond rfl (fun h => ?_) (fun h => ?_) | refine i_f rfl rfl (hI) rfl ?_ | refine i_f rfl rfl (hD) rfl ?_)
          exact e_ret ⟨rfl, _, rfl, rfl⟩
    · have hA := f_strips_Apply_rng t ho s hs op hb hr
      refine Fn.step mixed k_L1_StripsFrame ?_
      repeat' (first | refine i_len rfl ?_ | refine i_s rfl ?_ | refine i_lenm rfl rfl rfl ?_ | refine c_seq ?_ | refine c_cut0 ?_ | refine c_ops ?_ | refine i_nil ?_ | refine e_seq ?_ | refine e_block ?_ | refine c_block ?_ | refine c_skip ?_ | refine c_ret ?_ | refine c_exit ?_ | refine e_exit rfl ?_ | refine i_s0 rfl ?_ | refine c_leaf ?_ | refine i_gt rfl ?_ | refine i_gf rfl ?_ | refine i_gd rfl ?_ | refine c_t rfl ?_ | refine c_f rfl ?_ | refine i_conv rfl (by simp only [InR, List.length_map]; omega) ?_ | refine i_add rfl rfl (by simp only [InR, List.length_map]; omega) ?_ | refine i_sub rfl rfl (by simp only [InR, List.length_map]; omega) ?_ | refine i_ixm rfl rfl (by assumption) ?_ | refine i_iai rfl rfl (by omega) (by assumption) rfl ?_ | refine i_iam rfl rfl (by assumption) rfl ?_ | refine i_tk rfl rfl (by omega) ?_ | refine i_stb rfl ?_ | refine i_alloc rfl ?_ | refine i_box rfl rfl ?_ | refine i_nv rfl ?_ | refine c_node ?_ ?_ | refine i_g rfl (fun h => ?_) (fun h => ?_) | refine c_cond rfl (fun h => ?_) (fun h => ?_) | refine i_f rfl rfl (hT) rfl ?_ | refine i_f rfl rfl (hA) rfl ?_)
      exact e_ret ⟨rfl, _, rfl, rfl⟩
  · have hA := f_strips_Apply_bad t ho s hs op hb
    have hne : (stFault t s).code ≠ 0 := fun h => hb ((stFault_iff t s).1 h)
    generalize stFault t s = F at *
    refine Fn.step mixed k_L1_StripsFrame ?_
    repeat' (first | refine i_len rfl ?_ | refine i_s rfl ?_ | refine i_lenm rfl rfl rfl ?_ | refine c_seq ?_ | refine c_cut0 ?_ | refine c_ops ?_ | refine i_nil ?_ | refine e_seq ?_ | refine e_block ?_ | refine c_block ?_ | refine c_skip ?_ | refine c_ret ?_ | refine c_exit ?_ | refine e_exit rfl ?_ | refine i_s0 rfl ?_ | refine c_leaf ?_ | refine i_gt rfl ?_ | refine i_gf rfl ?_ | refine i_gd rfl ?_ | refine c_t rfl ?_ | refine c_f rfl ?_ | refine i_conv rfl (by simp only [InR, List.length_map]; omega) ?_ | refine i_add rfl rfl (by simp only [InR, List.length_map]; omega) ?_ | refine i_sub rfl rfl (by simp only [InR, List.length_map]; omega) ?_ | refine i_ixm rfl rfl (by assumption) ?_ | refine i_iai rfl rfl (by omega) (by assumption) rfl ?_ | refine i_iam rfl rfl (by assumption) rfl ?_ | refine i_tk rfl rfl (by omega) ?_ | refine i_stb rfl ?_ | refine i_alloc rfl ?_ | refine i_box rfl rfl ?_ | refine i_nv rfl ?_ | refine c_node ?_ ?_ | refine i_g rfl (fun h => ?_) (fun h => ?_) | refine c_cond rfl (fun h => ?_) (fun h => ?_) | refine i_f rfl rfl (hT) rfl ?_ | refine i_f rfl rfl (hA) rfl ?_)
    all_goals first
      | exact e_ret ⟨rfl, _, rfl, rfl⟩
      | (exfalso; clear hA hT ho hb; simp at *; omega)
theorem regr_exact {s goal o_pre o_add o_del : List Int} (hd : disjB goal o_del = true) : (inclB (updL goal o_pre o_add) s = true) ↔ (inclB o_pre s = true ∧ inclB goal (updL s o_add o_del) = true) := by
  unfold inclB disjB at *
  simp only [List.all_eq_true, decide_eq_true_eq] at *
  simp only [updL_mem]
  constructor
  · intro h
    refine ⟨fun x hx => h x (.inr hx), fun x hx => ?_⟩
    by_cases c : x ∈ o_add
    · exact .inr c
    · exact .inl ⟨h x (.inl ⟨hx, c⟩), hd x hx⟩
  · rintro ⟨h1, h2⟩ x hx
    rcases hx with hx | hx
    · rcases h2 x hx.1 with q | q
      · exact q.1
      · exact absurd q hx.2
    · exact h1 x hx
theorem regr_none {s goal o_add o_del : List Int} (hd : disjB goal o_del = false) (hdis : ∀ x ∈ o_add, x ∉ o_del) : inclB goal (updL s o_add o_del) = false := by
  unfold disjB at hd
  unfold inclB
  rw [List.all_eq_false] at hd ⊢
  obtain ⟨x, hx, h⟩ := hd
  refine ⟨x, hx, ?_⟩
  simp only [decide_not, Bool.not_eq_true', decide_eq_false_iff_not, Decidable.not_not] at h
  simp only [decide_eq_true_eq, updL_mem]
  rintro (q | q)
  · exact q.2 h
  · exact hdis x q h
def c_L1_StripsRegressionIsExact : Cmd :=
  (.seq
   (.ops [
   .op (some 4) none (.box 384260 4 (.t 0)),
   .op (some 8) none (.mov (.c (.bool false)))])
   (.cut
   (.seq
   (.seq
   (.ops [
   .op (some 14) none (.call .f (.c (.fn 10 [])) []),
   .op (some 15) none (.not (.t 14))])
   (.cut
   (.cond (.t 15)
   (.seq
   (.ops [
   .op (some 8) none (.mov (.c (.bool false)))])
   .ret)
   .skip)))
   (.cut
   (.seq
   (.seq
   (.ops [
   .op (some 16) none (.load true 4 (.t 4)),
   .op (some 17) none (.mov (.t 1)),
   .op (some 18) none (.call .f (.c (.fn 9 [])) [.t 16, .t 17]),
   .op (some 19) none (.field false 1 0 (.t 18)),
   .op (some 20) none (.bin .neq false [.i] (.t 19) (.c (.int .i64 (0)))),
   .op (some 21) none (.mov (.t 20)),
   .op (some 22) (some (21, false)) (.load true 4 (.t 4)),
   .op (some 23) (some (21, false)) (.mov (.t 2)),
   .op (some 24) (some (21, false)) (.call .f (.c (.fn 9 [])) [.t 22, .t 23]),
   .op (some 25) (some (21, false)) (.field false 1 0 (.t 24)),
   .op (some 26) (some (21, false)) (.bin .neq false [.i] (.t 25) (.c (.int .i64 (0)))),
   .op (some 27) none (.pick (.t 21) (.c (.bool true)) (.t 26)),
   .op (some 28) none (.mov (.t 27)),
   .op (some 29) (some (28, false)) (.mov (.t 3)),
   .op (some 30) (some (28, false)) (.faddr 3 (.t 4)),
   .op (some 31) (some (28, false)) (.load false 1 (.t 30)),
   .op (some 32) (some (28, false)) (.len false (.t 31)),
   .op (some 33) (some (28, false)) (.bin .sub false [] (.t 32) (.c (.int .i64 (1)))),
   .op (some 34) (some (28, false)) (.call .f (.c (.fn 16 [])) [.t 29, .c (.int .i64 (0)), .t 33]),
   .op (some 35) (some (28, false)) (.not (.t 34)),
   .op (some 36) none (.pick (.t 28) (.c (.bool true)) (.t 35))])
   (.cut
   (.cond (.t 36)
   (.seq
   (.ops [
   .op (some 8) none (.mov (.c (.bool true)))])
   .ret)
   .skip)))
   (.cut
   (.seq
   (.ops [
   .op (some 38) none (.load true 4 (.t 4)),
   .op (some 39) none (.mov (.t 2)),
   .op (some 40) none (.mov (.t 3)),
   .op (some 41) none (.call .f (.c (.fn 20 [])) [.t 38, .t 39, .t 40]),
   .op (some 37) none (.mov (.t 41)),
   .op (some 42) none (.extract (.t 37) 0),
   .op (some 43) none (.extract (.t 37) 1),
   .op (some 44) none (.extract (.t 37) 2),
   .op (some 11) none (.alloc 384706 (.agg [.int .i64 (0), .int .i64 (0)])),
   .op (some 9) none (.mov (.t 42)),
   .op (some 10) none (.mov (.t 43)),
   .op none none (.store 2 (.t 11) (.t 44))])
   (.cut
   (.seq
   (.ops [
   .op (some 46) none (.load true 4 (.t 4)),
   .op (some 47) none (.mov (.t 1)),
   .op (some 48) none (.mov (.t 3)),
   .op (some 49) none (.call .f (.c (.fn 18 [])) [.t 46, .t 47, .t 48]),
   .op (some 45) none (.mov (.t 49)),
   .op (some 50) none (.extract (.t 45) 0),
   .op (some 51) none (.extract (.t 45) 1),
   .op (some 13) none (.alloc 384834 (.agg [.int .i64 (0), .int .i64 (0)])),
   .op (some 12) none (.mov (.t 50)),
   .op none none (.store 2 (.t 13) (.t 51))])
   (.cut
   (.seq
   (.ops [
   .op (some 52) none (.faddr 0 (.t 11)),
   .op (some 53) none (.load false 1 (.t 52)),
   .op (some 54) none (.bin .eql false [.i] (.t 53) (.c (.int .i64 (0)))),
   .op (some 55) none (.mov (.t 54)),
   .op (some 56) (some (55, true)) (.mov (.t 10)),
   .op (some 57) (some (55, true)) (.mov (.t 56)),
   .op (some 58) (some (57, true)) (.mov (.t 9)),
   .op (some 59) (some (57, true)) (.mov (.t 1)),
   .op (some 60) (some (57, true)) (.call .f (.c (.fn 31 [])) [.t 58, .t 59]),
   .op (some 61) (some (55, true)) (.pick (.t 57) (.t 60) (.c (.bool false))),
   .op (some 62) (some (55, true)) (.faddr 0 (.t 13)),
   .op (some 63) (some (55, true)) (.load false 1 (.t 62)),
   .op (some 64) (some (55, true)) (.bin .eql false [.i] (.t 63) (.c (.int .i64 (0)))),
   .op (some 65) (some (55, true)) (.mov (.t 64)),
   .op (some 66) (some (65, true)) (.mov (.t 2)),
   .op (some 67) (some (65, true)) (.mov (.t 12)),
   .op (some 68) (some (65, true)) (.call .f (.c (.fn 31 [])) [.t 66, .t 67]),
   .op (some 69) (some (55, true)) (.pick (.t 65) (.t 68) (.c (.bool false))),
   .op (some 70) (some (55, true)) (.bin .eql false [.b] (.t 61) (.t 69)),
   .op (some 71) none (.pick (.t 55) (.t 70) (.c (.bool false))),
   .op (some 8) none (.mov (.t 71))])
   .ret)))))))))))
def r_L1_StripsRegressionIsExact : List RVar := [.tmp 8]
def n_L1_StripsRegressionIsExact : Nat := 72
theorem k_L1_StripsRegressionIsExact : chkFn Go.Proofs.Try.prog 6 n_L1_StripsRegressionIsExact r_L1_StripsRegressionIsExact c_L1_StripsRegressionIsExact = true := by kernel_rfl
theorem f_L1_StripsRegressionIsExact (t : STask) (ho : SkOk t) (s goal : List Int) (hs : s.length ≤ 140737488355328) (hg : goal.length ≤ 140737488355328) (op : Int) : Fc Go.Proofs.Try.prog 6 [skV t, .sl .p (s.map i64V), .sl .p (goal.map i64V), .int .i64 op] (.bool true) := by
  have hT := f_L1_acts
  have l5 := ho.o
  have hF := f_R1_StateFault t ho s hs
  have hG := f_R1_StateFault t ho goal hg
  by_cases hb : stFault t s = okF
  · rw [hb] at hF
    by_cases hb2 : stFault t goal = okF
    · rw [hb2] at hG
      have hI := f_R1_In op 0 ((t.ops.length : Int) - 1)
      by_cases hr : 0 ≤ op ∧ op < t.ops.length
      · rw [show (decide (0 ≤ op) && decide (op ≤ (t.ops.length : Int) - 1)) = true from by simp; omega] at hI
        obtain ⟨r0, r1⟩ := hr
        obtain ⟨o, hc⟩ := get_some (l := t.ops) (k := op.toNat) (by omega)
        obtain ⟨hv, hss, _⟩ := stFault_ok hb
        obtain ⟨_, hgs, _⟩ := stFault_ok hb2
        have hoo := hv.op o (mem_get hc)
        have hR := f_strips_Regress_ok t ho goal hb2 op r0 r1 o hc
        have hA := f_strips_Apply_ok t ho s hb op r0 r1 o hc
        have hsl := set_le hv hss
        have hgl := set_le hv hgs
        have hnl := set_le hv (updL_set (del := o.del) hss hoo.add)
        have hrl := set_le hv (updL_set (del := o.add) hgs hoo.pre)
        have hS1 := f_R1_Subset (updL goal o.pre o.add) s (by omega) (by omega)
        have hS2 := f_R1_Subset goal (updL s o.add o.del) (by omega) (by omega)
        change Fc _ _ _ (.bool (inclB (updL goal o.pre o.add) s)) at hS1
        change Fc _ _ _ (.bool (inclB goal (updL s o.add o.del))) at hS2
        cases d : disjB goal o.del with
        | true =>
          rw [d, if_pos rfl] at hR
          have hx := regr_exact (s := s) (o_pre := o.pre) (o_add := o.add) d
          cases i : inclB o.pre s with
          | true =>
            rw [i, if_pos rfl] at hA
            rw [i] at hx
            have e : inclB (updL goal o.pre o.add) s = inclB goal (updL s o.add o.del) := by
              rw [Bool.eq_iff_iff, hx]; simp
            rw [e] at hS1
            clear e hx
            cases hq : inclB goal (updL s o.add o.del)
            all_goals
              rw [hq] at hS1 hS2
              refine Fn.step mixed k_L1_StripsRegressionIsExact ?_
              repeat' (first | refine i_len rfl ?_ | refine i_s rfl ?_ | refine i_lenm rfl rfl rfl ?_ | refine c_seq ?_ | refine c_cut0 ?_ | refine c_ops ?_ | refine i_nil ?_ | refine e_seq ?_ | refine e_block ?_ | refine c_block ?_ | refine c_skip ?_ | refine c_ret ?_ | refine c_exit ?_ | refine e_exit rfl ?_ | refine i_s0 rfl ?_ | refine c_leaf ?_ | refine i_gt rfl ?_ | refine i_gf rfl ?_ | refine i_gd rfl ?_ | refine c_t rfl ?_ | refine c_f rfl ?_ | refine i_conv rfl (by simp only [InR, List.length_map]; omega) ?_ | refine i_add rfl rfl (by simp only [InR, List.length_map]; omega) ?_ | refine i_sub rfl rfl (by simp only [InR, List.length_map]; omega) ?_ | refine i_ixm rfl rfl (by assumption) ?_ | refine i_iai rfl rfl (by omega) (by assumption) rfl ?_ | refine i_iam rfl rfl (by assumption) rfl ?_ | refine i_tk rfl rfl (by omega) ?_ | refine i_stb rfl ?_ | refine i_alloc rfl ?_ | refine i_box rfl rfl ?_ | refine i_nv rfl ?_ | refine c_node ?_ ?_ | refine i_g rfl (fun h => ?_) (fun h => ?_) | refine c_cond rfl (fun h => ?_) (fun h => ?_) | refine i_f rfl rfl (hT) rfl ?_ | refine i_f rfl rfl (hF) rfl ?_ | refine i_f rfl rfl (hG) rfl ?_ | refine i_f rfl rfl (hI) rfl ?_ | refine i_f rfl rfl (hR) rfl ?_ | refine i_f rfl rfl (hA) rfl ?_ | refine i_f rfl rfl (hS1) rfl ?_ | refine i_f rfl rfl (hS2) rfl ?_)
              exact e_ret ⟨rfl, _, rfl, rfl⟩
          | false =>
            rw [i, if_neg (by simp)] at hA
            rw [i] at hx
            have e : inclB (updL goal o.pre o.add) s = false := by
              cases h : inclB (updL goal o.pre o.add) s with
              | false => rfl
              | true => have := hx.1 h; simp at this
            rw [e] at hS1
            refine Fn.step mixed k_L1_StripsRegressionIsExact ?_
            repeat' (first | refine i_len rfl ?_ | refine i_s rfl ?_ | refine i_lenm rfl rfl rfl ?_ | refine c_seq ?_ | refine c_cut0 ?_ | refine c_ops ?_ | refine i_nil ?_ | refine e_seq ?_ | refine e_block ?_ | refine c_block ?_ | refine c_skip ?_ | refine c_ret ?_ | refine c_exit ?_ | refine e_exit rfl ?_ | refine i_s0 rfl ?_ | refine c_leaf ?_ | refine i_gt rfl ?_ | refine i_gf rfl ?_ | refine i_gd rfl ?_ | refine c_t rfl ?_ | refine c_f rfl ?_ | refine i_conv rfl (by simp only [InR, List.length_map]; omega) ?_ | refine i_add rfl rfl (by simp only [InR, List.length_map]; omega) ?_ | refine i_sub rfl rfl (by simp only [InR, List.length_map]; omega) ?_ | refine i_ixm rfl rfl (by assumption) ?_ | refine i_iai rfl rfl (by omega) (by assumption) rfl ?_ | refine i_iam rfl rfl (by assumption) rfl ?_ | refine i_tk rfl rfl (by omega) ?_ | refine i_stb rfl ?_ | refine i_alloc rfl ?_ | refine i_box rfl rfl ?_ | refine i_nv rfl ?_ | refine c_node ?_ ?_ | refine i_g rfl (fun h => ?_) (fun h => ?_) | refine c_cond rfl (fun h => ?_) (fun h => ?_) | refine i_f rfl rfl (hT) rfl ?_ | refine i_f rfl rfl (hF) rfl ?_ | refine i_f rfl rfl (hG) rfl ?_ | refine i_f rfl rfl (hI) rfl ?_ | refine i_f rfl rfl (hR) rfl ?_ | refine i_f rfl rfl (hA) rfl ?_ | refine i_f rfl rfl (hS1) rfl ?_ | refine i_f rfl rfl (hS2) rfl ?_)
            exact e_ret ⟨rfl, _, rfl, rfl⟩
        | false =>
          rw [d, if_neg (by simp)] at hR
          rw [regr_none d hoo.dis] at hS2
          cases i : inclB o.pre s with
          | true =>
            rw [i, if_pos rfl] at hA
            refine Fn.step mixed k_L1_StripsRegressionIsExact ?_
            repeat' (first | refine i_len rfl ?_ | refine i_s rfl ?_ | refine i_lenm rfl rfl rfl ?_ | refine c_seq ?_ | refine c_cut0 ?_ | refine c_ops ?_ | refine i_nil ?_ | refine e_seq ?_ | refine e_block ?_ | refine c_block ?_ | refine c_skip ?_ | refine c_ret ?_ | refine c_exit ?_ | refine e_exit rfl ?_ | refine i_s0 rfl ?_ | refine c_leaf ?_ | refine i_gt rfl ?_ | refine i_gf rfl ?_ | refine i_gd rfl ?_ | refine c_t rfl ?_ | refine c_f rfl ?_ | refine i_conv rfl (by simp only [InR, List.length_map]; omega) ?_ | refine i_add rfl rfl (by simp only [InR, List.length_map]; omega) ?_ | refine i_sub rfl rfl (by simp only [InR, List.length_map]; omega) ?_ | refine i_ixm rfl rfl (by assumption) ?_ | refine i_iai rfl rfl (by omega) (by assumption) rfl ?_ | refine i_iam rfl rfl (by assumption) rfl ?_ | refine i_tk rfl rfl (by omega) ?_ | refine i_stb rfl ?_ | refine i_alloc rfl ?_ | refine i_box rfl rfl ?_ | refine i_nv rfl ?_ | refine c_node ?_ ?_ | refine i_g rfl (fun h => ?_) (fun h => ?_) | refine c_cond rfl (fun h => ?_) (fun h => ?_) | refine i_f rfl rfl (hT) rfl ?_ | refine i_f rfl rfl (hF) rfl ?_ | refine i_f rfl rfl (hG) rfl ?_ | refine i_f rfl rfl (hI) rfl ?_ | refine i_f rfl rfl (hR) rfl ?_ | refine i_f rfl rfl (hA) rfl ?_ | refine i_f rfl rfl (hS1) rfl ?_ | refine i_f rfl rfl (hS2) rfl ?_)
            exact e_ret ⟨rfl, _, rfl, rfl⟩
          | false =>
            rw [i, if_neg (by simp)] at hA
            refine Fn.step mixed k_L1_StripsRegressionIsExact ?_
            repeat' (first | refine i_len rfl ?_ | refine i_s rfl ?_ | refine i_lenm rfl rfl rfl ?_ | refine c_seq ?_ | refine c_cut0 ?_ | refine c_ops ?_ | refine i_nil ?_ | refine e_seq ?_ | refine e_block ?_ | refine c_block ?_ | refine c_skip ?_ | refine c_ret ?_ | refine c_exit ?_ | refine e_exit rfl ?_ | refine i_s0 rfl ?_ | refine c_leaf ?_ | refine i_gt rfl ?_ | refine i_gf rfl ?_ | refine i_gd rfl ?_ | refine c_t rfl ?_ | refine c_f rfl ?_ | refine i_conv rfl (by simp only [InR, List.length_map]; omega) ?_ | refine i_add rfl rfl (by simp only [InR, List.length_map]; omega) ?_ | refine i_sub rfl rfl (by simp only [InR, List.length_map]; omega) ?_ | refine i_ixm rfl rfl (by assumption) ?_ | refine i_iai rfl rfl (by omega) (by assumption) rfl ?_ | refine i_iam rfl rfl (by assumption) rfl ?_ | refine i_tk rfl rfl (by omega) ?_ | refine i_stb rfl ?_ | refine i_alloc rfl ?_ | refine i_box rfl rfl ?_ | refine i_nv rfl ?_ | refine c_node ?_ ?_ | refine i_g rfl (fun h => ?_) (fun h => ?_) | refine c_cond rfl (fun h => ?_) (fun h => ?_) | refine i_f rfl rfl (hT) rfl ?_ | refine i_f rfl rfl (hF) rfl ?_ | refine i_f rfl rfl (hG) rfl ?_ | refine i_f rfl rfl (hI) rfl ?_ | refine i_f rfl rfl (hR) rfl ?_ | refine i_f rfl rfl (hA) rfl ?_ | refine i_f rfl rfl (hS1) rfl ?_ | refine i_f rfl rfl (hS2) rfl ?_)
            exact e_ret ⟨rfl, _, rfl, rfl⟩
      · rw [show (decide (0 ≤ op) && decide (op ≤ (t.ops.length : Int) - 1)) = false from by
          cases h : (decide (0 ≤ op) && decide (op ≤ (t.ops.length : Int) - 1)) with
          | false => rfl
          | true => simp at h; omega] at hI
        refine Fn.step mixed k_L1_StripsRegressionIsExact ?_
        repeat' (first | refine i_len rfl ?_ | refine i_s rfl ?_ | refine i_lenm rfl rfl rfl ?_ | refine c_seq ?_ | refine c_cut0 ?_ | refine c_ops ?_ | refine i_nil ?_ | refine e_seq ?_ | refine e_block ?_ | refine c_block ?_ | refine c_skip ?_ | refine c_ret ?_ | refine c_exit ?_ | refine e_exit rfl ?_ | refine i_s0 rfl ?_ | refine c_leaf ?_ | refine i_gt rfl ?_ | refine i_gf rfl ?_ | refine i_gd rfl ?_ | refine c_t rfl ?_ | refine c_f rfl ?_ | refine i_conv rfl (by simp only [InR, List.length_map]; omega) ?_ | refine i_add rfl rfl (by simp only [InR, List.length_map]; omega) ?_ | refine i_sub rfl rfl (by simp only [InR, List.length_map]; omega) ?_ | refine i_ixm rfl rfl (by assumption) ?_ | refine i_iai rfl rfl (by omega) (by assumption) rfl ?_ | refine i_iam rfl rfl (by assumption) rfl ?_ | refine i_tk rfl rfl (by omega) ?_ | refine i_stb rfl ?_ | refine i_alloc rfl ?_ | refine i_box rfl rfl ?_ | refine i_nv rfl ?_ | refine c_node ?_ ?_ | refine i_g rfl (fun h => ?_) (fun h => ?_) | refine c_cond rfl (fun h => ?_) (fun h => ?_) | refine i_f rfl rfl (hT) rfl ?_ | refine i_f rfl rfl (hF) rfl ?_ | refine i_f rfl rfl (hG) rfl ?_ | refine i_f rfl rfl (hI) rfl ?_)
        exact e_ret ⟨rfl, _, rfl, rfl⟩
    · have hne : (stFault t goal).code ≠ 0 := fun h => hb2 ((stFault_iff t goal).1 h)
      generalize stFault t goal = F at *
      refine Fn.step mixed k_L1_StripsRegressionIsExact ?_
      repeat' (first | refine i_len rfl ?_ | refine i_s rfl ?_ | refine i_lenm rfl rfl rfl ?_ | refine c_seq ?_ | refine c_cut0 ?_ | refine c_ops ?_ | refine i_nil ?_ | refine e_seq ?_ | refine e_block ?_ | refine c_block ?_ | refine c_skip ?_ | refine c_ret ?_ | refine c_exit ?_ | refine e_exit rfl ?_ | refine i_s0 rfl ?_ | refine c_leaf ?_ | refine i_gt rfl ?_ | refine i_gf rfl ?_ | refine i_gd rfl ?_ | refine c_t rfl ?_ | refine c_f rfl ?_ | refine i_conv rfl (by simp only [InR, List.length_map]; omega) ?_ | refine i_add rfl rfl (by simp only [InR, List.length_map]; omega) ?_ | refine i_sub rfl rfl (by simp only [InR, List.length_map]; omega) ?_ | refine i_ixm rfl rfl (by assumption) ?_ | refine i_iai rfl rfl (by omega) (by assumption) rfl ?_ | refine i_iam rfl rfl (by assumption) rfl ?_ | refine i_tk rfl rfl (by omega) ?_ | refine i_stb rfl ?_ | refine i_alloc rfl ?_ | refine i_box rfl rfl ?_ | refine i_nv rfl ?_ | refine c_node ?_ ?_ | refine i_g rfl (fun h => ?_) (fun h => ?_) | refine c_cond rfl (fun h => ?_) (fun h => ?_) | refine i_f rfl rfl (hT) rfl ?_ | refine i_f rfl rfl (hF) rfl ?_ | refine i_f rfl rfl (hG) rfl ?_)
      all_goals first
        | exact e_ret ⟨rfl, _, rfl, rfl⟩
        | (exfalso; clear hF hG hT ho hb2; simp at *; omega)
  · have hne : (stFault t s).code ≠ 0 := fun h => hb ((stFault_iff t s).1 h)
    generalize stFault t s = F at *
    refine Fn.step mixed k_L1_StripsRegressionIsExact ?_
    repeat' (first | refine i_len rfl ?_ | refine i_s rfl ?_ | refine i_lenm rfl rfl rfl ?_ | refine c_seq ?_ | refine c_cut0 ?_ | refine c_ops ?_ | refine i_nil ?_ | refine e_seq ?_ | refine e_block ?_ | refine c_block ?_ | refine c_skip ?_ | refine c_ret ?_ | refine c_exit ?_ | refine e_exit rfl ?_ | refine i_s0 rfl ?_ | refine c_leaf ?_ | refine i_gt rfl ?_ | refine i_gf rfl ?_ | refine i_gd rfl ?_ | refine c_t rfl ?_ | refine c_f rfl ?_ | refine i_conv rfl (by simp only [InR, List.length_map]; omega) ?_ | refine i_add rfl rfl (by simp only [InR, List.length_map]; omega) ?_ | refine i_sub rfl rfl (by simp only [InR, List.length_map]; omega) ?_ | refine i_ixm rfl rfl (by assumption) ?_ | refine i_iai rfl rfl (by omega) (by assumption) rfl ?_ | refine i_iam rfl rfl (by assumption) rfl ?_ | refine i_tk rfl rfl (by omega) ?_ | refine i_stb rfl ?_ | refine i_alloc rfl ?_ | refine i_box rfl rfl ?_ | refine i_nv rfl ?_ | refine c_node ?_ ?_ | refine i_g rfl (fun h => ?_) (fun h => ?_) | refine c_cond rfl (fun h => ?_) (fun h => ?_) | refine i_f rfl rfl (hT) rfl ?_ | refine i_f rfl rfl (hF) rfl ?_ | refine i_f rfl rfl (hG) rfl ?_)
    all_goals first
      | exact e_ret ⟨rfl, _, rfl, rfl⟩
      | (exfalso; clear hF hG hT ho hb; simp at *; omega)
end Hm
end
