/- Contracts: members; closed examples. -/
import Derived.Test.YtdncnfiinemnpaaTypesA
section
/- Contracts: members; closed examples. -/
namespace Hm
open Go
set_option maxRecDepth 100000
set_option linter.unusedSimpArgs false
set_option linter.unusedVariables false
theorem obBad_code (n : Nat) (l : List Obj) (i : Nat) : ∀ f, obBad n l i = some f → f.code ≠ 0 := by
  intro f h
  unfold obBad at h
  split at h
  · cases h
  · repeat' split at h
    all_goals cases h
    all_goals simp
theorem objectsFault_valid {n : Nat} {l : List Obj} (h : objectsFault n l = okF) : l.length ≤ 8 ∧ ∀ o ∈ l, -1 ≤ o.type ∧ o.type < n := by
  unfold objectsFault at h
  split at h
  · cases h
  · rename_i h8
    have hs := getD_ok (scan_prop (bad := obBad n l) (fun o => ∀ f, o = some f → f.code ≠ 0) (by simp) (fun i => obBad_code n l i) l.length 0) h
    refine ⟨by omega, fun o ho => ?_⟩
    obtain ⟨i, hi, e⟩ := List.getElem_of_mem ho
    have hg : l[i]? = some o := by rw [← e]; exact List.getElem?_eq_getElem hi
    have := scan_all _ _ hs i (Nat.zero_le _) (by omega)
    unfold obBad at this
    rw [hg] at this
    simp only at this
    split at this
    · cases this
    · split at this
      · cases this
      · split at this
        · cases this
        · omega
theorem objectsFault_code (n : Nat) (l : List Obj) : (objectsFault n l).code = 0 ↔ objectsFault n l = okF := by
  refine ⟨fun h => ?_, fun h => by rw [h]; rfl⟩
  unfold objectsFault at h ⊢
  split at h
  · cases h
  · rename_i h8
    rw [if_neg h8]
    have := scan_prop (bad := obBad n l) (fun o => ∀ f, o = some f → f.code ≠ 0) (by simp) (fun i => obBad_code n l i) l.length 0
    cases hs : scan (obBad n l) 0 l.length with
    | none => rfl
    | some f => rw [hs] at h; exact absurd h (this f hs)
def c_types_Members : Cmd :=
  (.seq
   (.ops [
   .op (some 6) none (.mov (.c (.sl .nil []))),
   .op (some 7) none (.alloc 1344450 (.agg [.int .i64 (0), .int .i64 (0)]))])
   (.cut
   (.seq
   (.ops [
   .op (some 9) none (.mov (.t 0)),
   .op (some 10) none (.mov (.t 2)),
   .op (some 11) none (.bsl 1 [.t 10]),
   .op (some 12) none (.call .f (.c (.fn 41 [])) [.t 9, .t 11]),
   .op (some 8) none (.alloc 1344514 (.agg [.int .i64 (0), .int .i64 (0)])),
   .op none none (.store 2 (.t 8) (.t 12))])
   (.cut
   (.seq
   (.seq
   (.ops [
   .op (some 13) none (.load true 2 (.t 8)),
   .op (some 14) none (.build [.int .i64 (0), .int .i64 (0)] []),
   .op (some 15) none (.bin .eql true [.i, .i] (.t 13) (.t 14))])
   (.cut
   (.cond (.t 15)
   (.ops [
   .op (some 16) none (.mov (.t 0)),
   .op (some 17) none (.mov (.t 1)),
   .op (some 18) none (.call .f (.c (.fn 46 [])) [.t 16, .t 17]),
   .op none none (.store 2 (.t 8) (.t 18))])
   .skip)))
   (.cut
   (.seq
   (.seq
   (.ops [
   .op (some 19) none (.load true 2 (.t 8)),
   .op (some 20) none (.build [.int .i64 (0), .int .i64 (0)] []),
   .op (some 21) none (.bin .neq true [.i, .i] (.t 19) (.t 20))])
   (.cut
   (.cond (.t 21)
   (.seq
   (.ops [
   .op (some 22) none (.load true 2 (.t 8)),
   .op (some 6) none (.mov (.c (.sl .nil []))),
   .op none none (.store 2 (.t 7) (.t 22))])
   .ret)
   .skip)))
   (.cut
   (.seq
   (.ops [
   .op (some 23) none (.mov (.t 0)),
   .op (some 24) none (.mov (.t 1)),
   .op (some 25) none (.mov (.t 2)),
   .op (some 26) none (.call .f (.c (.fn 47 [])) [.t 23, .t 24, .t 25]),
   .op (some 27) none (.build [.int .i64 (0), .int .i64 (0)] []),
   .op (some 6) none (.mov (.t 26)),
   .op none none (.store 2 (.t 7) (.t 27))])
   .ret)))))))))
def r_types_Members : List RVar := [.tmp 6, .cell true 2 7]
def n_types_Members : Nat := 28
theorem k_types_Members : chkFn Go.Proofs.Try.prog 21 n_types_Members r_types_Members c_types_Members = true := by kernel_rfl
theorem f_types_Members_bad1 (l : List Typ) (ho : TyOk l) (os : List Obj) (hos : ObOk os) (t : Int) (hb : checkF l [t] ≠ okF) : Fc Go.Proofs.Try.prog 21 [.sl .p (l.map tyV), .sl .p (os.map obV), .int .i64 t] (.tup [.sl .p [], ftV (checkF l [t])]) := by
  refine Fn.step mixed k_types_Members ?_
  repeat' (first | refine i_s rfl ?_ | refine c_seq ?_ | refine c_cut0 ?_ | refine c_ops ?_ | refine i_nil ?_ | refine e_seq ?_ | refine e_block ?_ | refine c_block ?_ | refine c_skip ?_ | refine c_ret ?_ | refine c_exit ?_ | refine e_exit rfl ?_ | refine i_s0 rfl ?_ | refine c_leaf ?_ | refine i_gt rfl ?_ | refine i_gf rfl ?_ | refine i_gd rfl ?_ | refine c_t rfl ?_ | refine c_f rfl ?_ | refine i_conv rfl (by simp only [InR, List.length_map]; omega) ?_ | refine i_add rfl rfl (by simp only [InR, List.length_map]; omega) ?_ | refine i_sub rfl rfl (by simp only [InR, List.length_map]; omega) ?_ | refine i_ixm rfl rfl (by assumption) ?_ | refine i_iam rfl rfl (by assumption) rfl ?_ | refine i_tk rfl rfl (by omega) ?_ | refine i_stb rfl ?_ | refine i_alloc rfl ?_ | refine i_box rfl rfl ?_ | refine i_nv rfl ?_ | refine c_node ?_ ?_ | refine i_g rfl (fun h => ?_) (fun h => ?_) | refine c_cond rfl (fun h => ?_) (fun h => ?_) | refine i_f rfl rfl (f_types_check l ho [t] (by simp)) rfl ?_)
  · exact absurd (eq_ok' h) hb
  · exact e_ret ⟨rfl, _, rfl, rfl⟩
  · exact absurd (eq_ok h) hb
theorem f_types_Members_bad2 (l : List Typ) (ho : TyOk l) (os : List Obj) (hos : ObOk os) (t : Int) (hb : checkF l [t] = okF) (hb2 : objectsFault l.length os ≠ okF) : Fc Go.Proofs.Try.prog 21 [.sl .p (l.map tyV), .sl .p (os.map obV), .int .i64 t] (.tup [.sl .p [], ftV (objectsFault l.length os)]) := by
  have hck := f_types_check l ho [t] (by simp)
  rw [hb] at hck
  refine Fn.step mixed k_types_Members ?_
  repeat' (first | refine i_s rfl ?_ | refine c_seq ?_ | refine c_cut0 ?_ | refine c_ops ?_ | refine i_nil ?_ | refine e_seq ?_ | refine e_block ?_ | refine c_block ?_ | refine c_skip ?_ | refine c_ret ?_ | refine c_exit ?_ | refine e_exit rfl ?_ | refine i_s0 rfl ?_ | refine c_leaf ?_ | refine i_gt rfl ?_ | refine i_gf rfl ?_ | refine i_gd rfl ?_ | refine c_t rfl ?_ | refine c_f rfl ?_ | refine i_conv rfl (by simp only [InR, List.length_map]; omega) ?_ | refine i_add rfl rfl (by simp only [InR, List.length_map]; omega) ?_ | refine i_sub rfl rfl (by simp only [InR, List.length_map]; omega) ?_ | refine i_ixm rfl rfl (by assumption) ?_ | refine i_iam rfl rfl (by assumption) rfl ?_ | refine i_tk rfl rfl (by omega) ?_ | refine i_stb rfl ?_ | refine i_alloc rfl ?_ | refine i_box rfl rfl ?_ | refine i_nv rfl ?_ | refine c_node ?_ ?_ | refine i_g rfl (fun h => ?_) (fun h => ?_) | refine c_cond rfl (fun h => ?_) (fun h => ?_) | refine i_f rfl rfl (hck) rfl ?_ | refine i_f rfl rfl (f_types_Objects l ho.1 os hos) rfl ?_)
  · exact e_ret ⟨rfl, _, rfl, rfl⟩
  · exact absurd (eq_ok h) hb2
theorem f_types_Members_ok (l : List Typ) (ho : TyOk l) (os : List Obj) (hos : ObOk os) (t : Int) (hb : checkF l [t] = okF) (hb2 : objectsFault l.length os = okF) : Fc Go.Proofs.Try.prog 21 [.sl .p (l.map tyV), .sl .p (os.map obV), .int .i64 t] (.tup [.sl .p ((membersOf l os t).map i64V), ftV okF]) := by
  have hck := f_types_check l ho [t] (by simp)
  rw [hb] at hck
  have hob := f_types_Objects l ho.1 os hos
  rw [hb2] at hob
  obtain ⟨hv, hr⟩ := checkF_valid hb
  obtain ⟨h8, hor⟩ := objectsFault_valid hb2
  refine Fn.step mixed k_types_Members ?_
  repeat' (first | refine i_s rfl ?_ | refine c_seq ?_ | refine c_cut0 ?_ | refine c_ops ?_ | refine i_nil ?_ | refine e_seq ?_ | refine e_block ?_ | refine c_block ?_ | refine c_skip ?_ | refine c_ret ?_ | refine c_exit ?_ | refine e_exit rfl ?_ | refine i_s0 rfl ?_ | refine c_leaf ?_ | refine i_gt rfl ?_ | refine i_gf rfl ?_ | refine i_gd rfl ?_ | refine c_t rfl ?_ | refine c_f rfl ?_ | refine i_conv rfl (by simp only [InR, List.length_map]; omega) ?_ | refine i_add rfl rfl (by simp only [InR, List.length_map]; omega) ?_ | refine i_sub rfl rfl (by simp only [InR, List.length_map]; omega) ?_ | refine i_ixm rfl rfl (by assumption) ?_ | refine i_iam rfl rfl (by assumption) rfl ?_ | refine i_tk rfl rfl (by omega) ?_ | refine i_stb rfl ?_ | refine i_alloc rfl ?_ | refine i_box rfl rfl ?_ | refine i_nv rfl ?_ | refine c_node ?_ ?_ | refine i_g rfl (fun h => ?_) (fun h => ?_) | refine c_cond rfl (fun h => ?_) (fun h => ?_) | refine i_f rfl rfl (hck) rfl ?_ | refine i_f rfl rfl (hob) rfl ?_ | refine i_f rfl rfl (f_types_Of l hv os h8 hor t) rfl ?_)
  exact e_ret ⟨rfl, _, rfl, rfl⟩
def c_L1_sub : Cmd :=
  (.seq
   (.ops [
   .op (some 6) none (.mov (.c (.bool false)))])
   (.cut
   (.seq
   (.ops [
   .op (some 10) none (.mov (.t 0)),
   .op (some 11) none (.mov (.t 1)),
   .op (some 12) none (.mov (.t 2)),
   .op (some 13) none (.call .f (.c (.fn 16 [])) [.t 10, .t 11, .t 12]),
   .op (some 9) none (.mov (.t 13)),
   .op (some 14) none (.extract (.t 9) 0),
   .op (some 15) none (.extract (.t 9) 1),
   .op (some 8) none (.alloc 1536514 (.agg [.int .i64 (0), .int .i64 (0)])),
   .op (some 7) none (.mov (.t 14)),
   .op none none (.store 2 (.t 8) (.t 15))])
   (.cut
   (.seq
   (.ops [
   .op (some 16) none (.faddr 0 (.t 8)),
   .op (some 17) none (.load false 1 (.t 16)),
   .op (some 18) none (.bin .eql false [.i] (.t 17) (.c (.int .i64 (0)))),
   .op (some 19) none (.mov (.t 18)),
   .op (some 20) (some (19, true)) (.mov (.t 7)),
   .op (some 21) none (.pick (.t 19) (.t 20) (.c (.bool false))),
   .op (some 6) none (.mov (.t 21))])
   .ret)))))
def r_L1_sub : List RVar := [.tmp 6]
def n_L1_sub : Nat := 22
theorem k_L1_sub : chkFn Go.Proofs.Try.prog 24 n_L1_sub r_L1_sub c_L1_sub = true := by kernel_rfl
theorem f_L1_sub (l : List Typ) (ho : TyOk l) (a b : Int) : Fc Go.Proofs.Try.prog 24 [.sl .p (l.map tyV), .int .i64 a, .int .i64 b] (.bool (decide (checkF l [a, b] = okF) && subB l a b)) := by
  by_cases hb : checkF l [a, b] = okF
  · refine Fn.step mixed k_L1_sub ?_
    repeat' (first | refine i_s rfl ?_ | refine c_seq ?_ | refine c_cut0 ?_ | refine c_ops ?_ | refine i_nil ?_ | refine e_seq ?_ | refine e_block ?_ | refine c_block ?_ | refine c_skip ?_ | refine c_ret ?_ | refine c_exit ?_ | refine e_exit rfl ?_ | refine i_s0 rfl ?_ | refine c_leaf ?_ | refine i_gt rfl ?_ | refine i_gf rfl ?_ | refine i_gd rfl ?_ | refine c_t rfl ?_ | refine c_f rfl ?_ | refine i_conv rfl (by simp only [InR, List.length_map]; omega) ?_ | refine i_add rfl rfl (by simp only [InR, List.length_map]; omega) ?_ | refine i_sub rfl rfl (by simp only [InR, List.length_map]; omega) ?_ | refine i_ixm rfl rfl (by assumption) ?_ | refine i_iam rfl rfl (by assumption) rfl ?_ | refine i_tk rfl rfl (by omega) ?_ | refine i_stb rfl ?_ | refine i_alloc rfl ?_ | refine i_box rfl rfl ?_ | refine i_nv rfl ?_ | refine c_node ?_ ?_ | refine i_g rfl (fun h => ?_) (fun h => ?_) | refine c_cond rfl (fun h => ?_) (fun h => ?_) | refine i_f rfl rfl (f_types_Sub_ok l ho a b hb) rfl ?_)
    exact e_ret ⟨rfl, _, rfl, by simp [hb]; rfl⟩
  · have hc := checkF_code l [a, b]
    refine Fn.step mixed k_L1_sub ?_
    repeat' (first | refine i_s rfl ?_ | refine c_seq ?_ | refine c_cut0 ?_ | refine c_ops ?_ | refine i_nil ?_ | refine e_seq ?_ | refine e_block ?_ | refine c_block ?_ | refine c_skip ?_ | refine c_ret ?_ | refine c_exit ?_ | refine e_exit rfl ?_ | refine i_s0 rfl ?_ | refine c_leaf ?_ | refine i_gt rfl ?_ | refine i_gf rfl ?_ | refine i_gd rfl ?_ | refine c_t rfl ?_ | refine c_f rfl ?_ | refine i_conv rfl (by simp only [InR, List.length_map]; omega) ?_ | refine i_add rfl rfl (by simp only [InR, List.length_map]; omega) ?_ | refine i_sub rfl rfl (by simp only [InR, List.length_map]; omega) ?_ | refine i_ixm rfl rfl (by assumption) ?_ | refine i_iam rfl rfl (by assumption) rfl ?_ | refine i_tk rfl rfl (by omega) ?_ | refine i_stb rfl ?_ | refine i_alloc rfl ?_ | refine i_box rfl rfl ?_ | refine i_nv rfl ?_ | refine c_node ?_ ?_ | refine i_g rfl (fun h => ?_) (fun h => ?_) | refine c_cond rfl (fun h => ?_) (fun h => ?_) | refine i_f rfl rfl (f_types_Sub_bad l ho a b hb) rfl ?_)
    · exact absurd (hc.1 (by simpa using h)) hb
    · exact e_ret ⟨rfl, _, rfl, by simp [hb]; rfl⟩
def c_R1_Subset : Cmd :=
  (.seq
   (.ops [
   .op (some 4) none (.mov (.c (.bool false)))])
   (.cut
   (.seq
   (.seq
   (.ops [
   .op (some 5) none (.mov (.c (.int .i64 (0))))])
   (.cut
   (.block 0
   (.loop
   (.seq
   (.seq
   (.ops [
   .op (some 6) none (.mov (.t 5)),
   .op (some 7) none (.mov (.t 0)),
   .op (some 8) none (.len false (.t 7)),
   .op (some 9) none (.bin .lss false [] (.t 6) (.t 8))])
   (.cut
   (.cond (.t 9)
   .skip
   (.exit 0))))
   (.cut
   (.seq
   (.block 1
   (.seq
   (.ops [
   .op (some 12) none (.mov (.t 1)),
   .op (some 13) none (.mov (.t 0)),
   .op (some 14) none (.mov (.t 5)),
   .op (some 15) none (.iaddr 1 (.t 13) (.t 14)),
   .op (some 16) none (.load false 1 (.t 15)),
   .op (some 17) none (.call .f (.c (.fn 44 [])) [.t 12, .t 16]),
   .op (some 18) none (.not (.t 17))])
   (.cut
   (.cond (.t 18)
   (.seq
   (.ops [
   .op (some 4) none (.mov (.c (.bool false)))])
   .ret)
   .skip))))
   (.cut
   (.ops [
   .op (some 10) none (.mov (.t 5)),
   .op (some 11) none (.bin .add false [] (.t 10) (.c (.int .i64 (1)))),
   .op (some 5) none (.mov (.t 11))])))))))))
   (.cut
   (.seq
   (.ops [
   .op (some 4) none (.mov (.c (.bool true)))])
   .ret)))))
def r_R1_Subset : List RVar := [.tmp 4]
def n_R1_Subset : Nat := 19
theorem k_R1_Subset : chkFn Go.Proofs.Try.prog 25 n_R1_Subset r_R1_Subset c_R1_Subset = true := by kernel_rfl
theorem f_R1_Subset (xs ys : List Int) (hl : xs.length ≤ 140737488355328) (hl2 : ys.length ≤ 140737488355328) : Fc Go.Proofs.Try.prog 25 [.sl .p (xs.map i64V), .sl .p (ys.map i64V)] (.bool (xs.all fun x => decide (x ∈ ys))) := by
  refine Fn.step mixed k_R1_Subset ?_
  repeat' (first | refine i_s rfl ?_ | refine c_seq ?_ | refine c_cut0 ?_ | refine c_ops ?_ | refine i_nil ?_ | refine e_seq ?_ | refine e_block ?_ | refine c_block ?_ | refine c_skip ?_ | refine c_ret ?_ | refine c_exit ?_ | refine e_exit rfl ?_ | refine i_s0 rfl ?_ | refine c_leaf ?_ | refine i_gt rfl ?_ | refine i_gf rfl ?_ | refine i_gd rfl ?_ | refine c_t rfl ?_ | refine c_f rfl ?_ | refine i_conv rfl (by simp only [InR, List.length_map]; omega) ?_ | refine i_add rfl rfl (by simp only [InR, List.length_map]; omega) ?_ | refine i_sub rfl rfl (by simp only [InR, List.length_map]; omega) ?_ | refine i_ixm rfl rfl (by assumption) ?_ | refine i_iam rfl rfl (by assumption) rfl ?_ | refine i_tk rfl rfl (by omega) ?_ | refine i_stb rfl ?_ | refine i_alloc rfl ?_ | refine i_box rfl rfl ?_ | refine i_nv rfl ?_ | refine c_node ?_ ?_ | refine i_g rfl (fun h => ?_) (fun h => ?_) | refine c_cond rfl (fun h => ?_) (fun h => ?_))
  refine c_for xs.length (fun k => [(0, .sl .p (xs.map i64V)), (1, .sl .p (ys.map i64V)), (5, .int .i64 k)]) (fun _ => []) (fun k => ∀ j, j < k → ∀ c, xs[j]? = some c → c ∈ ys) all_zero ⟨by repeat (first | exact trivial | refine ⟨rfl, ?_⟩), by repeat (first | exact trivial | refine ⟨rfl, ?_⟩), rfl⟩ fun k hk hi => ?_
  repeat (first | refine i_s rfl ?_ | refine c_seq ?_ | refine c_cut0 ?_ | refine c_ops ?_ | refine i_nil ?_ | refine e_seq ?_ | refine e_block ?_ | refine c_block ?_ | refine c_skip ?_ | refine c_ret ?_ | refine c_exit ?_ | refine e_exit rfl ?_ | refine i_s0 rfl ?_ | refine c_leaf ?_ | refine i_gt rfl ?_ | refine i_gf rfl ?_ | refine i_gd rfl ?_ | refine c_t rfl ?_ | refine c_f rfl ?_ | refine i_conv rfl (by simp only [InR, List.length_map]; omega) ?_ | refine i_add rfl rfl (by simp only [InR, List.length_map]; omega) ?_ | refine i_sub rfl rfl (by simp only [InR, List.length_map]; omega) ?_ | refine i_ixm rfl rfl (by assumption) ?_ | refine i_iam rfl rfl (by assumption) rfl ?_ | refine i_tk rfl rfl (by omega) ?_ | refine i_stb rfl ?_ | refine i_alloc rfl ?_ | refine i_box rfl rfl ?_ | refine i_nv rfl ?_)
  refine c_cond rfl (fun h => ?_) (fun h => ?_)
  · have hlt : k < xs.length := by simpa using h
    obtain ⟨c, hc⟩ := get_some hlt
    clear h
    repeat' (first | refine i_s rfl ?_ | refine c_seq ?_ | refine c_cut0 ?_ | refine c_ops ?_ | refine i_nil ?_ | refine e_seq ?_ | refine e_block ?_ | refine c_block ?_ | refine c_skip ?_ | refine c_ret ?_ | refine c_exit ?_ | refine e_exit rfl ?_ | refine i_s0 rfl ?_ | refine c_leaf ?_ | refine i_gt rfl ?_ | refine i_gf rfl ?_ | refine i_gd rfl ?_ | refine c_t rfl ?_ | refine c_f rfl ?_ | refine i_conv rfl (by simp only [InR, List.length_map]; omega) ?_ | refine i_add rfl rfl (by simp only [InR, List.length_map]; omega) ?_ | refine i_sub rfl rfl (by simp only [InR, List.length_map]; omega) ?_ | refine i_ixm rfl rfl (by assumption) ?_ | refine i_iam rfl rfl (by assumption) rfl ?_ | refine i_tk rfl rfl (by omega) ?_ | refine i_stb rfl ?_ | refine i_alloc rfl ?_ | refine i_box rfl rfl ?_ | refine i_nv rfl ?_ | refine c_node ?_ ?_ | refine i_g rfl (fun h => ?_) (fun h => ?_) | refine c_cond rfl (fun h => ?_) (fun h => ?_) | refine i_f rfl rfl (f_R1_Has ys c hl2) rfl ?_)
    · refine e_ret ⟨rfl, _, rfl, congrArg V.bool ?_⟩
      rw [List.all_eq_false]
      exact ⟨c, mem_get hc, by simpa using h⟩
    · exact e_for hlt (all_succ hi fun c' hc' => by rw [hc] at hc'; cases hc'; simpa using h) ⟨by repeat (first | exact trivial | refine ⟨rfl, ?_⟩), by repeat (first | exact trivial | refine ⟨rfl, ?_⟩), rfl⟩
  · have hge : ¬ k < xs.length := by simpa using h
    repeat' (first | refine i_s rfl ?_ | refine c_seq ?_ | refine c_cut0 ?_ | refine c_ops ?_ | refine i_nil ?_ | refine e_seq ?_ | refine e_block ?_ | refine c_block ?_ | refine c_skip ?_ | refine c_ret ?_ | refine c_exit ?_ | refine e_exit rfl ?_ | refine i_s0 rfl ?_ | refine c_leaf ?_ | refine i_gt rfl ?_ | refine i_gf rfl ?_ | refine i_gd rfl ?_ | refine c_t rfl ?_ | refine c_f rfl ?_ | refine i_conv rfl (by simp only [InR, List.length_map]; omega) ?_ | refine i_add rfl rfl (by simp only [InR, List.length_map]; omega) ?_ | refine i_sub rfl rfl (by simp only [InR, List.length_map]; omega) ?_ | refine i_ixm rfl rfl (by assumption) ?_ | refine i_iam rfl rfl (by assumption) rfl ?_ | refine i_tk rfl rfl (by omega) ?_ | refine i_stb rfl ?_ | refine i_alloc rfl ?_ | refine i_box rfl rfl ?_ | refine i_nv rfl ?_ | refine c_node ?_ ?_ | refine i_g rfl (fun h => ?_) (fun h => ?_) | refine c_cond rfl (fun h => ?_) (fun h => ?_))
    refine e_ret ⟨rfl, _, rfl, congrArg V.bool ?_⟩
    rw [List.all_eq_true]
    intro x hx
    obtain ⟨i, hi', e⟩ := List.getElem_of_mem hx
    exact decide_eq_true (hi i (by omega) x (by rw [← e]; exact List.getElem?_eq_getElem hi'))
def ladderT : List Typ := [⟨[97], -1⟩, ⟨[98], 0⟩, ⟨[99], -1⟩]
theorem ladder_ok : TyOk ladderT := ⟨by decide, by decide⟩
def c_L1_ladder : Cmd :=
  (.seq
   (.ops [
   .op (some 0) none (.mov (.c (.sl .nil [])))])
   (.cut
   (.seq
   (.ops [
   .op (some 1) none (.build [.str [], .int .i64 (0)] [(0, 1, .c (.str [97])), (1, 1, .c (.int .i64 (-1)))]),
   .op (some 2) none (.build [.str [], .int .i64 (0)] [(0, 1, .c (.str [98])), (1, 1, .c (.int .i64 (0)))]),
   .op (some 3) none (.build [.str [], .int .i64 (0)] [(0, 1, .c (.str [99])), (1, 1, .c (.int .i64 (-1)))]),
   .op (some 4) none (.bsl 2 [.t 1, .t 2, .t 3]),
   .op (some 0) none (.mov (.t 4))])
   .ret)))
def r_L1_ladder : List RVar := [.tmp 0]
def n_L1_ladder : Nat := 5
theorem k_L1_ladder : chkFn Go.Proofs.Try.prog 34 n_L1_ladder r_L1_ladder c_L1_ladder = true := by kernel_rfl
theorem f_L1_ladder : Fc Go.Proofs.Try.prog 34 [] (.sl .p (ladderT.map tyV)) := by
  refine Fn.step mixed k_L1_ladder ?_
  repeat' (first | refine i_s rfl ?_ | refine c_seq ?_ | refine c_cut0 ?_ | refine c_ops ?_ | refine i_nil ?_ | refine e_seq ?_ | refine e_block ?_ | refine c_block ?_ | refine c_skip ?_ | refine c_ret ?_ | refine c_exit ?_ | refine e_exit rfl ?_ | refine i_s0 rfl ?_ | refine c_leaf ?_ | refine i_gt rfl ?_ | refine i_gf rfl ?_ | refine i_gd rfl ?_ | refine c_t rfl ?_ | refine c_f rfl ?_ | refine i_conv rfl (by simp only [InR, List.length_map]; omega) ?_ | refine i_add rfl rfl (by simp only [InR, List.length_map]; omega) ?_ | refine i_sub rfl rfl (by simp only [InR, List.length_map]; omega) ?_ | refine i_ixm rfl rfl (by assumption) ?_ | refine i_iam rfl rfl (by assumption) rfl ?_ | refine i_tk rfl rfl (by omega) ?_ | refine i_stb rfl ?_ | refine i_alloc rfl ?_ | refine i_box rfl rfl ?_ | refine i_nv rfl ?_ | refine c_node ?_ ?_ | refine i_g rfl (fun h => ?_) (fun h => ?_) | refine c_cond rfl (fun h => ?_) (fun h => ?_))
  exact e_ret ⟨rfl, _, rfl, rfl⟩
def c_L1_typed : Cmd :=
  (.seq
   (.ops [
   .op (some 0) none (.mov (.c (.bool false)))])
   (.cut
   (.seq
   (.ops [
   .op (some 10) none (.call .f (.c (.fn 34 [])) []),
   .op (some 11) none (.call .f (.c (.fn 16 [])) [.t 10, .c (.int .i64 (1)), .c (.int .i64 (0))]),
   .op (some 9) none (.mov (.t 11)),
   .op (some 12) none (.extract (.t 9) 0),
   .op (some 13) none (.extract (.t 9) 1),
   .op (some 2) none (.alloc 768130 (.agg [.int .i64 (0), .int .i64 (0)])),
   .op (some 1) none (.mov (.t 12)),
   .op none none (.store 2 (.t 2) (.t 13))])
   (.cut
   (.seq
   (.ops [
   .op (some 15) none (.call .f (.c (.fn 34 [])) []),
   .op (some 16) none (.call .f (.c (.fn 16 [])) [.t 15, .c (.int .i64 (0)), .c (.int .i64 (1))]),
   .op (some 14) none (.mov (.t 16)),
   .op (some 17) none (.extract (.t 14) 0),
   .op (some 18) none (.extract (.t 14) 1),
   .op (some 4) none (.alloc 768258 (.agg [.int .i64 (0), .int .i64 (0)])),
   .op (some 3) none (.mov (.t 17)),
   .op none none (.store 2 (.t 4) (.t 18))])
   (.cut
   (.seq
   (.ops [
   .op (some 20) none (.call .f (.c (.fn 34 [])) []),
   .op (some 21) none (.call .f (.c (.fn 17 [])) [.t 20, .c (.int .i64 (1)), .c (.int .i64 (2))]),
   .op (some 19) none (.mov (.t 21)),
   .op (some 22) none (.extract (.t 19) 0),
   .op (some 23) none (.extract (.t 19) 1),
   .op (some 6) none (.alloc 768386 (.agg [.int .i64 (0), .int .i64 (0)])),
   .op (some 5) none (.mov (.t 22)),
   .op none none (.store 2 (.t 6) (.t 23))])
   (.cut
   (.seq
   (.ops [
   .op (some 25) none (.call .f (.c (.fn 34 [])) []),
   .op (some 26) none (.build [.str [], .int .i64 (0)] [(0, 1, .c (.str [120])), (1, 1, .c (.int .i64 (1)))]),
   .op (some 27) none (.build [.str [], .int .i64 (0)] [(0, 1, .c (.str [121])), (1, 1, .c (.int .i64 (2)))]),
   .op (some 28) none (.bsl 2 [.t 26, .t 27]),
   .op (some 29) none (.call .f (.c (.fn 21 [])) [.t 25, .t 28, .c (.int .i64 (0))]),
   .op (some 24) none (.mov (.t 29)),
   .op (some 30) none (.extract (.t 24) 0),
   .op (some 31) none (.extract (.t 24) 1),
   .op (some 8) none (.alloc 768514 (.agg [.int .i64 (0), .int .i64 (0)])),
   .op (some 7) none (.mov (.t 30)),
   .op none none (.store 2 (.t 8) (.t 31))])
   (.cut
   (.seq
   (.ops [
   .op (some 32) none (.faddr 0 (.t 2)),
   .op (some 33) none (.load false 1 (.t 32)),
   .op (some 34) none (.bin .eql false [.i] (.t 33) (.c (.int .i64 (0)))),
   .op (some 35) none (.mov (.t 34)),
   .op (some 36) (some (35, true)) (.faddr 0 (.t 4)),
   .op (some 37) (some (35, true)) (.load false 1 (.t 36)),
   .op (some 38) (some (35, true)) (.bin .eql false [.i] (.t 37) (.c (.int .i64 (0)))),
   .op (some 39) none (.pick (.t 35) (.t 38) (.c (.bool false))),
   .op (some 40) none (.mov (.t 39)),
   .op (some 41) (some (40, true)) (.faddr 0 (.t 6)),
   .op (some 42) (some (40, true)) (.load false 1 (.t 41)),
   .op (some 43) (some (40, true)) (.bin .eql false [.i] (.t 42) (.c (.int .i64 (0)))),
   .op (some 44) none (.pick (.t 40) (.t 43) (.c (.bool false))),
   .op (some 45) none (.mov (.t 44)),
   .op (some 46) (some (45, true)) (.faddr 0 (.t 8)),
   .op (some 47) (some (45, true)) (.load false 1 (.t 46)),
   .op (some 48) (some (45, true)) (.bin .eql false [.i] (.t 47) (.c (.int .i64 (0)))),
   .op (some 49) none (.pick (.t 45) (.t 48) (.c (.bool false))),
   .op (some 50) none (.mov (.t 49)),
   .op (some 51) (some (50, true)) (.mov (.t 1)),
   .op (some 52) none (.pick (.t 50) (.t 51) (.c (.bool false))),
   .op (some 53) none (.mov (.t 52)),
   .op (some 54) (some (53, true)) (.mov (.t 3)),
   .op (some 55) (some (53, true)) (.not (.t 54)),
   .op (some 56) none (.pick (.t 53) (.t 55) (.c (.bool false))),
   .op (some 57) none (.mov (.t 56)),
   .op (some 58) (some (57, true)) (.mov (.t 5)),
   .op (some 59) (some (57, true)) (.bin .eql false [.i] (.t 58) (.c (.int .i64 (-1)))),
   .op (some 60) none (.pick (.t 57) (.t 59) (.c (.bool false))),
   .op (some 61) none (.mov (.t 60)),
   .op (some 62) (some (61, true)) (.mov (.t 7)),
   .op (some 63) (some (61, true)) (.bsl 1 [.c (.int .i64 (0))]),
   .op (some 64) (some (61, true)) (.call .f (.c (.fn 22 [])) [.t 62, .t 63]),
   .op (some 65) none (.pick (.t 61) (.t 64) (.c (.bool false))),
   .op (some 66) none (.mov (.t 65)),
   .op (some 67) (some (66, true)) (.build [.str [], .int .i64 (0)] []),
   .op (some 68) (some (66, true)) (.bsl 2 [.t 67]),
   .op (some 69) (some (66, true)) (.call .f (.c (.fn 13 [])) [.t 68]),
   .op (some 70) (some (66, true)) (.call .f (.c (.fn 35 [])) [.c (.int .i64 (12)), .c (.int .i64 (0))]),
   .op (some 71) (some (66, true)) (.bin .eql true [.i, .i] (.t 69) (.t 70)),
   .op (some 72) none (.pick (.t 66) (.t 71) (.c (.bool false))),
   .op (some 0) none (.mov (.t 72))])
   .ret)))))))))))
def r_L1_typed : List RVar := [.tmp 0]
def n_L1_typed : Nat := 73
theorem k_L1_typed : chkFn Go.Proofs.Try.prog 12 n_L1_typed r_L1_typed c_L1_typed = true := by kernel_rfl
theorem f_L1_typed : Fc Go.Proofs.Try.prog 12 [] (.bool true) := by
  have h1 : Fc Go.Proofs.Try.prog 16 [.sl .p (ladderT.map tyV), .int .i64 1, .int .i64 0] (.tup [.bool true, ftV okF]) := f_types_Sub_ok ladderT ladder_ok 1 0 (by decide +kernel)
  have h2 : Fc Go.Proofs.Try.prog 16 [.sl .p (ladderT.map tyV), .int .i64 0, .int .i64 1] (.tup [.bool false, ftV okF]) := f_types_Sub_ok ladderT ladder_ok 0 1 (by decide +kernel)
  have h3 : Fc Go.Proofs.Try.prog 17 [.sl .p (ladderT.map tyV), .int .i64 1, .int .i64 2] (.tup [.int .i64 (-1), ftV okF]) := f_types_Join_ok ladderT ladder_ok 1 2 (by decide +kernel)
  have h4 : Fc Go.Proofs.Try.prog 21 [.sl .p (ladderT.map tyV), .sl .p ([⟨[120], 1⟩, ⟨[121], 2⟩].map obV), .int .i64 0] (.tup [.sl .p ([0].map i64V), ftV okF]) := f_types_Members_ok ladderT ladder_ok [⟨[120], 1⟩, ⟨[121], 2⟩] ⟨by decide, by decide⟩ 0 (by decide +kernel) (by decide +kernel)
  have h5 : Fc Go.Proofs.Try.prog 13 [.sl .p ([⟨[], 0⟩].map tyV)] (ftV ⟨12, 0⟩) := f_types_Validate [⟨[], 0⟩] ⟨by decide, by decide⟩
  refine Fn.step mixed k_L1_typed ?_
  repeat' (first | refine i_s rfl ?_ | refine c_seq ?_ | refine c_cut0 ?_ | refine c_ops ?_ | refine i_nil ?_ | refine e_seq ?_ | refine e_block ?_ | refine c_block ?_ | refine c_skip ?_ | refine c_ret ?_ | refine c_exit ?_ | refine e_exit rfl ?_ | refine i_s0 rfl ?_ | refine c_leaf ?_ | refine i_gt rfl ?_ | refine i_gf rfl ?_ | refine i_gd rfl ?_ | refine c_t rfl ?_ | refine c_f rfl ?_ | refine i_conv rfl (by simp only [InR, List.length_map]; omega) ?_ | refine i_add rfl rfl (by simp only [InR, List.length_map]; omega) ?_ | refine i_sub rfl rfl (by simp only [InR, List.length_map]; omega) ?_ | refine i_ixm rfl rfl (by assumption) ?_ | refine i_iam rfl rfl (by assumption) rfl ?_ | refine i_tk rfl rfl (by omega) ?_ | refine i_stb rfl ?_ | refine i_alloc rfl ?_ | refine i_box rfl rfl ?_ | refine i_nv rfl ?_ | refine c_node ?_ ?_ | refine i_g rfl (fun h => ?_) (fun h => ?_) | refine c_cond rfl (fun h => ?_) (fun h => ?_) | refine i_f rfl rfl (f_L1_ladder) rfl ?_ | refine i_f rfl rfl (h1) rfl ?_ | refine i_f rfl rfl (h2) rfl ?_ | refine i_f rfl rfl (h3) rfl ?_ | refine i_f rfl rfl (h4) rfl ?_ | refine i_f rfl rfl (h5) rfl ?_ | refine i_f rfl rfl (f_R1_Ints [0] [0] (by decide)) rfl ?_ | refine i_f rfl rfl (f_R1_At _ _) rfl ?_)
  exact e_ret ⟨rfl, _, rfl, rfl⟩
end Hm
end

section
/- The laws of types: each answers true for every input. -/
namespace Hm
open Go
set_option maxRecDepth 100000
set_option maxHeartbeats 4000000
set_option linter.unusedSimpArgs false
set_option linter.unusedVariables false
theorem used_ok {l : List Typ} (ho : TyOk l) {a b : Int} : usedFault l a b = checkF l [a, b] := (checkF_two l a b).symm
theorem check_pair {l : List Typ} {a b : Int} : checkF l [a, b] = okF ↔ checkF l [a] = okF ∧ checkF l [b] = okF := by
  unfold checkF
  by_cases h : typesFault l = okF
  · simp only [h, if_true, List.any_cons, List.any_nil, Bool.or_false]
    cases badT l.length a <;> cases badT l.length b <;> decide
  · simp [h]
theorem check_one {l : List Typ} {a : Int} : checkF l [a] = okF ↔ TyValid l ∧ typesFault l = okF ∧ -1 ≤ a ∧ a < l.length := by
  constructor
  · intro h
    obtain ⟨h1, h2⟩ := checkF_valid h
    refine ⟨h1, ?_, h2 a (by simp)⟩
    unfold checkF at h
    split at h
    · assumption
    · rename_i h'; exact absurd h h'
  · rintro ⟨_, h1, h2, h3⟩
    unfold checkF
    rw [if_pos h1, if_neg]
    simp [badT]; omega
def c_L1_TypesAreOrdered : Cmd :=
  (.seq
   (.ops [
   .op (some 8) none (.mov (.c (.bool false)))])
   (.cut
   (.seq
   (.seq
   (.ops [
   .op (some 9) none (.call .f (.c (.fn 12 [])) []),
   .op (some 10) none (.not (.t 9))])
   (.cut
   (.cond (.t 10)
   (.seq
   (.ops [
   .op (some 8) none (.mov (.c (.bool false)))])
   .ret)
   .skip)))
   (.cut
   (.seq
   (.seq
   (.ops [
   .op (some 11) none (.mov (.t 0)),
   .op (some 12) none (.mov (.t 1)),
   .op (some 13) none (.mov (.t 2)),
   .op (some 14) none (.call .f (.c (.fn 15 [])) [.t 11, .t 12, .t 13]),
   .op (some 15) none (.field false 1 0 (.t 14)),
   .op (some 16) none (.bin .neq false [.i] (.t 15) (.c (.int .i64 (0)))),
   .op (some 17) none (.mov (.t 16)),
   .op (some 18) (some (17, false)) (.mov (.t 0)),
   .op (some 19) (some (17, false)) (.mov (.t 3)),
   .op (some 20) (some (17, false)) (.mov (.t 3)),
   .op (some 21) (some (17, false)) (.call .f (.c (.fn 15 [])) [.t 18, .t 19, .t 20]),
   .op (some 22) (some (17, false)) (.field false 1 0 (.t 21)),
   .op (some 23) (some (17, false)) (.bin .neq false [.i] (.t 22) (.c (.int .i64 (0)))),
   .op (some 24) none (.pick (.t 17) (.c (.bool true)) (.t 23))])
   (.cut
   (.cond (.t 24)
   (.seq
   (.ops [
   .op (some 8) none (.mov (.c (.bool true)))])
   .ret)
   .skip)))
   (.cut
   (.seq
   (.seq
   (.ops [
   .op (some 25) none (.mov (.t 0)),
   .op (some 26) none (.mov (.t 1)),
   .op (some 27) none (.mov (.t 1)),
   .op (some 28) none (.call .f (.c (.fn 24 [])) [.t 25, .t 26, .t 27]),
   .op (some 29) none (.not (.t 28)),
   .op (some 30) none (.mov (.t 29)),
   .op (some 31) (some (30, false)) (.mov (.t 0)),
   .op (some 32) (some (30, false)) (.mov (.t 1)),
   .op (some 33) (some (30, false)) (.call .f (.c (.fn 24 [])) [.t 31, .t 32, .c (.int .i64 (-1))]),
   .op (some 34) (some (30, false)) (.not (.t 33)),
   .op (some 35) none (.pick (.t 30) (.c (.bool true)) (.t 34)),
   .op (some 36) none (.mov (.t 35)),
   .op (some 37) (some (36, false)) (.mov (.t 0)),
   .op (some 38) (some (36, false)) (.mov (.t 1)),
   .op (some 39) (some (36, false)) (.mov (.t 2)),
   .op (some 40) (some (36, false)) (.call .f (.c (.fn 24 [])) [.t 37, .t 38, .t 39]),
   .op (some 41) (some (36, false)) (.mov (.t 40)),
   .op (some 42) (some (41, true)) (.mov (.t 0)),
   .op (some 43) (some (41, true)) (.mov (.t 2)),
   .op (some 44) (some (41, true)) (.mov (.t 1)),
   .op (some 45) (some (41, true)) (.call .f (.c (.fn 24 [])) [.t 42, .t 43, .t 44]),
   .op (some 46) (some (41, true)) (.mov (.t 1)),
   .op (some 47) (some (41, true)) (.mov (.t 2)),
   .op (some 48) (some (41, true)) (.bin .eql false [.i] (.t 46) (.t 47)),
   .op (some 49) (some (41, true)) (.bin .neq false [.b] (.t 45) (.t 48)),
   .op (some 50) (some (36, false)) (.pick (.t 41) (.t 49) (.c (.bool false))),
   .op (some 51) none (.pick (.t 36) (.c (.bool true)) (.t 50))])
   (.cut
   (.cond (.t 51)
   (.seq
   (.ops [
   .op (some 8) none (.mov (.c (.bool false)))])
   .ret)
   .skip)))
   (.cut
   (.seq
   (.ops [
   .op (some 52) none (.mov (.t 0)),
   .op (some 53) none (.mov (.t 1)),
   .op (some 54) none (.mov (.t 2)),
   .op (some 55) none (.call .f (.c (.fn 24 [])) [.t 52, .t 53, .t 54]),
   .op (some 56) none (.not (.t 55)),
   .op (some 57) none (.mov (.t 56)),
   .op (some 58) (some (57, false)) (.mov (.t 0)),
   .op (some 59) (some (57, false)) (.mov (.t 2)),
   .op (some 60) (some (57, false)) (.mov (.t 3)),
   .op (some 61) (some (57, false)) (.call .f (.c (.fn 24 [])) [.t 58, .t 59, .t 60]),
   .op (some 62) (some (57, false)) (.not (.t 61)),
   .op (some 63) none (.pick (.t 57) (.c (.bool true)) (.t 62)),
   .op (some 64) none (.mov (.t 63)),
   .op (some 65) (some (64, false)) (.mov (.t 0)),
   .op (some 66) (some (64, false)) (.mov (.t 1)),
   .op (some 67) (some (64, false)) (.mov (.t 3)),
   .op (some 68) (some (64, false)) (.call .f (.c (.fn 24 [])) [.t 65, .t 66, .t 67]),
   .op (some 69) none (.pick (.t 64) (.c (.bool true)) (.t 68)),
   .op (some 8) none (.mov (.t 69))])
   .ret)))))))))
def r_L1_TypesAreOrdered : List RVar := [.tmp 8]
def n_L1_TypesAreOrdered : Nat := 70
theorem k_L1_TypesAreOrdered : chkFn Go.Proofs.Try.prog 4 n_L1_TypesAreOrdered r_L1_TypesAreOrdered c_L1_TypesAreOrdered = true := by kernel_rfl
theorem f_L1_TypesAreOrdered (l : List Typ) (ho : TyOk l) (a b c : Int) : Fc Go.Proofs.Try.prog 4 [.sl .p (l.map tyV), .int .i64 a, .int .i64 b, .int .i64 c] (.bool true) := by
  have u1 := f_R1_UsedFault l ho a b
  have u2 := f_R1_UsedFault l ho c c
  rw [← checkF_two] at u1 u2
  have hc1 := checkF_code l [a, b]
  have hc2 := checkF_code l [c, c]
  by_cases h1 : checkF l [a, b] = okF
  · by_cases h2 : checkF l [c, c] = okF
    · obtain ⟨hv, hr⟩ := checkF_valid h1
      have ra := hr a (by simp)
      have rb := hr b (by simp)
      have rc := (checkF_valid h2).2 c (by simp)
      rw [h1] at u1
      rw [h2] at u2
      have ht := (check_one.1 (check_pair.1 h1).1).2.1
      have key : ∀ x y : Int, -1 ≤ x → x < l.length → -1 ≤ y → y < l.length → Fc Go.Proofs.Try.prog 24 [.sl .p (l.map tyV), .int .i64 x, .int .i64 y] (.bool (subB l x y)) := by
        intro x y q1 q2 q3 q4
        have := f_L1_sub l ho x y
        rw [show checkF l [x, y] = okF from check_pair.2 ⟨check_one.2 ⟨hv, ht, q1, q2⟩, check_one.2 ⟨hv, ht, q3, q4⟩⟩] at this
        simpa using this
      have s1 := key a a ra.1 ra.2 ra.1 ra.2
      have s2 := key a (-1) ra.1 ra.2 (by omega) (by omega)
      have s3 := key a b ra.1 ra.2 rb.1 rb.2
      have s4 := key b a rb.1 rb.2 ra.1 ra.2
      have s5 := key b c rb.1 rb.2 rc.1 rc.2
      have s6 := key a c ra.1 ra.2 rc.1 rc.2
      rw [sub_refl hv ra.1 ra.2] at s1
      rw [sub_top hv ra.2] at s2
      have hsl : subB l a b = true → subB l b a = true → a = b := sub_antisymm hv ra.1 ra.2 rb.1 rb.2
      have hrf : a = b → subB l b a = true := fun e => by rw [← e]; exact sub_refl hv ra.1 ra.2
      have htr : subB l a b = true → subB l b c = true → subB l a c = true := sub_trans hv ra.2
      refine Fn.step mixed k_L1_TypesAreOrdered ?_
      repeat' (first | refine i_s rfl ?_ | refine c_seq ?_ | refine c_cut0 ?_ | refine c_ops ?_ | refine i_nil ?_ | refine e_seq ?_ | refine e_block ?_ | refine c_block ?_ | refine c_skip ?_ | refine c_ret ?_ | refine c_exit ?_ | refine e_exit rfl ?_ | refine i_s0 rfl ?_ | refine c_leaf ?_ | refine i_gt rfl ?_ | refine i_gf rfl ?_ | refine i_gd rfl ?_ | refine c_t rfl ?_ | refine c_f rfl ?_ | refine i_conv rfl (by simp only [InR, List.length_map]; omega) ?_ | refine i_add rfl rfl (by simp only [InR, List.length_map]; omega) ?_ | refine i_sub rfl rfl (by simp only [InR, List.length_map]; omega) ?_ | refine i_ixm rfl rfl (by assumption) ?_ | refine i_iam rfl rfl (by assumption) rfl ?_ | refine i_tk rfl rfl (by omega) ?_ | refine i_stb rfl ?_ | refine i_alloc rfl ?_ | refine i_box rfl rfl ?_ | refine i_nv rfl ?_ | refine c_node ?_ ?_ | refine i_g rfl (fun h => ?_) (fun h => ?_) | refine c_cond rfl (fun h => ?_) (fun h => ?_) | refine i_f rfl rfl (f_L1_typed) rfl ?_ | refine i_f rfl rfl (u1) rfl ?_ | refine i_f rfl rfl (u2) rfl ?_ | refine i_f rfl rfl (s1) rfl ?_ | refine i_f rfl rfl (s2) rfl ?_ | refine i_f rfl rfl (s3) rfl ?_ | refine i_f rfl rfl (s4) rfl ?_ | refine i_f rfl rfl (s5) rfl ?_ | refine i_f rfl rfl (s6) rfl ?_)
      all_goals first | (refine e_ret ⟨rfl, _, rfl, congrArg V.bool ?_⟩; first | rfl | grind) | (exfalso; grind)
    · rw [h1] at u1
      have hne : (checkF l [c, c]).code ≠ 0 := fun e => h2 (hc2.1 e)
      refine Fn.step mixed k_L1_TypesAreOrdered ?_
      repeat' (first | refine i_s rfl ?_ | refine c_seq ?_ | refine c_cut0 ?_ | refine c_ops ?_ | refine i_nil ?_ | refine e_seq ?_ | refine e_block ?_ | refine c_block ?_ | refine c_skip ?_ | refine c_ret ?_ | refine c_exit ?_ | refine e_exit rfl ?_ | refine i_s0 rfl ?_ | refine c_leaf ?_ | refine i_gt rfl ?_ | refine i_gf rfl ?_ | refine i_gd rfl ?_ | refine c_t rfl ?_ | refine c_f rfl ?_ | refine i_conv rfl (by simp only [InR, List.length_map]; omega) ?_ | refine i_add rfl rfl (by simp only [InR, List.length_map]; omega) ?_ | refine i_sub rfl rfl (by simp only [InR, List.length_map]; omega) ?_ | refine i_ixm rfl rfl (by assumption) ?_ | refine i_iam rfl rfl (by assumption) rfl ?_ | refine i_tk rfl rfl (by omega) ?_ | refine i_stb rfl ?_ | refine i_alloc rfl ?_ | refine i_box rfl rfl ?_ | refine i_nv rfl ?_ | refine c_node ?_ ?_ | refine i_g rfl (fun h => ?_) (fun h => ?_) | refine c_cond rfl (fun h => ?_) (fun h => ?_) | refine i_f rfl rfl (f_L1_typed) rfl ?_ | refine i_f rfl rfl (u1) rfl ?_ | refine i_f rfl rfl (u2) rfl ?_)
      all_goals first | (refine e_ret ⟨rfl, _, rfl, congrArg V.bool ?_⟩; first | rfl | grind) | (exfalso; grind)
  · have hne : (checkF l [a, b]).code ≠ 0 := fun e => h1 (hc1.1 e)
    refine Fn.step mixed k_L1_TypesAreOrdered ?_
    repeat' (first | refine i_s rfl ?_ | refine c_seq ?_ | refine c_cut0 ?_ | refine c_ops ?_ | refine i_nil ?_ | refine e_seq ?_ | refine e_block ?_ | refine c_block ?_ | refine c_skip ?_ | refine c_ret ?_ | refine c_exit ?_ | refine e_exit rfl ?_ | refine i_s0 rfl ?_ | refine c_leaf ?_ | refine i_gt rfl ?_ | refine i_gf rfl ?_ | refine i_gd rfl ?_ | refine c_t rfl ?_ | refine c_f rfl ?_ | refine i_conv rfl (by simp only [InR, List.length_map]; omega) ?_ | refine i_add rfl rfl (by simp only [InR, List.length_map]; omega) ?_ | refine i_sub rfl rfl (by simp only [InR, List.length_map]; omega) ?_ | refine i_ixm rfl rfl (by assumption) ?_ | refine i_iam rfl rfl (by assumption) rfl ?_ | refine i_tk rfl rfl (by omega) ?_ | refine i_stb rfl ?_ | refine i_alloc rfl ?_ | refine i_box rfl rfl ?_ | refine i_nv rfl ?_ | refine c_node ?_ ?_ | refine i_g rfl (fun h => ?_) (fun h => ?_) | refine c_cond rfl (fun h => ?_) (fun h => ?_) | refine i_f rfl rfl (f_L1_typed) rfl ?_ | refine i_f rfl rfl (u1) rfl ?_ | refine i_f rfl rfl (u2) rfl ?_)
    all_goals first | (refine e_ret ⟨rfl, _, rfl, congrArg V.bool ?_⟩; first | rfl | grind) | (exfalso; grind)
def c_L1_TypesJoinIsLeast : Cmd :=
  (.seq
   (.ops [
   .op (some 8) none (.mov (.c (.bool false)))])
   (.cut
   (.seq
   (.seq
   (.ops [
   .op (some 13) none (.call .f (.c (.fn 12 [])) []),
   .op (some 14) none (.not (.t 13))])
   (.cut
   (.cond (.t 14)
   (.seq
   (.ops [
   .op (some 8) none (.mov (.c (.bool false)))])
   .ret)
   .skip)))
   (.cut
   (.seq
   (.seq
   (.ops [
   .op (some 15) none (.mov (.t 0)),
   .op (some 16) none (.mov (.t 1)),
   .op (some 17) none (.mov (.t 2)),
   .op (some 18) none (.call .f (.c (.fn 15 [])) [.t 15, .t 16, .t 17]),
   .op (some 19) none (.field false 1 0 (.t 18)),
   .op (some 20) none (.bin .neq false [.i] (.t 19) (.c (.int .i64 (0)))),
   .op (some 21) none (.mov (.t 20)),
   .op (some 22) (some (21, false)) (.mov (.t 0)),
   .op (some 23) (some (21, false)) (.mov (.t 3)),
   .op (some 24) (some (21, false)) (.mov (.t 3)),
   .op (some 25) (some (21, false)) (.call .f (.c (.fn 15 [])) [.t 22, .t 23, .t 24]),
   .op (some 26) (some (21, false)) (.field false 1 0 (.t 25)),
   .op (some 27) (some (21, false)) (.bin .neq false [.i] (.t 26) (.c (.int .i64 (0)))),
   .op (some 28) none (.pick (.t 21) (.c (.bool true)) (.t 27))])
   (.cut
   (.cond (.t 28)
   (.seq
   (.ops [
   .op (some 8) none (.mov (.c (.bool true)))])
   .ret)
   .skip)))
   (.cut
   (.seq
   (.ops [
   .op (some 30) none (.mov (.t 0)),
   .op (some 31) none (.mov (.t 1)),
   .op (some 32) none (.mov (.t 2)),
   .op (some 33) none (.call .f (.c (.fn 17 [])) [.t 30, .t 31, .t 32]),
   .op (some 29) none (.mov (.t 33)),
   .op (some 34) none (.extract (.t 29) 0),
   .op (some 35) none (.extract (.t 29) 1),
   .op (some 10) none (.alloc 320642 (.agg [.int .i64 (0), .int .i64 (0)])),
   .op (some 9) none (.mov (.t 34)),
   .op none none (.store 2 (.t 10) (.t 35))])
   (.cut
   (.seq
   (.ops [
   .op (some 37) none (.mov (.t 0)),
   .op (some 38) none (.mov (.t 2)),
   .op (some 39) none (.mov (.t 1)),
   .op (some 40) none (.call .f (.c (.fn 17 [])) [.t 37, .t 38, .t 39]),
   .op (some 36) none (.mov (.t 40)),
   .op (some 41) none (.extract (.t 36) 0),
   .op (some 42) none (.extract (.t 36) 1),
   .op (some 12) none (.alloc 320770 (.agg [.int .i64 (0), .int .i64 (0)])),
   .op (some 11) none (.mov (.t 41)),
   .op none none (.store 2 (.t 12) (.t 42))])
   (.cut
   (.seq
   (.seq
   (.ops [
   .op (some 43) none (.faddr 0 (.t 10)),
   .op (some 44) none (.load false 1 (.t 43)),
   .op (some 45) none (.bin .neq false [.i] (.t 44) (.c (.int .i64 (0)))),
   .op (some 46) none (.mov (.t 45)),
   .op (some 47) (some (46, false)) (.faddr 0 (.t 12)),
   .op (some 48) (some (46, false)) (.load false 1 (.t 47)),
   .op (some 49) (some (46, false)) (.bin .neq false [.i] (.t 48) (.c (.int .i64 (0)))),
   .op (some 50) none (.pick (.t 46) (.c (.bool true)) (.t 49)),
   .op (some 51) none (.mov (.t 50)),
   .op (some 52) (some (51, false)) (.mov (.t 9)),
   .op (some 53) (some (51, false)) (.mov (.t 11)),
   .op (some 54) (some (51, false)) (.bin .neq false [.i] (.t 52) (.t 53)),
   .op (some 55) none (.pick (.t 51) (.c (.bool true)) (.t 54)),
   .op (some 56) none (.mov (.t 55)),
   .op (some 57) (some (56, false)) (.mov (.t 0)),
   .op (some 58) (some (56, false)) (.mov (.t 1)),
   .op (some 59) (some (56, false)) (.mov (.t 9)),
   .op (some 60) (some (56, false)) (.call .f (.c (.fn 24 [])) [.t 57, .t 58, .t 59]),
   .op (some 61) (some (56, false)) (.not (.t 60)),
   .op (some 62) none (.pick (.t 56) (.c (.bool true)) (.t 61)),
   .op (some 63) none (.mov (.t 62)),
   .op (some 64) (some (63, false)) (.mov (.t 0)),
   .op (some 65) (some (63, false)) (.mov (.t 2)),
   .op (some 66) (some (63, false)) (.mov (.t 9)),
   .op (some 67) (some (63, false)) (.call .f (.c (.fn 24 [])) [.t 64, .t 65, .t 66]),
   .op (some 68) (some (63, false)) (.not (.t 67)),
   .op (some 69) none (.pick (.t 63) (.c (.bool true)) (.t 68))])
   (.cut
   (.cond (.t 69)
   (.seq
   (.ops [
   .op (some 8) none (.mov (.c (.bool false)))])
   .ret)
   .skip)))
   (.cut
   (.seq
   (.ops [
   .op (some 70) none (.mov (.t 0)),
   .op (some 71) none (.mov (.t 1)),
   .op (some 72) none (.mov (.t 3)),
   .op (some 73) none (.call .f (.c (.fn 24 [])) [.t 70, .t 71, .t 72]),
   .op (some 74) none (.not (.t 73)),
   .op (some 75) none (.mov (.t 74)),
   .op (some 76) (some (75, false)) (.mov (.t 0)),
   .op (some 77) (some (75, false)) (.mov (.t 2)),
   .op (some 78) (some (75, false)) (.mov (.t 3)),
   .op (some 79) (some (75, false)) (.call .f (.c (.fn 24 [])) [.t 76, .t 77, .t 78]),
   .op (some 80) (some (75, false)) (.not (.t 79)),
   .op (some 81) none (.pick (.t 75) (.c (.bool true)) (.t 80)),
   .op (some 82) none (.mov (.t 81)),
   .op (some 83) (some (82, false)) (.mov (.t 0)),
   .op (some 84) (some (82, false)) (.mov (.t 9)),
   .op (some 85) (some (82, false)) (.mov (.t 3)),
   .op (some 86) (some (82, false)) (.call .f (.c (.fn 24 [])) [.t 83, .t 84, .t 85]),
   .op (some 87) none (.pick (.t 82) (.c (.bool true)) (.t 86)),
   .op (some 8) none (.mov (.t 87))])
   .ret)))))))))))))
def r_L1_TypesJoinIsLeast : List RVar := [.tmp 8]
def n_L1_TypesJoinIsLeast : Nat := 88
theorem k_L1_TypesJoinIsLeast : chkFn Go.Proofs.Try.prog 5 n_L1_TypesJoinIsLeast r_L1_TypesJoinIsLeast c_L1_TypesJoinIsLeast = true := by kernel_rfl
theorem f_L1_TypesJoinIsLeast (l : List Typ) (ho : TyOk l) (a b c : Int) : Fc Go.Proofs.Try.prog 5 [.sl .p (l.map tyV), .int .i64 a, .int .i64 b, .int .i64 c] (.bool true) := by
  have u1 := f_R1_UsedFault l ho a b
  have u2 := f_R1_UsedFault l ho c c
  rw [← checkF_two] at u1 u2
  have hc1 := checkF_code l [a, b]
  have hc2 := checkF_code l [c, c]
  by_cases h1 : checkF l [a, b] = okF
  · by_cases h2 : checkF l [c, c] = okF
    · obtain ⟨hv, hr⟩ := checkF_valid h1
      have ra := hr a (by simp)
      have rb := hr b (by simp)
      have rc := (checkF_valid h2).2 c (by simp)
      have j1 := f_types_Join_ok l ho a b h1
      have j2 := f_types_Join_ok l ho b a (check_pair.2 (check_pair.1 h1).symm)
      rw [h1] at u1
      rw [h2] at u2
      have ht := (check_one.1 (check_pair.1 h1).1).2.1
      have key : ∀ x y : Int, -1 ≤ x → x < l.length → -1 ≤ y → y < l.length → Fc Go.Proofs.Try.prog 24 [.sl .p (l.map tyV), .int .i64 x, .int .i64 y] (.bool (subB l x y)) := by
        intro x y q1 q2 q3 q4
        have := f_L1_sub l ho x y
        rw [show checkF l [x, y] = okF from check_pair.2 ⟨check_one.2 ⟨hv, ht, q1, q2⟩, check_one.2 ⟨hv, ht, q3, q4⟩⟩] at this
        simpa using this
      obtain ⟨p1, p2, p3⟩ := join_spec hv ra.1 ra.2 rb.1 rb.2
      rw [← join_comm hv ra.1 ra.2 rb.1 rb.2] at j2
      generalize hx : joinOf l a b = x at *
      have rx := sub_range hv ra.1 ra.2 p1
      have s1 := key a x ra.1 ra.2 rx.1 (by omega)
      have s2 := key b x rb.1 rb.2 rx.1 (by omega)
      have s3 := key a c ra.1 ra.2 rc.1 rc.2
      have s4 := key b c rb.1 rb.2 rc.1 rc.2
      have s5 := key x c rx.1 (by omega) rc.1 rc.2
      rw [p1] at s1
      rw [p2] at s2
      have hln : subB l a c = true → subB l b c = true → subB l x c = true := fun q1 q2 => sub_line hv ra.2 p1 q1 (p3 c q1 q2)
      clear key p3
      refine Fn.step mixed k_L1_TypesJoinIsLeast ?_
      repeat' (first | refine i_s rfl ?_ | refine c_seq ?_ | refine c_cut0 ?_ | refine c_ops ?_ | refine i_nil ?_ | refine e_seq ?_ | refine e_block ?_ | refine c_block ?_ | refine c_skip ?_ | refine c_ret ?_ | refine c_exit ?_ | refine e_exit rfl ?_ | refine i_s0 rfl ?_ | refine c_leaf ?_ | refine i_gt rfl ?_ | refine i_gf rfl ?_ | refine i_gd rfl ?_ | refine c_t rfl ?_ | refine c_f rfl ?_ | refine i_conv rfl (by simp only [InR, List.length_map]; omega) ?_ | refine i_add rfl rfl (by simp only [InR, List.length_map]; omega) ?_ | refine i_sub rfl rfl (by simp only [InR, List.length_map]; omega) ?_ | refine i_ixm rfl rfl (by assumption) ?_ | refine i_iam rfl rfl (by assumption) rfl ?_ | refine i_tk rfl rfl (by omega) ?_ | refine i_stb rfl ?_ | refine i_alloc rfl ?_ | refine i_box rfl rfl ?_ | refine i_nv rfl ?_ | refine c_node ?_ ?_ | refine i_g rfl (fun h => ?_) (fun h => ?_) | refine c_cond rfl (fun h => ?_) (fun h => ?_) | refine i_f rfl rfl (f_L1_typed) rfl ?_ | refine i_f rfl rfl (u1) rfl ?_ | refine i_f rfl rfl (u2) rfl ?_ | refine i_f rfl rfl (j1) rfl ?_ | refine i_f rfl rfl (j2) rfl ?_ | refine i_f rfl rfl (s1) rfl ?_ | refine i_f rfl rfl (s2) rfl ?_ | refine i_f rfl rfl (s3) rfl ?_ | refine i_f rfl rfl (s4) rfl ?_ | refine i_f rfl rfl (s5) rfl ?_)
      all_goals first | (refine e_ret ⟨rfl, _, rfl, congrArg V.bool ?_⟩; first | rfl | grind) | (exfalso; grind)
    · rw [h1] at u1
      have hne : (checkF l [c, c]).code ≠ 0 := fun e => h2 (hc2.1 e)
      refine Fn.step mixed k_L1_TypesJoinIsLeast ?_
      repeat' (first | refine i_s rfl ?_ | refine c_seq ?_ | refine c_cut0 ?_ | refine c_ops ?_ | refine i_nil ?_ | refine e_seq ?_ | refine e_block ?_ | refine c_block ?_ | refine c_skip ?_ | refine c_ret ?_ | refine c_exit ?_ | refine e_exit rfl ?_ | refine i_s0 rfl ?_ | refine c_leaf ?_ | refine i_gt rfl ?_ | refine i_gf rfl ?_ | refine i_gd rfl ?_ | refine c_t rfl ?_ | refine c_f rfl ?_ | refine i_conv rfl (by simp only [InR, List.length_map]; omega) ?_ | refine i_add rfl rfl (by simp only [InR, List.length_map]; omega) ?_ | refine i_sub rfl rfl (by simp only [InR, List.length_map]; omega) ?_ | refine i_ixm rfl rfl (by assumption) ?_ | refine i_iam rfl rfl (by assumption) rfl ?_ | refine i_tk rfl rfl (by omega) ?_ | refine i_stb rfl ?_ | refine i_alloc rfl ?_ | refine i_box rfl rfl ?_ | refine i_nv rfl ?_ | refine c_node ?_ ?_ | refine i_g rfl (fun h => ?_) (fun h => ?_) | refine c_cond rfl (fun h => ?_) (fun h => ?_) | refine i_f rfl rfl (f_L1_typed) rfl ?_ | refine i_f rfl rfl (u1) rfl ?_ | refine i_f rfl rfl (u2) rfl ?_)
      all_goals first | (refine e_ret ⟨rfl, _, rfl, congrArg V.bool ?_⟩; first | rfl | grind) | (exfalso; grind)
  · have hne : (checkF l [a, b]).code ≠ 0 := fun e => h1 (hc1.1 e)
    refine Fn.step mixed k_L1_TypesJoinIsLeast ?_
    repeat' (first | refine i_s rfl ?_ | refine c_seq ?_ | refine c_cut0 ?_ | refine c_ops ?_ | refine i_nil ?_ | refine e_seq ?_ | refine e_block ?_ | refine c_block ?_ | refine c_skip ?_ | refine c_ret ?_ | refine c_exit ?_ | refine e_exit rfl ?_ | refine i_s0 rfl ?_ | refine c_leaf ?_ | refine i_gt rfl ?_ | refine i_gf rfl ?_ | refine i_gd rfl ?_ | refine c_t rfl ?_ | refine c_f rfl ?_ | refine i_conv rfl (by simp only [InR, List.length_map]; omega) ?_ | refine i_add rfl rfl (by simp only [InR, List.length_map]; omega) ?_ | refine i_sub rfl rfl (by simp only [InR, List.length_map]; omega) ?_ | refine i_ixm rfl rfl (by assumption) ?_ | refine i_iam rfl rfl (by assumption) rfl ?_ | refine i_tk rfl rfl (by omega) ?_ | refine i_stb rfl ?_ | refine i_alloc rfl ?_ | refine i_box rfl rfl ?_ | refine i_nv rfl ?_ | refine c_node ?_ ?_ | refine i_g rfl (fun h => ?_) (fun h => ?_) | refine c_cond rfl (fun h => ?_) (fun h => ?_) | refine i_f rfl rfl (f_L1_typed) rfl ?_ | refine i_f rfl rfl (u1) rfl ?_ | refine i_f rfl rfl (u2) rfl ?_)
    all_goals first | (refine e_ret ⟨rfl, _, rfl, congrArg V.bool ?_⟩; first | rfl | grind) | (exfalso; grind)
theorem check_nil {l : List Typ} {a b : Int} (h1 : typesFault l ≠ okF) : checkF l [a] = checkF l [b] := by simp [checkF, h1]
theorem allI {xs ys : List Int} (h : ∀ i ∈ xs, i ∈ ys) : (xs.all fun x => decide (x ∈ ys)) = true := by
  rw [List.all_eq_true]; intro x hx; exact decide_eq_true (h x hx)
/-- Members, whatever the faults. -/
theorem members_any (l : List Typ) (ho : TyOk l) (os : List Obj) (hos : ObOk os) (t : Int) : ∃ (xs : List Int) (f : Flt), Fc Go.Proofs.Try.prog 21 [.sl .p (l.map tyV), .sl .p (os.map obV), .int .i64 t] (.tup [.sl .p (xs.map i64V), ftV f]) ∧
    (f.code ≠ 0 → xs = []) ∧ (f.code = 0 → f = okF ∧ xs = membersOf l os t ∧ checkF l [t] = okF ∧ objectsFault l.length os = okF) := by
  by_cases h1 : checkF l [t] = okF
  · by_cases h2 : objectsFault l.length os = okF
    · exact ⟨_, _, f_types_Members_ok l ho os hos t h1 h2, fun h => absurd rfl h, fun _ => ⟨rfl, rfl, h1, h2⟩⟩
    · exact ⟨[], _, f_types_Members_bad2 l ho os hos t h1 h2, fun _ => rfl, fun h => absurd ((objectsFault_code _ _).1 h) h2⟩
  · exact ⟨[], _, f_types_Members_bad1 l ho os hos t h1, fun _ => rfl, fun h => absurd ((checkF_code _ _).1 h) h1⟩
def c_L1_TypesMembersAreInherited : Cmd :=
  (.seq
   (.ops [
   .op (some 8) none (.mov (.c (.bool false)))])
   (.cut
   (.seq
   (.ops [
   .op (some 16) none (.mov (.t 0)),
   .op (some 17) none (.mov (.t 1)),
   .op (some 18) none (.mov (.t 2)),
   .op (some 19) none (.call .f (.c (.fn 21 [])) [.t 16, .t 17, .t 18]),
   .op (some 15) none (.mov (.t 19)),
   .op (some 20) none (.extract (.t 15) 0),
   .op (some 21) none (.extract (.t 15) 1),
   .op (some 10) none (.alloc 384642 (.agg [.int .i64 (0), .int .i64 (0)])),
   .op (some 9) none (.mov (.t 20)),
   .op none none (.store 2 (.t 10) (.t 21))])
   (.cut
   (.seq
   (.ops [
   .op (some 23) none (.mov (.t 0)),
   .op (some 24) none (.mov (.t 1)),
   .op (some 25) none (.mov (.t 3)),
   .op (some 26) none (.call .f (.c (.fn 21 [])) [.t 23, .t 24, .t 25]),
   .op (some 22) none (.mov (.t 26)),
   .op (some 27) none (.extract (.t 22) 0),
   .op (some 28) none (.extract (.t 22) 1),
   .op (some 12) none (.alloc 384770 (.agg [.int .i64 (0), .int .i64 (0)])),
   .op (some 11) none (.mov (.t 27)),
   .op none none (.store 2 (.t 12) (.t 28))])
   (.cut
   (.seq
   (.ops [
   .op (some 30) none (.mov (.t 0)),
   .op (some 31) none (.mov (.t 1)),
   .op (some 32) none (.call .f (.c (.fn 21 [])) [.t 30, .t 31, .c (.int .i64 (-1))]),
   .op (some 29) none (.mov (.t 32)),
   .op (some 33) none (.extract (.t 29) 0),
   .op (some 34) none (.extract (.t 29) 1),
   .op (some 14) none (.alloc 384898 (.agg [.int .i64 (0), .int .i64 (0)])),
   .op (some 13) none (.mov (.t 33)),
   .op none none (.store 2 (.t 14) (.t 34))])
   (.cut
   (.seq
   (.seq
   (.ops [
   .op (some 35) none (.call .f (.c (.fn 12 [])) []),
   .op (some 36) none (.not (.t 35))])
   (.cut
   (.cond (.t 36)
   (.seq
   (.ops [
   .op (some 8) none (.mov (.c (.bool false)))])
   .ret)
   .skip)))
   (.cut
   (.seq
   (.seq
   (.ops [
   .op (some 37) none (.faddr 0 (.t 10)),
   .op (some 38) none (.load false 1 (.t 37)),
   .op (some 39) none (.bin .neq false [.i] (.t 38) (.c (.int .i64 (0)))),
   .op (some 40) none (.mov (.t 39)),
   .op (some 41) (some (40, false)) (.faddr 0 (.t 12)),
   .op (some 42) (some (40, false)) (.load false 1 (.t 41)),
   .op (some 43) (some (40, false)) (.bin .neq false [.i] (.t 42) (.c (.int .i64 (0)))),
   .op (some 44) none (.pick (.t 40) (.c (.bool true)) (.t 43)),
   .op (some 45) none (.mov (.t 44)),
   .op (some 46) (some (45, false)) (.faddr 0 (.t 14)),
   .op (some 47) (some (45, false)) (.load false 1 (.t 46)),
   .op (some 48) (some (45, false)) (.bin .neq false [.i] (.t 47) (.c (.int .i64 (0)))),
   .op (some 49) none (.pick (.t 45) (.c (.bool true)) (.t 48))])
   (.cut
   (.cond (.t 49)
   (.seq
   (.ops [
   .op (some 50) none (.faddr 0 (.t 10)),
   .op (some 51) none (.load false 1 (.t 50)),
   .op (some 52) none (.bin .eql false [.i] (.t 51) (.c (.int .i64 (0)))),
   .op (some 53) none (.mov (.t 52)),
   .op (some 54) (some (53, false)) (.mov (.t 9)),
   .op (some 55) (some (53, false)) (.len false (.t 54)),
   .op (some 56) (some (53, false)) (.bin .eql false [.i] (.t 55) (.c (.int .i64 (0)))),
   .op (some 57) none (.pick (.t 53) (.c (.bool true)) (.t 56)),
   .op (some 58) none (.mov (.t 57)),
   .op (some 59) (some (58, true)) (.faddr 0 (.t 12)),
   .op (some 60) (some (58, true)) (.load false 1 (.t 59)),
   .op (some 61) (some (58, true)) (.bin .eql false [.i] (.t 60) (.c (.int .i64 (0)))),
   .op (some 62) (some (58, true)) (.mov (.t 61)),
   .op (some 63) (some (62, false)) (.mov (.t 11)),
   .op (some 64) (some (62, false)) (.len false (.t 63)),
   .op (some 65) (some (62, false)) (.bin .eql false [.i] (.t 64) (.c (.int .i64 (0)))),
   .op (some 66) (some (58, true)) (.pick (.t 62) (.c (.bool true)) (.t 65)),
   .op (some 67) none (.pick (.t 58) (.t 66) (.c (.bool false))),
   .op (some 8) none (.mov (.t 67))])
   .ret)
   .skip)))
   (.cut
   (.seq
   (.ops [
   .op (some 68) none (.mov (.t 13)),
   .op (some 69) none (.len false (.t 68)),
   .op (some 70) none (.mov (.t 1)),
   .op (some 71) none (.len false (.t 70)),
   .op (some 72) none (.bin .eql false [.i] (.t 69) (.t 71)),
   .op (some 73) none (.mov (.t 72)),
   .op (some 74) (some (73, true)) (.mov (.t 0)),
   .op (some 75) (some (73, true)) (.mov (.t 2)),
   .op (some 76) (some (73, true)) (.mov (.t 3)),
   .op (some 77) (some (73, true)) (.call .f (.c (.fn 24 [])) [.t 74, .t 75, .t 76]),
   .op (some 78) (some (73, true)) (.not (.t 77)),
   .op (some 79) (some (73, true)) (.mov (.t 78)),
   .op (some 80) (some (79, false)) (.mov (.t 9)),
   .op (some 81) (some (79, false)) (.mov (.t 11)),
   .op (some 82) (some (79, false)) (.call .f (.c (.fn 25 [])) [.t 80, .t 81]),
   .op (some 83) (some (73, true)) (.pick (.t 79) (.c (.bool true)) (.t 82)),
   .op (some 84) none (.pick (.t 73) (.t 83) (.c (.bool false))),
   .op (some 8) none (.mov (.t 84))])
   .ret)))))))))))))
def r_L1_TypesMembersAreInherited : List RVar := [.tmp 8]
def n_L1_TypesMembersAreInherited : Nat := 85
theorem k_L1_TypesMembersAreInherited : chkFn Go.Proofs.Try.prog 6 n_L1_TypesMembersAreInherited r_L1_TypesMembersAreInherited c_L1_TypesMembersAreInherited = true := by kernel_rfl
theorem f_L1_TypesMembersAreInherited (l : List Typ) (ho : TyOk l) (os : List Obj) (hos : ObOk os) (a b : Int) : Fc Go.Proofs.Try.prog 6 [.sl .p (l.map tyV), .sl .p (os.map obV), .int .i64 a, .int .i64 b] (.bool true) := by
  obtain ⟨xa, fa, m1, na, oa⟩ := members_any l ho os hos a
  obtain ⟨xb, fb, m2, nb, ob⟩ := members_any l ho os hos b
  obtain ⟨xt, ft, m3, nt, ot⟩ := members_any l ho os hos (-1)
  by_cases h : fa.code = 0 ∧ fb.code = 0 ∧ ft.code = 0
  · obtain ⟨ha, hb, ht⟩ := h
    obtain ⟨rfl, rfl, ca, hob⟩ := oa ha
    obtain ⟨rfl, rfl, cb, _⟩ := ob hb
    obtain ⟨rfl, rfl, _, _⟩ := ot ht
    obtain ⟨hv, htf, ra0, ra1⟩ := check_one.1 ca
    obtain ⟨_, _, rb0, rb1⟩ := check_one.1 cb
    obtain ⟨h8, hor⟩ := objectsFault_valid hob
    have hs := f_L1_sub l ho a b
    rw [show checkF l [a, b] = okF from check_pair.2 ⟨ca, cb⟩] at hs
    have hs' : Fc Go.Proofs.Try.prog 24 [.sl .p (l.map tyV), .int .i64 a, .int .i64 b] (.bool (subB l a b)) := by simpa using hs
    have hl1 := members_length (l := l) (os := os) (t := a)
    have hl2 := members_length (l := l) (os := os) (t := b)
    have hsub := f_R1_Subset (membersOf l os a) (membersOf l os b) (by omega) (by omega)
    have htop := members_top (os := os) hv hor
    have himp : subB l a b = true → ((membersOf l os a).all fun x => decide (x ∈ membersOf l os b)) = true := fun h => allI (members_sub hv hor h)
    clear hs ca cb
    refine Fn.step mixed k_L1_TypesMembersAreInherited ?_
    repeat' (first | refine i_s rfl ?_ | refine c_seq ?_ | refine c_cut0 ?_ | refine c_ops ?_ | refine i_nil ?_ | refine e_seq ?_ | refine e_block ?_ | refine c_block ?_ | refine c_skip ?_ | refine c_ret ?_ | refine c_exit ?_ | refine e_exit rfl ?_ | refine i_s0 rfl ?_ | refine c_leaf ?_ | refine i_gt rfl ?_ | refine i_gf rfl ?_ | refine i_gd rfl ?_ | refine c_t rfl ?_ | refine c_f rfl ?_ | refine i_conv rfl (by simp only [InR, List.length_map]; omega) ?_ | refine i_add rfl rfl (by simp only [InR, List.length_map]; omega) ?_ | refine i_sub rfl rfl (by simp only [InR, List.length_map]; omega) ?_ | refine i_ixm rfl rfl (by assumption) ?_ | refine i_iam rfl rfl (by assumption) rfl ?_ | refine i_tk rfl rfl (by omega) ?_ | refine i_stb rfl ?_ | refine i_alloc rfl ?_ | refine i_box rfl rfl ?_ | refine i_nv rfl ?_ | refine c_node ?_ ?_ | refine i_g rfl (fun h => ?_) (fun h => ?_) | refine c_cond rfl (fun h => ?_) (fun h => ?_) | refine i_f rfl rfl (f_L1_typed) rfl ?_ | refine i_f rfl rfl (m1) rfl ?_ | refine i_f rfl rfl (m2) rfl ?_ | refine i_f rfl rfl (m3) rfl ?_ | refine i_f rfl rfl (hs') rfl ?_ | refine i_f rfl rfl (hsub) rfl ?_)
    all_goals try simp only [List.length_map] at *
    all_goals first | (refine e_ret ⟨rfl, _, rfl, congrArg V.bool ?_⟩; first | rfl | grind) | (exfalso; grind)
  · have e1 : fa.code ≠ 0 → (xa.map i64V).length = 0 := fun h => by rw [na h]; rfl
    have e2 : fb.code ≠ 0 → (xb.map i64V).length = 0 := fun h => by rw [nb h]; rfl
    clear oa ob ot
    refine Fn.step mixed k_L1_TypesMembersAreInherited ?_
    repeat' (first | refine i_s rfl ?_ | refine c_seq ?_ | refine c_cut0 ?_ | refine c_ops ?_ | refine i_nil ?_ | refine e_seq ?_ | refine e_block ?_ | refine c_block ?_ | refine c_skip ?_ | refine c_ret ?_ | refine c_exit ?_ | refine e_exit rfl ?_ | refine i_s0 rfl ?_ | refine c_leaf ?_ | refine i_gt rfl ?_ | refine i_gf rfl ?_ | refine i_gd rfl ?_ | refine c_t rfl ?_ | refine c_f rfl ?_ | refine i_conv rfl (by simp only [InR, List.length_map]; omega) ?_ | refine i_add rfl rfl (by simp only [InR, List.length_map]; omega) ?_ | refine i_sub rfl rfl (by simp only [InR, List.length_map]; omega) ?_ | refine i_ixm rfl rfl (by assumption) ?_ | refine i_iam rfl rfl (by assumption) rfl ?_ | refine i_tk rfl rfl (by omega) ?_ | refine i_stb rfl ?_ | refine i_alloc rfl ?_ | refine i_box rfl rfl ?_ | refine i_nv rfl ?_ | refine c_node ?_ ?_ | refine i_g rfl (fun h => ?_) (fun h => ?_) | refine c_cond rfl (fun h => ?_) (fun h => ?_) | refine i_f rfl rfl (f_L1_typed) rfl ?_ | refine i_f rfl rfl (m1) rfl ?_ | refine i_f rfl rfl (m2) rfl ?_ | refine i_f rfl rfl (m3) rfl ?_)
    all_goals first | (refine e_ret ⟨rfl, _, rfl, congrArg V.bool ?_⟩; first | rfl | grind) | (exfalso; grind)
def c_L1_TypesMatchSpec : Cmd :=
  (.seq
   (.ops [
   .op (some 8) none (.mov (.c (.bool false)))])
   (.cut
   (.seq
   (.seq
   (.ops [
   .op (some 16) none (.call .f (.c (.fn 12 [])) []),
   .op (some 17) none (.not (.t 16)),
   .op (some 18) none (.mov (.t 17)),
   .op (some 19) (some (18, false)) (.mov (.t 0)),
   .op (some 20) (some (18, false)) (.call .f (.c (.fn 13 [])) [.t 19]),
   .op (some 21) (some (18, false)) (.mov (.t 0)),
   .op (some 22) (some (18, false)) (.call .f (.c (.fn 14 [])) [.t 21]),
   .op (some 23) (some (18, false)) (.bin .neq true [.i, .i] (.t 20) (.t 22)),
   .op (some 24) none (.pick (.t 18) (.c (.bool true)) (.t 23))])
   (.cut
   (.cond (.t 24)
   (.seq
   (.ops [
   .op (some 8) none (.mov (.c (.bool false)))])
   .ret)
   .skip)))
   (.cut
   (.seq
   (.ops [
   .op (some 25) none (.mov (.t 0)),
   .op (some 26) none (.mov (.t 2)),
   .op (some 27) none (.mov (.t 3)),
   .op (some 28) none (.call .f (.c (.fn 15 [])) [.t 25, .t 26, .t 27]),
   .op (some 9) none (.alloc 192578 (.agg [.int .i64 (0), .int .i64 (0)])),
   .op none none (.store 2 (.t 9) (.t 28))])
   (.cut
   (.seq
   (.ops [
   .op (some 30) none (.mov (.t 0)),
   .op (some 31) none (.mov (.t 2)),
   .op (some 32) none (.mov (.t 3)),
   .op (some 33) none (.call .f (.c (.fn 16 [])) [.t 30, .t 31, .t 32]),
   .op (some 29) none (.mov (.t 33)),
   .op (some 34) none (.extract (.t 29) 0),
   .op (some 35) none (.extract (.t 29) 1),
   .op (some 11) none (.alloc 192706 (.agg [.int .i64 (0), .int .i64 (0)])),
   .op (some 10) none (.mov (.t 34)),
   .op none none (.store 2 (.t 11) (.t 35))])
   (.cut
   (.seq
   (.ops [
   .op (some 37) none (.mov (.t 0)),
   .op (some 38) none (.mov (.t 2)),
   .op (some 39) none (.mov (.t 3)),
   .op (some 40) none (.call .f (.c (.fn 17 [])) [.t 37, .t 38, .t 39]),
   .op (some 36) none (.mov (.t 40)),
   .op (some 41) none (.extract (.t 36) 0),
   .op (some 42) none (.extract (.t 36) 1),
   .op (some 13) none (.alloc 192834 (.agg [.int .i64 (0), .int .i64 (0)])),
   .op (some 12) none (.mov (.t 41)),
   .op none none (.store 2 (.t 13) (.t 42))])
   (.cut
   (.seq
   (.seq
   (.ops [
   .op (some 43) none (.load true 2 (.t 11)),
   .op (some 44) none (.load true 2 (.t 9)),
   .op (some 45) none (.bin .neq true [.i, .i] (.t 43) (.t 44)),
   .op (some 46) none (.mov (.t 45)),
   .op (some 47) (some (46, false)) (.load true 2 (.t 13)),
   .op (some 48) (some (46, false)) (.load true 2 (.t 9)),
   .op (some 49) (some (46, false)) (.bin .neq true [.i, .i] (.t 47) (.t 48)),
   .op (some 50) none (.pick (.t 46) (.c (.bool true)) (.t 49)),
   .op (some 51) none (.mov (.t 50)),
   .op (some 52) (some (51, false)) (.faddr 0 (.t 9)),
   .op (some 53) (some (51, false)) (.load false 1 (.t 52)),
   .op (some 54) (some (51, false)) (.bin .neq false [.i] (.t 53) (.c (.int .i64 (0)))),
   .op (some 55) (some (51, false)) (.mov (.t 54)),
   .op (some 56) (some (55, true)) (.mov (.t 10)),
   .op (some 57) (some (55, true)) (.mov (.t 56)),
   .op (some 58) (some (57, false)) (.mov (.t 12)),
   .op (some 59) (some (57, false)) (.bin .neq false [.i] (.t 58) (.c (.int .i64 (0)))),
   .op (some 60) (some (55, true)) (.pick (.t 57) (.c (.bool true)) (.t 59)),
   .op (some 61) (some (51, false)) (.pick (.t 55) (.t 60) (.c (.bool false))),
   .op (some 62) none (.pick (.t 51) (.c (.bool true)) (.t 61)),
   .op (some 63) none (.mov (.t 62)),
   .op (some 64) (some (63, false)) (.faddr 0 (.t 9)),
   .op (some 65) (some (63, false)) (.load false 1 (.t 64)),
   .op (some 66) (some (63, false)) (.bin .eql false [.i] (.t 65) (.c (.int .i64 (0)))),
   .op (some 67) (some (63, false)) (.mov (.t 66)),
   .op (some 68) (some (67, true)) (.mov (.t 10)),
   .op (some 69) (some (67, true)) (.mov (.t 0)),
   .op (some 70) (some (67, true)) (.mov (.t 2)),
   .op (some 71) (some (67, true)) (.mov (.t 3)),
   .op (some 72) (some (67, true)) (.call .f (.c (.fn 18 [])) [.t 69, .t 70, .t 71]),
   .op (some 73) (some (67, true)) (.bin .neq false [.b] (.t 68) (.t 72)),
   .op (some 74) (some (67, true)) (.mov (.t 73)),
   .op (some 75) (some (74, false)) (.mov (.t 12)),
   .op (some 76) (some (74, false)) (.mov (.t 0)),
   .op (some 77) (some (74, false)) (.mov (.t 2)),
   .op (some 78) (some (74, false)) (.mov (.t 3)),
   .op (some 79) (some (74, false)) (.call .f (.c (.fn 19 [])) [.t 76, .t 77, .t 78]),
   .op (some 80) (some (74, false)) (.bin .neq false [.i] (.t 75) (.t 79)),
   .op (some 81) (some (67, true)) (.pick (.t 74) (.c (.bool true)) (.t 80)),
   .op (some 82) (some (63, false)) (.pick (.t 67) (.t 81) (.c (.bool false))),
   .op (some 83) none (.pick (.t 63) (.c (.bool true)) (.t 82))])
   (.cut
   (.cond (.t 83)
   (.seq
   (.ops [
   .op (some 8) none (.mov (.c (.bool false)))])
   .ret)
   .skip)))
   (.cut
   (.seq
   (.ops [
   .op (some 84) none (.mov (.t 0)),
   .op (some 85) none (.mov (.t 2)),
   .op (some 86) none (.mov (.t 2)),
   .op (some 87) none (.call .f (.c (.fn 15 [])) [.t 84, .t 85, .t 86]),
   .op none none (.store 2 (.t 9) (.t 87))])
   (.cut
   (.seq
   (.seq
   (.ops [
   .op (some 88) none (.faddr 0 (.t 9)),
   .op (some 89) none (.load false 1 (.t 88)),
   .op (some 90) none (.bin .eql false [.i] (.t 89) (.c (.int .i64 (0))))])
   (.cut
   (.cond (.t 90)
   (.ops [
   .op (some 91) none (.mov (.t 0)),
   .op (some 92) none (.mov (.t 1)),
   .op (some 93) none (.call .f (.c (.fn 20 [])) [.t 91, .t 92]),
   .op none none (.store 2 (.t 9) (.t 93))])
   .skip)))
   (.cut
   (.seq
   (.ops [
   .op (some 95) none (.mov (.t 0)),
   .op (some 96) none (.mov (.t 1)),
   .op (some 97) none (.mov (.t 2)),
   .op (some 98) none (.call .f (.c (.fn 21 [])) [.t 95, .t 96, .t 97]),
   .op (some 94) none (.mov (.t 98)),
   .op (some 99) none (.extract (.t 94) 0),
   .op (some 100) none (.extract (.t 94) 1),
   .op (some 15) none (.alloc 192962 (.agg [.int .i64 (0), .int .i64 (0)])),
   .op (some 14) none (.mov (.t 99)),
   .op none none (.store 2 (.t 15) (.t 100))])
   (.cut
   (.seq
   (.ops [
   .op (some 101) none (.load true 2 (.t 15)),
   .op (some 102) none (.load true 2 (.t 9)),
   .op (some 103) none (.bin .eql true [.i, .i] (.t 101) (.t 102)),
   .op (some 104) none (.mov (.t 103)),
   .op (some 105) (some (104, true)) (.faddr 0 (.t 9)),
   .op (some 106) (some (104, true)) (.load false 1 (.t 105)),
   .op (some 107) (some (104, true)) (.bin .neq false [.i] (.t 106) (.c (.int .i64 (0)))),
   .op (some 108) (some (104, true)) (.mov (.t 107)),
   .op (some 109) (some (108, true)) (.mov (.t 14)),
   .op (some 110) (some (108, true)) (.len false (.t 109)),
   .op (some 111) (some (108, true)) (.bin .eql false [.i] (.t 110) (.c (.int .i64 (0)))),
   .op (some 112) (some (104, true)) (.pick (.t 108) (.t 111) (.c (.bool false))),
   .op (some 113) (some (104, true)) (.mov (.t 112)),
   .op (some 114) (some (113, false)) (.faddr 0 (.t 9)),
   .op (some 115) (some (113, false)) (.load false 1 (.t 114)),
   .op (some 116) (some (113, false)) (.bin .eql false [.i] (.t 115) (.c (.int .i64 (0)))),
   .op (some 117) (some (113, false)) (.mov (.t 116)),
   .op (some 118) (some (117, true)) (.mov (.t 14)),
   .op (some 119) (some (117, true)) (.mov (.t 0)),
   .op (some 120) (some (117, true)) (.mov (.t 1)),
   .op (some 121) (some (117, true)) (.mov (.t 2)),
   .op (some 122) (some (117, true)) (.call .f (.c (.fn 23 [])) [.t 119, .t 120, .t 121]),
   .op (some 123) (some (117, true)) (.call .f (.c (.fn 22 [])) [.t 118, .t 122]),
   .op (some 124) (some (113, false)) (.pick (.t 117) (.t 123) (.c (.bool false))),
   .op (some 125) (some (104, true)) (.pick (.t 113) (.c (.bool true)) (.t 124)),
   .op (some 126) none (.pick (.t 104) (.t 125) (.c (.bool false))),
   .op (some 8) none (.mov (.t 126))])
   .ret)))))))))))))))))))
def r_L1_TypesMatchSpec : List RVar := [.tmp 8]
def n_L1_TypesMatchSpec : Nat := 127
theorem k_L1_TypesMatchSpec : chkFn Go.Proofs.Try.prog 3 n_L1_TypesMatchSpec r_L1_TypesMatchSpec c_L1_TypesMatchSpec = true := by kernel_rfl
theorem f_L1_TypesMatchSpec (l : List Typ) (ho : TyOk l) (os : List Obj) (hos : ObOk os) (a b : Int) : Fc Go.Proofs.Try.prog 3 [.sl .p (l.map tyV), .sl .p (os.map obV), .int .i64 a, .int .i64 b] (.bool true) := by
  have v1 := f_types_Validate l ho
  have v2 := f_R1_TypesFault l ho
  have u1 := f_R1_UsedFault l ho a b
  have u2 := f_R1_UsedFault l ho a a
  rw [← checkF_two] at u1 u2
  have hc1 := checkF_code l [a, b]
  have hc2 := checkF_code l [a, a]
  have hob := f_R1_ObjectsFault l ho.1 os hos
  have hco := objectsFault_code l.length os
  have haa : checkF l [a, a] = checkF l [a] := by
    unfold checkF; simp only [List.any_cons, List.any_nil, Bool.or_false, Bool.or_self]
  rw [haa] at u2 hc2
  by_cases h1 : checkF l [a, b] = okF
  · have ca := (check_pair.1 h1).1
    obtain ⟨hv, ht, ra0, ra1⟩ := check_one.1 ca
    obtain ⟨_, _, rb0, rb1⟩ := check_one.1 (check_pair.1 h1).2
    have s1 := f_types_Sub_ok l ho a b h1
    have s2 := f_types_Join_ok l ho a b h1
    have s3 := f_R1_Sub l hv a b ra0 ra1
    have s4 := f_R1_JoinOf l hv a b ra0 ra1 rb0 rb1
    rw [h1] at u1
    rw [ca] at u2
    rw [ht] at v1 v2
    by_cases h2 : objectsFault l.length os = okF
    · have m1 := f_types_Members_ok l ho os hos a ca h2
      obtain ⟨h8, hor⟩ := objectsFault_valid h2
      have m2 := f_R1_MembersOf l hv os h8 hor a
      have hl1 := members_length (l := l) (os := os) (t := a)
      have m3 := f_R1_Ints (membersOf l os a) (membersOf l os a) (by omega)
      rw [h2] at hob
      refine Fn.step mixed k_L1_TypesMatchSpec ?_
      repeat' (first | refine i_s rfl ?_ | refine c_seq ?_ | refine c_cut0 ?_ | refine c_ops ?_ | refine i_nil ?_ | refine e_seq ?_ | refine e_block ?_ | refine c_block ?_ | refine c_skip ?_ | refine c_ret ?_ | refine c_exit ?_ | refine e_exit rfl ?_ | refine i_s0 rfl ?_ | refine c_leaf ?_ | refine i_gt rfl ?_ | refine i_gf rfl ?_ | refine i_gd rfl ?_ | refine c_t rfl ?_ | refine c_f rfl ?_ | refine i_conv rfl (by simp only [InR, List.length_map]; omega) ?_ | refine i_add rfl rfl (by simp only [InR, List.length_map]; omega) ?_ | refine i_sub rfl rfl (by simp only [InR, List.length_map]; omega) ?_ | refine i_ixm rfl rfl (by assumption) ?_ | refine i_iam rfl rfl (by assumption) rfl ?_ | refine i_tk rfl rfl (by omega) ?_ | refine i_stb rfl ?_ | refine i_alloc rfl ?_ | refine i_box rfl rfl ?_ | refine i_nv rfl ?_ | refine c_node ?_ ?_ | refine i_g rfl (fun h => ?_) (fun h => ?_) | refine c_cond rfl (fun h => ?_) (fun h => ?_) | refine i_f rfl rfl (f_L1_typed) rfl ?_ | refine i_f rfl rfl (v1) rfl ?_ | refine i_f rfl rfl (v2) rfl ?_ | refine i_f rfl rfl (u1) rfl ?_ | refine i_f rfl rfl (u2) rfl ?_ | refine i_f rfl rfl (s1) rfl ?_ | refine i_f rfl rfl (s2) rfl ?_ | refine i_f rfl rfl (s3) rfl ?_ | refine i_f rfl rfl (s4) rfl ?_ | refine i_f rfl rfl (m1) rfl ?_ | refine i_f rfl rfl (m2) rfl ?_ | refine i_f rfl rfl (m3) rfl ?_ | refine i_f rfl rfl (hob) rfl ?_)
      all_goals first | (refine e_ret ⟨rfl, _, rfl, congrArg V.bool ?_⟩; first | rfl | grind) | (exfalso; grind)
    · have m1 := f_types_Members_bad2 l ho os hos a ca h2
      have hne : (objectsFault l.length os).code ≠ 0 := fun e => h2 (hco.1 e)
      refine Fn.step mixed k_L1_TypesMatchSpec ?_
      repeat' (first | refine i_s rfl ?_ | refine c_seq ?_ | refine c_cut0 ?_ | refine c_ops ?_ | refine i_nil ?_ | refine e_seq ?_ | refine e_block ?_ | refine c_block ?_ | refine c_skip ?_ | refine c_ret ?_ | refine c_exit ?_ | refine e_exit rfl ?_ | refine i_s0 rfl ?_ | refine c_leaf ?_ | refine i_gt rfl ?_ | refine i_gf rfl ?_ | refine i_gd rfl ?_ | refine c_t rfl ?_ | refine c_f rfl ?_ | refine i_conv rfl (by simp only [InR, List.length_map]; omega) ?_ | refine i_add rfl rfl (by simp only [InR, List.length_map]; omega) ?_ | refine i_sub rfl rfl (by simp only [InR, List.length_map]; omega) ?_ | refine i_ixm rfl rfl (by assumption) ?_ | refine i_iam rfl rfl (by assumption) rfl ?_ | refine i_tk rfl rfl (by omega) ?_ | refine i_stb rfl ?_ | refine i_alloc rfl ?_ | refine i_box rfl rfl ?_ | refine i_nv rfl ?_ | refine c_node ?_ ?_ | refine i_g rfl (fun h => ?_) (fun h => ?_) | refine c_cond rfl (fun h => ?_) (fun h => ?_) | refine i_f rfl rfl (f_L1_typed) rfl ?_ | refine i_f rfl rfl (v1) rfl ?_ | refine i_f rfl rfl (v2) rfl ?_ | refine i_f rfl rfl (u1) rfl ?_ | refine i_f rfl rfl (u2) rfl ?_ | refine i_f rfl rfl (s1) rfl ?_ | refine i_f rfl rfl (s2) rfl ?_ | refine i_f rfl rfl (s3) rfl ?_ | refine i_f rfl rfl (s4) rfl ?_ | refine i_f rfl rfl (m1) rfl ?_ | refine i_f rfl rfl (hob) rfl ?_)
      all_goals first | (refine e_ret ⟨rfl, _, rfl, congrArg V.bool ?_⟩; first | rfl | grind) | (exfalso; grind)
  · have s1 := f_types_Sub_bad l ho a b h1
    have s2 := f_types_Join_bad l ho a b h1
    have hne : (checkF l [a, b]).code ≠ 0 := fun e => h1 (hc1.1 e)
    by_cases ca : checkF l [a] = okF
    · obtain ⟨hv, ht, ra0, ra1⟩ := check_one.1 ca
      rw [ca] at u2
      rw [ht] at v1 v2
      by_cases h2 : objectsFault l.length os = okF
      · have m1 := f_types_Members_ok l ho os hos a ca h2
        obtain ⟨h8, hor⟩ := objectsFault_valid h2
        have m2 := f_R1_MembersOf l hv os h8 hor a
        have hl1 := members_length (l := l) (os := os) (t := a)
        have m3 := f_R1_Ints (membersOf l os a) (membersOf l os a) (by omega)
        rw [h2] at hob
        refine Fn.step mixed k_L1_TypesMatchSpec ?_
        repeat' (first | refine i_s rfl ?_ | refine c_seq ?_ | refine c_cut0 ?_ | refine c_ops ?_ | refine i_nil ?_ | refine e_seq ?_ | refine e_block ?_ | refine c_block ?_ | refine c_skip ?_ | refine c_ret ?_ | refine c_exit ?_ | refine e_exit rfl ?_ | refine i_s0 rfl ?_ | refine c_leaf ?_ | refine i_gt rfl ?_ | refine i_gf rfl ?_ | refine i_gd rfl ?_ | refine c_t rfl ?_ | refine c_f rfl ?_ | refine i_conv rfl (by simp only [InR, List.length_map]; omega) ?_ | refine i_add rfl rfl (by simp only [InR, List.length_map]; omega) ?_ | refine i_sub rfl rfl (by simp only [InR, List.length_map]; omega) ?_ | refine i_ixm rfl rfl (by assumption) ?_ | refine i_iam rfl rfl (by assumption) rfl ?_ | refine i_tk rfl rfl (by omega) ?_ | refine i_stb rfl ?_ | refine i_alloc rfl ?_ | refine i_box rfl rfl ?_ | refine i_nv rfl ?_ | refine c_node ?_ ?_ | refine i_g rfl (fun h => ?_) (fun h => ?_) | refine c_cond rfl (fun h => ?_) (fun h => ?_) | refine i_f rfl rfl (f_L1_typed) rfl ?_ | refine i_f rfl rfl (v1) rfl ?_ | refine i_f rfl rfl (v2) rfl ?_ | refine i_f rfl rfl (u1) rfl ?_ | refine i_f rfl rfl (u2) rfl ?_ | refine i_f rfl rfl (s1) rfl ?_ | refine i_f rfl rfl (s2) rfl ?_ | refine i_f rfl rfl (m1) rfl ?_ | refine i_f rfl rfl (m2) rfl ?_ | refine i_f rfl rfl (m3) rfl ?_ | refine i_f rfl rfl (hob) rfl ?_)
        all_goals first | (refine e_ret ⟨rfl, _, rfl, congrArg V.bool ?_⟩; first | rfl | grind) | (exfalso; grind)
      · have m1 := f_types_Members_bad2 l ho os hos a ca h2
        have hne2 : (objectsFault l.length os).code ≠ 0 := fun e => h2 (hco.1 e)
        refine Fn.step mixed k_L1_TypesMatchSpec ?_
        repeat' (first | refine i_s rfl ?_ | refine c_seq ?_ | refine c_cut0 ?_ | refine c_ops ?_ | refine i_nil ?_ | refine e_seq ?_ | refine e_block ?_ | refine c_block ?_ | refine c_skip ?_ | refine c_ret ?_ | refine c_exit ?_ | refine e_exit rfl ?_ | refine i_s0 rfl ?_ | refine c_leaf ?_ | refine i_gt rfl ?_ | refine i_gf rfl ?_ | refine i_gd rfl ?_ | refine c_t rfl ?_ | refine c_f rfl ?_ | refine i_conv rfl (by simp only [InR, List.length_map]; omega) ?_ | refine i_add rfl rfl (by simp only [InR, List.length_map]; omega) ?_ | refine i_sub rfl rfl (by simp only [InR, List.length_map]; omega) ?_ | refine i_ixm rfl rfl (by assumption) ?_ | refine i_iam rfl rfl (by assumption) rfl ?_ | refine i_tk rfl rfl (by omega) ?_ | refine i_stb rfl ?_ | refine i_alloc rfl ?_ | refine i_box rfl rfl ?_ | refine i_nv rfl ?_ | refine c_node ?_ ?_ | refine i_g rfl (fun h => ?_) (fun h => ?_) | refine c_cond rfl (fun h => ?_) (fun h => ?_) | refine i_f rfl rfl (f_L1_typed) rfl ?_ | refine i_f rfl rfl (v1) rfl ?_ | refine i_f rfl rfl (v2) rfl ?_ | refine i_f rfl rfl (u1) rfl ?_ | refine i_f rfl rfl (u2) rfl ?_ | refine i_f rfl rfl (s1) rfl ?_ | refine i_f rfl rfl (s2) rfl ?_ | refine i_f rfl rfl (m1) rfl ?_ | refine i_f rfl rfl (hob) rfl ?_)
        all_goals first | (refine e_ret ⟨rfl, _, rfl, congrArg V.bool ?_⟩; first | rfl | grind) | (exfalso; grind)
    · have m1 := f_types_Members_bad1 l ho os hos a ca
      have hne2 : (checkF l [a]).code ≠ 0 := fun e => ca (hc2.1 e)
      refine Fn.step mixed k_L1_TypesMatchSpec ?_
      repeat' (first | refine i_s rfl ?_ | refine c_seq ?_ | refine c_cut0 ?_ | refine c_ops ?_ | refine i_nil ?_ | refine e_seq ?_ | refine e_block ?_ | refine c_block ?_ | refine c_skip ?_ | refine c_ret ?_ | refine c_exit ?_ | refine e_exit rfl ?_ | refine i_s0 rfl ?_ | refine c_leaf ?_ | refine i_gt rfl ?_ | refine i_gf rfl ?_ | refine i_gd rfl ?_ | refine c_t rfl ?_ | refine c_f rfl ?_ | refine i_conv rfl (by simp only [InR, List.length_map]; omega) ?_ | refine i_add rfl rfl (by simp only [InR, List.length_map]; omega) ?_ | refine i_sub rfl rfl (by simp only [InR, List.length_map]; omega) ?_ | refine i_ixm rfl rfl (by assumption) ?_ | refine i_iam rfl rfl (by assumption) rfl ?_ | refine i_tk rfl rfl (by omega) ?_ | refine i_stb rfl ?_ | refine i_alloc rfl ?_ | refine i_box rfl rfl ?_ | refine i_nv rfl ?_ | refine c_node ?_ ?_ | refine i_g rfl (fun h => ?_) (fun h => ?_) | refine c_cond rfl (fun h => ?_) (fun h => ?_) | refine i_f rfl rfl (f_L1_typed) rfl ?_ | refine i_f rfl rfl (v1) rfl ?_ | refine i_f rfl rfl (v2) rfl ?_ | refine i_f rfl rfl (u1) rfl ?_ | refine i_f rfl rfl (u2) rfl ?_ | refine i_f rfl rfl (s1) rfl ?_ | refine i_f rfl rfl (s2) rfl ?_ | refine i_f rfl rfl (m1) rfl ?_ | refine i_f rfl rfl (hob) rfl ?_)
      all_goals first | (refine e_ret ⟨rfl, _, rfl, congrArg V.bool ?_⟩; first | rfl | grind) | (exfalso; grind)
end Hm
end
