/- The law of steps answers true: a valid task and state. -/
import Derived.Test.YtjkpijodocopmaaStD
section
/- The law of steps answers true: a valid task and state. -/
namespace Hm
open Go
set_option maxRecDepth 100000
set_option maxHeartbeats 4000000
set_option linter.unusedSimpArgs false
set_option linter.unusedVariables false
theorem f_L1_StripsMatchesSpec_ok (t : STask) (ho : SkOk t) (s : List Int) (op : Int) (hb : stFault t s = okF) : Fc Go.Proofs.Try.prog 3 [skV t, .sl .p (s.map i64V), .int .i64 op] (.bool true) := by
  obtain ⟨hv, hss, hsf⟩ := stFault_ok hb
  have hsl := set_le hv hss
  have hol := hv.opl
  have hT := f_L1_acts
  have hF := f_R1_StateFault t ho s (by omega)
  have hV := f_strips_Validate t ho
  have hW := f_R1_TaskFault t ho
  rw [hb] at hF
  rw [hsf] at hV hW
  have h1 := f_strips_Applicable_ok t ho s hb
  rw [appS_sel] at h1
  have hall := selK_len (appAtS t s) t.ops.length
  have h4 := f_Ints_same (selK (appAtS t s) t.ops.length) (by omega)
  refine Fn.step mixed k_L1_StripsMatchesSpec ?_
  repeat' (first | refine i_len rfl ?_ | refine i_s rfl ?_ | refine i_lenm rfl rfl rfl ?_ | refine c_seq ?_ | refine c_cut0 ?_ | refine c_ops ?_ | refine i_nil ?_ | refine e_seq ?_ | refine e_block ?_ | refine c_block ?_ | refine c_skip ?_ | refine c_ret ?_ | refine c_exit ?_ | refine e_exit rfl ?_ | refine i_s0 rfl ?_ | refine c_leaf ?_ | refine i_gt rfl ?_ | refine i_gf rfl ?_ | refine i_gd rfl ?_ | refine c_t rfl ?_ | refine c_f rfl ?_ | refine i_conv rfl (by simp only [InR, List.length_map]; omega) ?_ | refine i_add rfl rfl (by simp only [InR, List.length_map]; omega) ?_ | refine i_sub rfl rfl (by simp only [InR, List.length_map]; omega) ?_ | refine i_ixm rfl rfl (by assumption) ?_ | refine i_iai rfl rfl (by omega) (by assumption) rfl ?_ | refine i_iam rfl rfl (by assumption) rfl ?_ | refine i_tk rfl rfl (by omega) ?_ | refine i_stb rfl ?_ | refine i_alloc rfl ?_ | refine i_box rfl rfl ?_ | refine i_nv rfl ?_ | refine c_node ?_ ?_ | refine i_g rfl (fun h => ?_) (fun h => ?_) | refine c_cond rfl (fun h => ?_) (fun h => ?_) | refine i_f rfl rfl (hF) rfl ?_ | refine i_f rfl rfl (hT) rfl ?_ | refine i_f rfl rfl (hV) rfl ?_ | refine i_f rfl rfl (hW) rfl ?_ | refine i_f rfl rfl (h1) rfl ?_)
  refine c_for t.ops.length (fun k => [(1, .sl .p (s.map i64V)), (2, .int .i64 op), (3, .bptr 192196 0), (7, .bptr 192450 0), (8, .sl .p ((selK (appAtS t s) t.ops.length).map i64V)), (9, .bptr 192578 0), (10, .sl (.own 192641) ((selK (appAtS t s) k).map i64V)), (11, .int .i64 k)])
    (fun k => [(192196, .box (skV t)), (192450, .box (ftV okF)), (192578, .box (ftV okF)), (192641, .vec (selK (appAtS t s) k).length)]) (fun _ => True) trivial ⟨by repeat (first | exact trivial | refine ⟨rfl, ?_⟩), by repeat (first | exact trivial | refine ⟨rfl, ?_⟩), rfl⟩ fun k hk _ => ?_
  have hml := selK_len (appAtS t s) k
  have e := selK_succ (appAtS t s) k
  clear hF hT hV hW h1
  repeat (first | refine i_len rfl ?_ | refine i_s rfl ?_ | refine i_lenm rfl rfl rfl ?_ | refine c_seq ?_ | refine c_cut0 ?_ | refine c_ops ?_ | refine i_nil ?_ | refine e_seq ?_ | refine e_block ?_ | refine c_block ?_ | refine c_skip ?_ | refine c_ret ?_ | refine c_exit ?_ | refine e_exit rfl ?_ | refine i_s0 rfl ?_ | refine c_leaf ?_ | refine i_gt rfl ?_ | refine i_gf rfl ?_ | refine i_gd rfl ?_ | refine c_t rfl ?_ | refine c_f rfl ?_ | refine i_conv rfl (by simp only [InR, List.length_map]; omega) ?_ | refine i_add rfl rfl (by simp only [InR, List.length_map]; omega) ?_ | refine i_sub rfl rfl (by simp only [InR, List.length_map]; omega) ?_ | refine i_ixm rfl rfl (by assumption) ?_ | refine i_iai rfl rfl (by omega) (by assumption) rfl ?_ | refine i_iam rfl rfl (by assumption) rfl ?_ | refine i_tk rfl rfl (by omega) ?_ | refine i_stb rfl ?_ | refine i_alloc rfl ?_ | refine i_box rfl rfl ?_ | refine i_nv rfl ?_)
  refine i_g rfl (fun h => ?_) (fun h => ?_)
  · have hlt : k < t.ops.length := by simpa using h
    obtain ⟨o, hc⟩ := get_some hlt
    have hA := f_R1_Applies t s (by omega) k (by omega) o hc (by have := set_le hv (hv.op o (mem_get hc)).pre; omega)
    rw [show appAtS t s k = inclB o.pre s from by simp [appAtS, hc]] at e
    clear h h4
    cases hi : inclB o.pre s with
    | true =>
      rw [hi] at hA e
      repeat (first | refine i_len rfl ?_ | refine i_s rfl ?_ | refine i_lenm rfl rfl rfl ?_ | refine c_seq ?_ | refine c_cut0 ?_ | refine c_ops ?_ | refine i_nil ?_ | refine e_seq ?_ | refine e_block ?_ | refine c_block ?_ | refine c_skip ?_ | refine c_ret ?_ | refine c_exit ?_ | refine e_exit rfl ?_ | refine i_s0 rfl ?_ | refine c_leaf ?_ | refine i_gt rfl ?_ | refine i_gf rfl ?_ | refine i_gd rfl ?_ | refine c_t rfl ?_ | refine c_f rfl ?_ | refine i_conv rfl (by simp only [InR, List.length_map]; omega) ?_ | refine i_add rfl rfl (by simp only [InR, List.length_map]; omega) ?_ | refine i_sub rfl rfl (by simp only [InR, List.length_map]; omega) ?_ | refine i_ixm rfl rfl (by assumption) ?_ | refine i_iai rfl rfl (by omega) (by assumption) rfl ?_ | refine i_iam rfl rfl (by assumption) rfl ?_ | refine i_tk rfl rfl (by omega) ?_ | refine i_stb rfl ?_ | refine i_alloc rfl ?_ | refine i_box rfl rfl ?_ | refine i_nv rfl ?_ | refine i_f rfl rfl (hA) rfl ?_)
      refine i_appM rfl rfl rfl rfl rfl (by omega) (by omega) ?_
      repeat (first | refine i_len rfl ?_ | refine i_s rfl ?_ | refine i_lenm rfl rfl rfl ?_ | refine c_seq ?_ | refine c_cut0 ?_ | refine c_ops ?_ | refine i_nil ?_ | refine e_seq ?_ | refine e_block ?_ | refine c_block ?_ | refine c_skip ?_ | refine c_ret ?_ | refine c_exit ?_ | refine e_exit rfl ?_ | refine i_s0 rfl ?_ | refine c_leaf ?_ | refine i_gt rfl ?_ | refine i_gf rfl ?_ | refine i_gd rfl ?_ | refine c_t rfl ?_ | refine c_f rfl ?_ | refine i_conv rfl (by simp only [InR, List.length_map]; omega) ?_ | refine i_add rfl rfl (by simp only [InR, List.length_map]; omega) ?_ | refine i_sub rfl rfl (by simp only [InR, List.length_map]; omega) ?_ | refine i_ixm rfl rfl (by assumption) ?_ | refine i_iai rfl rfl (by omega) (by assumption) rfl ?_ | refine i_iam rfl rfl (by assumption) rfl ?_ | refine i_tk rfl rfl (by omega) ?_ | refine i_stb rfl ?_ | refine i_alloc rfl ?_ | refine i_box rfl rfl ?_ | refine i_nv rfl ?_)
      refine e_for hlt trivial ⟨⟨rfl, rfl, rfl, rfl, rfl, rfl, ?_, rfl, trivial⟩, ⟨rfl, rfl, rfl, ?_, trivial⟩, rfl⟩
      · rw [e]; rfl
      · rw [e]; simp; rfl
    | false =>
      rw [hi] at hA e
      repeat (first | refine i_len rfl ?_ | refine i_s rfl ?_ | refine i_lenm rfl rfl rfl ?_ | refine c_seq ?_ | refine c_cut0 ?_ | refine c_ops ?_ | refine i_nil ?_ | refine e_seq ?_ | refine e_block ?_ | refine c_block ?_ | refine c_skip ?_ | refine c_ret ?_ | refine c_exit ?_ | refine e_exit rfl ?_ | refine i_s0 rfl ?_ | refine c_leaf ?_ | refine i_gt rfl ?_ | refine i_gf rfl ?_ | refine i_gd rfl ?_ | refine c_t rfl ?_ | refine c_f rfl ?_ | refine i_conv rfl (by simp only [InR, List.length_map]; omega) ?_ | refine i_add rfl rfl (by simp only [InR, List.length_map]; omega) ?_ | refine i_sub rfl rfl (by simp only [InR, List.length_map]; omega) ?_ | refine i_ixm rfl rfl (by assumption) ?_ | refine i_iai rfl rfl (by omega) (by assumption) rfl ?_ | refine i_iam rfl rfl (by assumption) rfl ?_ | refine i_tk rfl rfl (by omega) ?_ | refine i_stb rfl ?_ | refine i_alloc rfl ?_ | refine i_box rfl rfl ?_ | refine i_nv rfl ?_ | refine i_f rfl rfl (hA) rfl ?_)
      refine e_for hlt trivial ⟨⟨rfl, rfl, rfl, rfl, rfl, rfl, ?_, rfl, trivial⟩, ⟨rfl, rfl, rfl, ?_, trivial⟩, rfl⟩
      · rw [e]; simp; rfl
      · rw [e]; simp; rfl
  · have hge : k = t.ops.length := by have : ¬ k < t.ops.length := by simpa using h
                                      omega
    subst hge
    clear h e
    by_cases hr : 0 ≤ op ∧ op < t.ops.length
    · have hI := in_true hr
      obtain ⟨r0, r1⟩ := hr
      obtain ⟨o, hc⟩ := get_some (l := t.ops) (k := op.toNat) (by omega)
      have hoo := hv.op o (mem_get hc)
      have hpl := set_le hv hoo.pre
      have hal := set_le hv hoo.add
      have hdl := set_le hv hoo.del
      have hA := f_R1_Applies t s (by omega) op r0 o hc (by omega)
      have h2 := f_strips_Apply_ok t ho s hb op r0 r1 o hc
      have h3 := f_strips_Regress_ok t ho s hb op r0 r1 o hc
      have hN := f_R1_After t hv s hss op r0 o hc
      have h5 := f_Ints_same (updL s o.add o.del) (by have := set_le hv (updL_set (del := o.del) hss hoo.add); omega)
      have hD := f_R1_Disjoint s o.del (by omega) (by omega)
      have h6 := f_Ints_same (updL s o.pre o.add) (by have := set_le hv (updL_set (del := o.add) hss hoo.pre); omega)
      have hf := facts_nat hv
      have hf1 := hv.f1
      have eu := updL_eqF hv (del := o.add) hss hoo.pre
      generalize hn : t.facts.toNat = n at *
      cases hd : disjB s o.del with
      | false =>
        rw [hd] at hD
        rw [hd, if_neg (by simp)] at h3
        cases hi : inclB o.pre s
        all_goals
          rw [hi] at hA h2
          simp only [if_true, if_false, Bool.false_eq_true, reduceIte] at h2
          repeat' (first | refine i_len rfl ?_ | refine i_s rfl ?_ | refine i_lenm rfl rfl rfl ?_ | refine c_seq ?_ | refine c_cut0 ?_ | refine c_ops ?_ | refine i_nil ?_ | refine e_seq ?_ | refine e_block ?_ | refine c_block ?_ | refine c_skip ?_ | refine c_ret ?_ | refine c_exit ?_ | refine e_exit rfl ?_ | refine i_s0 rfl ?_ | refine c_leaf ?_ | refine i_gt rfl ?_ | refine i_gf rfl ?_ | refine i_gd rfl ?_ | refine c_t rfl ?_ | refine c_f rfl ?_ | refine i_conv rfl (by simp only [InR, List.length_map]; omega) ?_ | refine i_add rfl rfl (by simp only [InR, List.length_map]; omega) ?_ | refine i_sub rfl rfl (by simp only [InR, List.length_map]; omega) ?_ | refine i_ixm rfl rfl (by assumption) ?_ | refine i_iai rfl rfl (by omega) (by assumption) rfl ?_ | refine i_iam rfl rfl (by assumption) rfl ?_ | refine i_tk rfl rfl (by omega) ?_ | refine i_stb rfl ?_ | refine i_alloc rfl ?_ | refine i_box rfl rfl ?_ | refine i_nv rfl ?_ | refine c_node ?_ ?_ | refine i_g rfl (fun h => ?_) (fun h => ?_) | refine c_cond rfl (fun h => ?_) (fun h => ?_) | refine i_f rfl rfl (h4) rfl ?_ | refine i_f rfl rfl (hI) rfl ?_ | refine i_f rfl rfl (hA) rfl ?_ | refine i_f rfl rfl (h2) rfl ?_ | refine i_f rfl rfl (h3) rfl ?_ | refine i_f rfl rfl (hN) rfl ?_ | refine i_f rfl rfl (h5) rfl ?_ | refine i_f rfl rfl (hD) rfl ?_ | refine i_f rfl rfl (f_R1_At _ _) rfl ?_)
          all_goals first
            | exact e_ret ⟨rfl, _, rfl, rfl⟩
            | (exfalso; clear h4 hI hA h2 h3 hN h5 h6 hD hv hss hoo hb ho; simp at *; done)
      | true =>
       rw [hd] at hD
       rw [hd, if_pos rfl] at h3
       cases hi : inclB o.pre s
       all_goals
        rw [hi] at hA h2
        simp only [if_true, if_false, Bool.false_eq_true, reduceIte] at h2
        repeat' (first | refine i_len rfl ?_ | refine i_s rfl ?_ | refine i_lenm rfl rfl rfl ?_ | refine c_seq ?_ | refine c_cut0 ?_ | refine c_ops ?_ | refine i_nil ?_ | refine e_seq ?_ | refine e_block ?_ | refine c_block ?_ | refine c_skip ?_ | refine c_ret ?_ | refine c_exit ?_ | refine e_exit rfl ?_ | refine i_s0 rfl ?_ | refine c_leaf ?_ | refine i_gt rfl ?_ | refine i_gf rfl ?_ | refine i_gd rfl ?_ | refine c_t rfl ?_ | refine c_f rfl ?_ | refine i_conv rfl (by simp only [InR, List.length_map]; omega) ?_ | refine i_add rfl rfl (by simp only [InR, List.length_map]; omega) ?_ | refine i_sub rfl rfl (by simp only [InR, List.length_map]; omega) ?_ | refine i_ixm rfl rfl (by assumption) ?_ | refine i_iai rfl rfl (by omega) (by assumption) rfl ?_ | refine i_iam rfl rfl (by assumption) rfl ?_ | refine i_tk rfl rfl (by omega) ?_ | refine i_stb rfl ?_ | refine i_alloc rfl ?_ | refine i_box rfl rfl ?_ | refine i_nv rfl ?_ | refine c_node ?_ ?_ | refine i_g rfl (fun h => ?_) (fun h => ?_) | refine c_cond rfl (fun h => ?_) (fun h => ?_) | refine i_f rfl rfl (h4) rfl ?_ | refine i_f rfl rfl (hI) rfl ?_ | refine i_f rfl rfl (hA) rfl ?_ | refine i_f rfl rfl (h2) rfl ?_ | refine i_f rfl rfl (h3) rfl ?_ | refine i_f rfl rfl (hN) rfl ?_ | refine i_f rfl rfl (h5) rfl ?_ | refine i_f rfl rfl (hD) rfl ?_ | refine i_f rfl rfl (f_R1_At _ _) rfl ?_)
        all_goals first
          | (exfalso; clear h4 hI hA h2 h3 hN h5 h6 hD hv hss hoo hb ho; simp at h; done)
          | skip
        refine c_for n (fun k => [(1, .sl .p (s.map i64V)), (2, .int .i64 op), (3, .bptr 192196 0), (7, .bptr 192450 0), (15, .sl .p ((updL s o.pre o.add).map i64V)), (16, .bool true), (17, .bptr 193090 0), (18, .sl (.own 193153) ((selK (updAt s o.pre o.add) k).map i64V)), (19, .int .i64 k)])
          (fun k => [(192196, .box (skV t)), (192450, .box (ftV okF)), (193090, .box (ftV okF)), (193153, .vec (selK (updAt s o.pre o.add) k).length)]) (fun _ => True) trivial ⟨by repeat (first | exact trivial | refine ⟨rfl, ?_⟩), by repeat (first | exact trivial | refine ⟨rfl, ?_⟩), rfl⟩ fun k hk _ => ?_
        have hml := selK_len (updAt s o.pre o.add) k
        have e := selK_succ (updAt s o.pre o.add) k
        have e2 : updAt s o.pre o.add k = (decide ((k : Int) ∈ o.pre) || (decide ((k : Int) ∈ s) && !decide ((k : Int) ∈ o.add))) := rfl
        clear h4 hI hA h2 h3 hN h5 hD hv hss hoo hb ho
        repeat (first | refine i_len rfl ?_ | refine i_s rfl ?_ | refine i_lenm rfl rfl rfl ?_ | refine c_seq ?_ | refine c_cut0 ?_ | refine c_ops ?_ | refine i_nil ?_ | refine e_seq ?_ | refine e_block ?_ | refine c_block ?_ | refine c_skip ?_ | refine c_ret ?_ | refine c_exit ?_ | refine e_exit rfl ?_ | refine i_s0 rfl ?_ | refine c_leaf ?_ | refine i_gt rfl ?_ | refine i_gf rfl ?_ | refine i_gd rfl ?_ | refine c_t rfl ?_ | refine c_f rfl ?_ | refine i_conv rfl (by simp only [InR, List.length_map]; omega) ?_ | refine i_add rfl rfl (by simp only [InR, List.length_map]; omega) ?_ | refine i_sub rfl rfl (by simp only [InR, List.length_map]; omega) ?_ | refine i_ixm rfl rfl (by assumption) ?_ | refine i_iai rfl rfl (by omega) (by assumption) rfl ?_ | refine i_iam rfl rfl (by assumption) rfl ?_ | refine i_tk rfl rfl (by omega) ?_ | refine i_stb rfl ?_ | refine i_alloc rfl ?_ | refine i_box rfl rfl ?_ | refine i_nv rfl ?_)
        refine c_cond rfl (fun h => ?_) (fun h => ?_)
        · have hlt : k < n := by have : (k : Int) < t.facts := by simpa using h
                                 omega
          have gA := f_R1_Has o.pre k (by omega)
          have gS := f_R1_Has s k (by omega)
          have gD := f_R1_Has o.add k (by omega)
          clear h h6
          cases b1 : decide ((k : Int) ∈ o.pre) <;> cases b2 : decide ((k : Int) ∈ s) <;> cases b3 : decide ((k : Int) ∈ o.add)
          all_goals
            rw [b1] at gA
            rw [b2] at gS
            rw [b3] at gD
            rw [b1, b2, b3] at e2
            rw [e2] at e
            clear e2 b1 b2 b3
            repeat (first | refine i_len rfl ?_ | refine i_s rfl ?_ | refine i_lenm rfl rfl rfl ?_ | refine c_seq ?_ | refine c_cut0 ?_ | refine c_ops ?_ | refine i_nil ?_ | refine e_seq ?_ | refine e_block ?_ | refine c_block ?_ | refine c_skip ?_ | refine c_ret ?_ | refine c_exit ?_ | refine e_exit rfl ?_ | refine i_s0 rfl ?_ | refine c_leaf ?_ | refine i_gt rfl ?_ | refine i_gf rfl ?_ | refine i_gd rfl ?_ | refine c_t rfl ?_ | refine c_f rfl ?_ | refine i_conv rfl (by simp only [InR, List.length_map]; omega) ?_ | refine i_add rfl rfl (by simp only [InR, List.length_map]; omega) ?_ | refine i_sub rfl rfl (by simp only [InR, List.length_map]; omega) ?_ | refine i_ixm rfl rfl (by assumption) ?_ | refine i_iai rfl rfl (by omega) (by assumption) rfl ?_ | refine i_iam rfl rfl (by assumption) rfl ?_ | refine i_tk rfl rfl (by omega) ?_ | refine i_stb rfl ?_ | refine i_alloc rfl ?_ | refine i_box rfl rfl ?_ | refine i_nv rfl ?_ | refine i_f rfl rfl (gA) rfl ?_ | refine i_f rfl rfl (gS) rfl ?_ | refine i_f rfl rfl (gD) rfl ?_)
            first
              | (refine i_appM rfl rfl rfl rfl rfl (by omega) (by omega) ?_
                 repeat (first | refine i_len rfl ?_ | refine i_s rfl ?_ | refine i_lenm rfl rfl rfl ?_ | refine c_seq ?_ | refine c_cut0 ?_ | refine c_ops ?_ | refine i_nil ?_ | refine e_seq ?_ | refine e_block ?_ | refine c_block ?_ | refine c_skip ?_ | refine c_ret ?_ | refine c_exit ?_ | refine e_exit rfl ?_ | refine i_s0 rfl ?_ | refine c_leaf ?_ | refine i_gt rfl ?_ | refine i_gf rfl ?_ | refine i_gd rfl ?_ | refine c_t rfl ?_ | refine c_f rfl ?_ | refine i_conv rfl (by simp only [InR, List.length_map]; omega) ?_ | refine i_add rfl rfl (by simp only [InR, List.length_map]; omega) ?_ | refine i_sub rfl rfl (by simp only [InR, List.length_map]; omega) ?_ | refine i_ixm rfl rfl (by assumption) ?_ | refine i_iai rfl rfl (by omega) (by assumption) rfl ?_ | refine i_iam rfl rfl (by assumption) rfl ?_ | refine i_tk rfl rfl (by omega) ?_ | refine i_stb rfl ?_ | refine i_alloc rfl ?_ | refine i_box rfl rfl ?_ | refine i_nv rfl ?_)
                 refine e_for hlt trivial ⟨⟨rfl, rfl, rfl, rfl, rfl, rfl, rfl, ?_, rfl, trivial⟩, ⟨rfl, rfl, rfl, ?_, trivial⟩, rfl⟩
                 · rw [e]; rfl
                 · rw [e]; simp; rfl)
              | (refine e_for hlt trivial ⟨⟨rfl, rfl, rfl, rfl, rfl, rfl, rfl, ?_, rfl, trivial⟩, ⟨rfl, rfl, rfl, ?_, trivial⟩, rfl⟩
                 · rw [e]; simp; rfl
                 · rw [e]; simp; rfl)
        · have hge : k = n := by have : ¬ (k : Int) < t.facts := by simpa using h
                                 omega
          subst hge
          rw [← eu]
          clear e e2 hml
          repeat' (first | refine i_len rfl ?_ | refine i_s rfl ?_ | refine i_lenm rfl rfl rfl ?_ | refine c_seq ?_ | refine c_cut0 ?_ | refine c_ops ?_ | refine i_nil ?_ | refine e_seq ?_ | refine e_block ?_ | refine c_block ?_ | refine c_skip ?_ | refine c_ret ?_ | refine c_exit ?_ | refine e_exit rfl ?_ | refine i_s0 rfl ?_ | refine c_leaf ?_ | refine i_gt rfl ?_ | refine i_gf rfl ?_ | refine i_gd rfl ?_ | refine c_t rfl ?_ | refine c_f rfl ?_ | refine i_conv rfl (by simp only [InR, List.length_map]; omega) ?_ | refine i_add rfl rfl (by simp only [InR, List.length_map]; omega) ?_ | refine i_sub rfl rfl (by simp only [InR, List.length_map]; omega) ?_ | refine i_ixm rfl rfl (by assumption) ?_ | refine i_iai rfl rfl (by omega) (by assumption) rfl ?_ | refine i_iam rfl rfl (by assumption) rfl ?_ | refine i_tk rfl rfl (by omega) ?_ | refine i_stb rfl ?_ | refine i_alloc rfl ?_ | refine i_box rfl rfl ?_ | refine i_nv rfl ?_ | refine c_node ?_ ?_ | refine i_g rfl (fun h => ?_) (fun h => ?_) | refine c_cond rfl (fun h => ?_) (fun h => ?_) | refine i_f rfl rfl (h6) rfl ?_)
          exact e_ret ⟨rfl, _, rfl, rfl⟩
    · have hI := in_false hr
      have h2 := f_strips_Apply_rng t ho s (by omega) op hb hr
      have h3 := f_strips_Regress_rng t ho s (by omega) op hb hr
      repeat' (first | refine i_len rfl ?_ | refine i_s rfl ?_ | refine i_lenm rfl rfl rfl ?_ | refine c_seq ?_ | refine c_cut0 ?_ | refine c_ops ?_ | refine i_nil ?_ | refine e_seq ?_ | refine e_block ?_ | refine c_block ?_ | refine c_skip ?_ | refine c_ret ?_ | refine c_exit ?_ | refine e_exit rfl ?_ | refine i_s0 rfl ?_ | refine c_leaf ?_ | refine i_gt rfl ?_ | refine i_gf rfl ?_ | refine i_gd rfl ?_ | refine c_t rfl ?_ | refine c_f rfl ?_ | refine i_conv rfl (by simp only [InR, List.length_map]; omega) ?_ | refine i_add rfl rfl (by simp only [InR, List.length_map]; omega) ?_ | refine i_sub rfl rfl (by simp only [InR, List.length_map]; omega) ?_ | refine i_ixm rfl rfl (by assumption) ?_ | refine i_iai rfl rfl (by omega) (by assumption) rfl ?_ | refine i_iam rfl rfl (by assumption) rfl ?_ | refine i_tk rfl rfl (by omega) ?_ | refine i_stb rfl ?_ | refine i_alloc rfl ?_ | refine i_box rfl rfl ?_ | refine i_nv rfl ?_ | refine c_node ?_ ?_ | refine i_g rfl (fun h => ?_) (fun h => ?_) | refine c_cond rfl (fun h => ?_) (fun h => ?_) | refine i_f rfl rfl (h4) rfl ?_ | refine i_f rfl rfl (hI) rfl ?_ | refine i_f rfl rfl (h2) rfl ?_ | refine i_f rfl rfl (h3) rfl ?_ | refine i_f rfl rfl (f_R1_At _ _) rfl ?_)
      exact e_ret ⟨rfl, _, rfl, rfl⟩
theorem f_L1_StripsMatchesSpec (t : STask) (ho : SkOk t) (s : List Int) (hs : s.length ≤ 140737488355328) (op : Int) : Fc Go.Proofs.Try.prog 3 [skV t, .sl .p (s.map i64V), .int .i64 op] (.bool true) := by
  by_cases hb : stFault t s = okF
  · exact f_L1_StripsMatchesSpec_ok t ho s op hb
  · exact f_L1_StripsMatchesSpec_bad t ho s hs op hb
end Hm
end
