/- Contracts: reading; equal expressions. -/
import Derived.Test.YthlagieajgmefaaXD
section
/- Contracts: reading; equal expressions. -/
namespace Hm
open Go
set_option maxRecDepth 100000
set_option maxHeartbeats 4000000
set_option linter.unusedSimpArgs false
set_option linter.unusedVariables false
def rdQ (t : List UInt8) : PR := prs (2 * t.length + 1) true 0 t 0 []
def readF (t : List UInt8) : Flt := if t.length > 4096 then ⟨2, -1⟩ else if (rdQ t).code ≠ 0 then ⟨(rdQ t).code, (t.length : Int) - (rdQ t).rest.length⟩ else if sk (rdQ t).rest ≠ [] then ⟨1, (t.length : Int) - (sk (rdQ t).rest).length⟩
  else if (rdQ t).new.length > 300 then ⟨10, -1⟩ else okF
def readL (t : List UInt8) : List Sx := if readF t = okF then (rdQ t).new else []
theorem readF_code (t : List UInt8) : (readF t).code = 0 ↔ readF t = okF := by
  refine ⟨fun h => ?_, fun h => by rw [h]; rfl⟩
  unfold readF at h ⊢
  split at h
  · cases h
  · rename_i h1
    rw [if_neg h1]
    split at h
    · rename_i h2; exact absurd h h2
    · rename_i h2
      rw [if_neg h2]
      split at h
      · cases h
      · rename_i h3
        rw [if_neg h3]
        split at h
        · cases h
        · rename_i h4
          rw [if_neg h4]
theorem read_ok {t : List UInt8} (h : readF t = okF) : t.length ≤ 4096 ∧ (rdQ t).code = 0 ∧ sk (rdQ t).rest = [] ∧ (rdQ t).new.length ≤ 300 := by
  unfold readF at h
  split at h
  · cases h
  · split at h
    · rename_i h2
      injection h with h3 _
      exact absurd h3 h2
    · split at h
      · cases h
      · split at h
        · cases h
        · rename_i h1 h2 h3 h4
          exact ⟨by omega, by simpa using h2, by simpa using h3, by omega⟩
def c_sexpr_Read : Cmd :=
  (.seq
   (.ops [
   .op (some 2) none (.mov (.c (.sl .nil []))),
   .op (some 3) none (.alloc 832194 (.agg [.int .i64 (0), .int .i64 (0)]))])
   (.cut
   (.seq
   (.seq
   (.ops [
   .op (some 7) none (.mov (.t 0)),
   .op (some 8) none (.len true (.t 7)),
   .op (some 9) none (.bin .gtr false [] (.t 8) (.c (.int .i64 (4096))))])
   (.cut
   (.cond (.t 9)
   (.seq
   (.ops [
   .op (some 10) none (.build [.int .i64 (0), .int .i64 (0)] [(0, 1, .c (.int .i64 (2))), (1, 1, .c (.int .i64 (-1)))]),
   .op (some 2) none (.mov (.c (.sl .nil []))),
   .op none none (.store 2 (.t 3) (.t 10))])
   .ret)
   .skip)))
   (.cut
   (.seq
   (.ops [
   .op (some 11) none (.mov (.t 0)),
   .op (some 12) none (.build [.str [], .int .i64 (0), .sl .nil []] [(0, 1, .t 11)]),
   .op (some 4) none (.alloc 832259 (.agg [.str [], .int .i64 (0), .sl .nil []])),
   .op none none (.store 3 (.t 4) (.t 12))])
   (.nvb 4 2 834690 (.cut
   (.seq
   (.ops [
   .op (some 14) none (.call (.s [832259,834690]) (.c (.fn 27 [])) [.t 4, .c (.int .i64 (0))]),
   .op (some 13) none (.mov (.t 14)),
   .op (some 15) none (.extract (.t 13) 0),
   .op (some 16) none (.extract (.t 13) 1),
   .op (some 5) none (.mov (.t 15)),
   .op (some 6) none (.mov (.t 16))])
   (.cut
   (.seq
   (.seq
   (.ops [
   .op (some 17) none (.mov (.t 6)),
   .op (some 18) none (.bin .eql false [.i] (.t 17) (.c (.int .i64 (0))))])
   (.cut
   (.cond (.t 18)
   (.seq
   (.ops [
   .op (some 19) none (.call (.s [832259,834690]) (.c (.fn 28 [])) [.t 4])])
   (.cut
   (.seq
   (.ops [
   .op (some 20) none (.faddr 1 (.t 4)),
   .op (some 21) none (.load false 1 (.t 20)),
   .op (some 22) none (.mov (.t 0)),
   .op (some 23) none (.len true (.t 22)),
   .op (some 24) none (.bin .lss false [] (.t 21) (.t 23))])
   (.cut
   (.cond (.t 24)
   (.ops [
   .op (some 6) none (.mov (.c (.int .i64 (1))))])
   .skip)))))
   .skip)))
   (.cut
   (.seq
   (.block 0
   (.seq
   (.ops [
   .op (some 26) none (.mov (.t 6)),
   .op (some 27) none (.bin .neq false [.i] (.t 26) (.c (.int .i64 (0)))),
   .op (some 25) none (.mov (.t 27))])
   (.cut
   (.cond (.t 25)
   (.seq
   (.ops [
   .op (some 28) none (.mov (.t 6)),
   .op (some 29) none (.faddr 1 (.t 4)),
   .op (some 30) none (.load false 1 (.t 29)),
   .op (some 31) none (.build [.int .i64 (0), .int .i64 (0)] [(0, 1, .t 28), (1, 1, .t 30)]),
   .op (some 2) none (.mov (.c (.sl .nil []))),
   .op none none (.store 2 (.t 3) (.t 31))])
   .ret)
   (.seq
   (.ops [
   .op (some 33) none (.faddr 2 (.t 4)),
   .op (some 34) none (.load false 1 (.t 33)),
   .op (some 35) none (.len false (.t 34)),
   .op (some 36) none (.bin .gtr false [] (.t 35) (.c (.int .i64 (300)))),
   .op (some 32) none (.mov (.t 36))])
   (.cut
   (.cond (.t 32)
   (.seq
   (.ops [
   .op (some 37) none (.build [.int .i64 (0), .int .i64 (0)] [(0, 1, .c (.int .i64 (10))), (1, 1, .c (.int .i64 (-1)))]),
   .op (some 2) none (.mov (.c (.sl .nil []))),
   .op none none (.store 2 (.t 3) (.t 37))])
   .ret)
   .skip)))))))
   (.cut
   (.seq
   (.ops [
   .op (some 38) none (.faddr 2 (.t 4)),
   .op (some 39) none (.load false 1 (.t 38)),
   .op (some 40) none (.build [.int .i64 (0), .int .i64 (0)] []),
   .op (some 2) none (.mov (.t 39)),
   .op none none (.store 2 (.t 3) (.t 40))])
   .ret))))))))))))))
def r_sexpr_Read : List RVar := [.tmp 2, .cell true 2 3]
def n_sexpr_Read : Nat := 41
theorem k_sexpr_Read : chkFn Go.Proofs.Try.prog 13 n_sexpr_Read r_sexpr_Read c_sexpr_Read = true := by kernel_rfl
theorem f_sexpr_Read (t : List UInt8) (hl : t.length ≤ 4611686018427387904) : Fc Go.Proofs.Try.prog 13 [.str t] (.tup [.sl .p ((readL t).map sxV), ftV (readF t)]) := by
  by_cases h1 : t.length > 4096
  · have e : readF t = ⟨2, -1⟩ := by unfold readF; rw [if_pos h1]
    have e2 : readL t = [] := by unfold readL; rw [e, if_neg (by simp [okF])]
    rw [e, e2]
    refine Fn.step mixed k_sexpr_Read ?_
    repeat' (first | refine i_len rfl ?_ | refine i_s rfl ?_ | refine i_lenm rfl rfl rfl ?_ | refine c_seq ?_ | refine c_cut0 ?_ | refine c_ops ?_ | refine i_nil ?_ | refine e_seq ?_ | refine e_block ?_ | refine c_block ?_ | refine c_skip ?_ | refine c_ret ?_ | refine c_exit ?_ | refine e_exit rfl ?_ | refine i_s0 rfl ?_ | refine c_leaf ?_ | refine i_gt rfl ?_ | refine i_gf rfl ?_ | refine i_gd rfl ?_ | refine c_t rfl ?_ | refine c_f rfl ?_ | refine i_conv rfl (by simp only [InR, List.length_map]; omega) ?_ | refine i_add rfl rfl (by simp only [InR, List.length_map]; omega) ?_ | refine i_sub rfl rfl (by simp only [InR, List.length_map]; omega) ?_ | refine i_ixm rfl rfl (by assumption) ?_ | refine i_iai rfl rfl (by omega) (by assumption) rfl ?_ | refine i_iam rfl rfl (by assumption) rfl ?_ | refine i_tk rfl rfl (by omega) ?_ | refine i_stb rfl ?_ | refine i_alloc rfl ?_ | refine i_box rfl rfl ?_ | refine i_nv rfl ?_ | refine c_node ?_ ?_ | refine i_g rfl (fun h => ?_) (fun h => ?_) | refine c_cond rfl (fun h => ?_) (fun h => ?_))
    all_goals first
      | exact e_ret ⟨rfl, _, rfl, rfl⟩
      | (exfalso; have := of_decide_eq_false h; omega)
  have hN := (ct_all (G := Unit) (H := noH) t (by omega) (2 * t.length + 1)).1 0 t [] (by omega) (List.suffix_refl t) (by simp; omega) (Nat.le_refl _)
  have hfa := prs_facts (2 * t.length + 1) true 0 t 0 []
  have hrf : readF t = if (rdQ t).code ≠ 0 then ⟨(rdQ t).code, (t.length : Int) - (rdQ t).rest.length⟩ else if sk (rdQ t).rest ≠ [] then ⟨1, (t.length : Int) - (sk (rdQ t).rest).length⟩ else if (rdQ t).new.length > 300 then ⟨10, -1⟩ else okF := by
    conv => lhs; unfold readF
    rw [if_neg h1]
  have hrl : readL t = if readF t = okF then (rdQ t).new else [] := rfl
  generalize readL t = RL at *
  generalize readF t = RF at *
  unfold rdQ at hrf hrl
  rw [show ([] : List Sx).length = 0 from rfl] at hN
  generalize prs (2 * t.length + 1) true 0 t 0 [] = q at *
  obtain ⟨f1, f2, f3, f4⟩ := hfa
  refine Fn.step mixed k_sexpr_Read ?_
  repeat' (first | refine i_len rfl ?_ | refine i_s rfl ?_ | refine i_lenm rfl rfl rfl ?_ | refine c_seq ?_ | refine c_cut0 ?_ | refine c_ops ?_ | refine i_nil ?_ | refine e_seq ?_ | refine e_block ?_ | refine c_block ?_ | refine c_skip ?_ | refine c_ret ?_ | refine c_exit ?_ | refine e_exit rfl ?_ | refine i_s0 rfl ?_ | refine c_leaf ?_ | refine i_gt rfl ?_ | refine i_gf rfl ?_ | refine i_gd rfl ?_ | refine c_t rfl ?_ | refine c_f rfl ?_ | refine i_conv rfl (by simp only [InR, List.length_map]; omega) ?_ | refine i_add rfl rfl (by simp only [InR, List.length_map]; omega) ?_ | refine i_sub rfl rfl (by simp only [InR, List.length_map]; omega) ?_ | refine i_ixm rfl rfl (by assumption) ?_ | refine i_iai rfl rfl (by omega) (by assumption) rfl ?_ | refine i_iam rfl rfl (by assumption) rfl ?_ | refine i_tk rfl rfl (by omega) ?_ | refine i_stb rfl ?_ | refine i_alloc rfl ?_ | refine i_box rfl rfl ?_ | refine i_nv rfl ?_ | refine c_node ?_ ?_ | refine i_g rfl (fun h => ?_) (fun h => ?_) | refine c_cond rfl (fun h => ?_) (fun h => ?_))
  all_goals first
    | (exfalso; have := of_decide_eq_true h; omega)
    | skip
  refine c_nvb rfl rfl rfl rfl ?_
  repeat (first | refine i_len rfl ?_ | refine i_s rfl ?_ | refine i_lenm rfl rfl rfl ?_ | refine c_seq ?_ | refine c_cut0 ?_ | refine c_ops ?_ | refine i_nil ?_ | refine e_seq ?_ | refine e_block ?_ | refine c_block ?_ | refine c_skip ?_ | refine c_ret ?_ | refine c_exit ?_ | refine e_exit rfl ?_ | refine i_s0 rfl ?_ | refine c_leaf ?_ | refine i_gt rfl ?_ | refine i_gf rfl ?_ | refine i_gd rfl ?_ | refine c_t rfl ?_ | refine c_f rfl ?_ | refine i_conv rfl (by simp only [InR, List.length_map]; omega) ?_ | refine i_add rfl rfl (by simp only [InR, List.length_map]; omega) ?_ | refine i_sub rfl rfl (by simp only [InR, List.length_map]; omega) ?_ | refine i_ixm rfl rfl (by assumption) ?_ | refine i_iai rfl rfl (by omega) (by assumption) rfl ?_ | refine i_iam rfl rfl (by assumption) rfl ?_ | refine i_tk rfl rfl (by omega) ?_ | refine i_stb rfl ?_ | refine i_alloc rfl ?_ | refine i_box rfl rfl ?_ | refine i_nv rfl ?_)
  refine i_c rfl rfl rfl (hN _ (rd_eq (by rw [Int.sub_self]; rfl) rfl fun nm h => restr_mem nm h) ()) ?_
  rintro _ _ g ⟨rfl, rfl, rfl⟩
  by_cases hz : q.code = 0
  · rw [if_neg (by simp [hz])] at hrf
    unfold ndR
    rw [if_pos hz, hz]
    rw [List.nil_append]
    have hsl := (sk_suf q.rest).length_le
    have hrl1 := f1.length_le
    repeat (first | refine i_len rfl ?_ | refine i_s rfl ?_ | refine i_lenm rfl rfl rfl ?_ | refine c_seq ?_ | refine c_cut0 ?_ | refine c_ops ?_ | refine i_nil ?_ | refine e_seq ?_ | refine e_block ?_ | refine c_block ?_ | refine c_skip ?_ | refine c_ret ?_ | refine c_exit ?_ | refine e_exit rfl ?_ | refine i_s0 rfl ?_ | refine c_leaf ?_ | refine i_gt rfl ?_ | refine i_gf rfl ?_ | refine i_gd rfl ?_ | refine c_t rfl ?_ | refine c_f rfl ?_ | refine i_conv rfl (by simp only [InR, List.length_map]; omega) ?_ | refine i_add rfl rfl (by simp only [InR, List.length_map]; omega) ?_ | refine i_sub rfl rfl (by simp only [InR, List.length_map]; omega) ?_ | refine i_ixm rfl rfl (by assumption) ?_ | refine i_iai rfl rfl (by omega) (by assumption) rfl ?_ | refine i_iam rfl rfl (by assumption) rfl ?_ | refine i_tk rfl rfl (by omega) ?_ | refine i_stb rfl ?_ | refine i_alloc rfl ?_ | refine i_box rfl rfl ?_ | refine i_nv rfl ?_)
    refine i_c rfl rfl rfl (ct_blanks t q.rest q.new (by omega) f1 _ (rd_eq rfl rfl fun nm h => restr_mem nm h) _) ?_
    rintro _ _ g ⟨rfl, rfl, rfl⟩
    refine i_nil ?_
    refine e_seq ?_
    refine c_cut [(0, .str t), (4, .bptr 832259 0), (6, .int .i64 0), (3, .bptr 832194 0)] ((832194, .box (.agg [.int .i64 0, .int .i64 0])) :: rdS t (sk q.rest) q.new) ⟨by repeat (first | exact trivial | refine ⟨rfl, ?_⟩), by repeat (first | exact trivial | refine ⟨rfl, ?_⟩), rfl⟩ ?_
    by_cases hk : sk q.rest = []
    · rw [if_neg (by simp [hk])] at hrf
      rw [hk]
      by_cases h3 : q.new.length > 300
      · rw [if_pos h3] at hrf
        rw [if_neg (by rw [hrf]; simp [okF])] at hrl
        rw [hrl, hrf]
        repeat' (first | refine i_len rfl ?_ | refine i_s rfl ?_ | refine i_lenm rfl rfl rfl ?_ | refine c_seq ?_ | refine c_cut0 ?_ | refine c_ops ?_ | refine i_nil ?_ | refine e_seq ?_ | refine e_block ?_ | refine c_block ?_ | refine c_skip ?_ | refine c_ret ?_ | refine c_exit ?_ | refine e_exit rfl ?_ | refine i_s0 rfl ?_ | refine c_leaf ?_ | refine i_gt rfl ?_ | refine i_gf rfl ?_ | refine i_gd rfl ?_ | refine c_t rfl ?_ | refine c_f rfl ?_ | refine i_conv rfl (by simp only [InR, List.length_map]; omega) ?_ | refine i_add rfl rfl (by simp only [InR, List.length_map]; omega) ?_ | refine i_sub rfl rfl (by simp only [InR, List.length_map]; omega) ?_ | refine i_ixm rfl rfl (by assumption) ?_ | refine i_iai rfl rfl (by omega) (by assumption) rfl ?_ | refine i_iam rfl rfl (by assumption) rfl ?_ | refine i_tk rfl rfl (by omega) ?_ | refine i_stb rfl ?_ | refine i_alloc rfl ?_ | refine i_box rfl rfl ?_ | refine i_nv rfl ?_ | refine c_node ?_ ?_ | refine i_g rfl (fun h => ?_) (fun h => ?_) | refine c_cond rfl (fun h => ?_) (fun h => ?_))
        all_goals first
          | exact e_ret ⟨rfl, _, rfl, rfl⟩
          | (exfalso; have := of_decide_eq_true h; simp at this; done)
          | (exfalso; have := of_decide_eq_false h; omega)
          | (exfalso; clear hN; simp_all; done)
      · rw [if_neg h3] at hrf
        rw [if_pos hrf] at hrl
        rw [hrl, hrf]
        repeat' (first | refine i_len rfl ?_ | refine i_s rfl ?_ | refine i_lenm rfl rfl rfl ?_ | refine c_seq ?_ | refine c_cut0 ?_ | refine c_ops ?_ | refine i_nil ?_ | refine e_seq ?_ | refine e_block ?_ | refine c_block ?_ | refine c_skip ?_ | refine c_ret ?_ | refine c_exit ?_ | refine e_exit rfl ?_ | refine i_s0 rfl ?_ | refine c_leaf ?_ | refine i_gt rfl ?_ | refine i_gf rfl ?_ | refine i_gd rfl ?_ | refine c_t rfl ?_ | refine c_f rfl ?_ | refine i_conv rfl (by simp only [InR, List.length_map]; omega) ?_ | refine i_add rfl rfl (by simp only [InR, List.length_map]; omega) ?_ | refine i_sub rfl rfl (by simp only [InR, List.length_map]; omega) ?_ | refine i_ixm rfl rfl (by assumption) ?_ | refine i_iai rfl rfl (by omega) (by assumption) rfl ?_ | refine i_iam rfl rfl (by assumption) rfl ?_ | refine i_tk rfl rfl (by omega) ?_ | refine i_stb rfl ?_ | refine i_alloc rfl ?_ | refine i_box rfl rfl ?_ | refine i_nv rfl ?_ | refine c_node ?_ ?_ | refine i_g rfl (fun h => ?_) (fun h => ?_) | refine c_cond rfl (fun h => ?_) (fun h => ?_))
        all_goals first
          | exact e_ret ⟨rfl, _, rfl, rfl⟩
          | (exfalso; have := of_decide_eq_true h; simp at this; done)
          | (exfalso; have := of_decide_eq_true h; omega)
          | (exfalso; clear hN; simp_all; done)
    · rw [if_pos hk] at hrf
      rw [if_neg (by rw [hrf]; simp [okF])] at hrl
      rw [hrl, hrf]
      have hpos := List.length_pos_iff.2 hk
      repeat' (first | refine i_len rfl ?_ | refine i_s rfl ?_ | refine i_lenm rfl rfl rfl ?_ | refine c_seq ?_ | refine c_cut0 ?_ | refine c_ops ?_ | refine i_nil ?_ | refine e_seq ?_ | refine e_block ?_ | refine c_block ?_ | refine c_skip ?_ | refine c_ret ?_ | refine c_exit ?_ | refine e_exit rfl ?_ | refine i_s0 rfl ?_ | refine c_leaf ?_ | refine i_gt rfl ?_ | refine i_gf rfl ?_ | refine i_gd rfl ?_ | refine c_t rfl ?_ | refine c_f rfl ?_ | refine i_conv rfl (by simp only [InR, List.length_map]; omega) ?_ | refine i_add rfl rfl (by simp only [InR, List.length_map]; omega) ?_ | refine i_sub rfl rfl (by simp only [InR, List.length_map]; omega) ?_ | refine i_ixm rfl rfl (by assumption) ?_ | refine i_iai rfl rfl (by omega) (by assumption) rfl ?_ | refine i_iam rfl rfl (by assumption) rfl ?_ | refine i_tk rfl rfl (by omega) ?_ | refine i_stb rfl ?_ | refine i_alloc rfl ?_ | refine i_box rfl rfl ?_ | refine i_nv rfl ?_ | refine c_node ?_ ?_ | refine i_g rfl (fun h => ?_) (fun h => ?_) | refine c_cond rfl (fun h => ?_) (fun h => ?_))
      all_goals first
        | exact e_ret ⟨rfl, _, rfl, rfl⟩
        | (exfalso; have := of_decide_eq_false h; omega)
        | (exfalso; clear hN; simp_all; omega)
  · rw [if_pos hz] at hrf
    have hne : RF ≠ okF := fun e => by rw [hrf] at e; injection e with e _; exact hz e
    rw [if_neg hne] at hrl
    rw [hrl, hrf]
    unfold ndR
    rw [if_neg hz]
    rw [List.nil_append]
    repeat' (first | refine i_len rfl ?_ | refine i_s rfl ?_ | refine i_lenm rfl rfl rfl ?_ | refine c_seq ?_ | refine c_cut0 ?_ | refine c_ops ?_ | refine i_nil ?_ | refine e_seq ?_ | refine e_block ?_ | refine c_block ?_ | refine c_skip ?_ | refine c_ret ?_ | refine c_exit ?_ | refine e_exit rfl ?_ | refine i_s0 rfl ?_ | refine c_leaf ?_ | refine i_gt rfl ?_ | refine i_gf rfl ?_ | refine i_gd rfl ?_ | refine c_t rfl ?_ | refine c_f rfl ?_ | refine i_conv rfl (by simp only [InR, List.length_map]; omega) ?_ | refine i_add rfl rfl (by simp only [InR, List.length_map]; omega) ?_ | refine i_sub rfl rfl (by simp only [InR, List.length_map]; omega) ?_ | refine i_ixm rfl rfl (by assumption) ?_ | refine i_iai rfl rfl (by omega) (by assumption) rfl ?_ | refine i_iam rfl rfl (by assumption) rfl ?_ | refine i_tk rfl rfl (by omega) ?_ | refine i_stb rfl ?_ | refine i_alloc rfl ?_ | refine i_box rfl rfl ?_ | refine i_nv rfl ?_ | refine c_node ?_ ?_ | refine i_g rfl (fun h => ?_) (fun h => ?_) | refine c_cond rfl (fun h => ?_) (fun h => ?_))
    all_goals first
      | (exfalso; exact hz (by simpa using h))
      | exact e_ret ⟨rfl, _, rfl, rfl⟩
      | (exfalso; clear hN hrf hrl; simp_all; done)
instance : DecidableEq Sx := fun a b => if h : a.sym = b.sym ∧ a.ch = b.ch then isTrue (by cases a; cases b; simp only at h; rw [h.1, h.2]) else isFalse (by rintro rfl; exact h ⟨rfl, rfl⟩)
def c_R1_SameSexpr : Cmd :=
  (.seq
   (.ops [
   .op (some 4) none (.mov (.c (.bool false)))])
   (.cut
   (.seq
   (.seq
   (.ops [
   .op (some 6) none (.mov (.t 0)),
   .op (some 7) none (.len false (.t 6)),
   .op (some 8) none (.mov (.t 1)),
   .op (some 9) none (.len false (.t 8)),
   .op (some 10) none (.bin .neq false [.i] (.t 7) (.t 9))])
   (.cut
   (.cond (.t 10)
   (.seq
   (.ops [
   .op (some 4) none (.mov (.c (.bool false)))])
   .ret)
   .skip)))
   (.cut
   (.seq
   (.seq
   (.ops [
   .op (some 5) none (.mov (.c (.int .i64 (0))))])
   (.cut
   (.block 0
   (.loop
   (.seq
   (.seq
   (.ops [
   .op (some 11) none (.mov (.t 5)),
   .op (some 12) none (.mov (.t 0)),
   .op (some 13) none (.len false (.t 12)),
   .op (some 14) none (.bin .lss false [] (.t 11) (.t 13))])
   (.cut
   (.cond (.t 14)
   .skip
   (.exit 0))))
   (.cut
   (.seq
   (.block 1
   (.seq
   (.ops [
   .op (some 17) none (.mov (.t 0)),
   .op (some 18) none (.mov (.t 5)),
   .op (some 19) none (.iaddr 2 (.t 17) (.t 18)),
   .op (some 20) none (.faddr 0 (.t 19)),
   .op (some 21) none (.load false 1 (.t 20)),
   .op (some 22) none (.mov (.t 1)),
   .op (some 23) none (.mov (.t 5)),
   .op (some 24) none (.iaddr 2 (.t 22) (.t 23)),
   .op (some 25) none (.faddr 0 (.t 24)),
   .op (some 26) none (.load false 1 (.t 25)),
   .op (some 27) none (.bin .neq false [.s] (.t 21) (.t 26)),
   .op (some 28) none (.mov (.t 27)),
   .op (some 29) (some (28, false)) (.mov (.t 0)),
   .op (some 30) (some (28, false)) (.mov (.t 5)),
   .op (some 31) (some (28, false)) (.iaddr 2 (.t 29) (.t 30)),
   .op (some 32) (some (28, false)) (.faddr 1 (.t 31)),
   .op (some 33) (some (28, false)) (.load false 1 (.t 32)),
   .op (some 34) (some (28, false)) (.mov (.t 1)),
   .op (some 35) (some (28, false)) (.mov (.t 5)),
   .op (some 36) (some (28, false)) (.iaddr 2 (.t 34) (.t 35)),
   .op (some 37) (some (28, false)) (.faddr 1 (.t 36)),
   .op (some 38) (some (28, false)) (.load false 1 (.t 37)),
   .op (some 39) (some (28, false)) (.call .f (.c (.fn 16 [])) [.t 33, .t 38]),
   .op (some 40) (some (28, false)) (.not (.t 39)),
   .op (some 41) none (.pick (.t 28) (.c (.bool true)) (.t 40))])
   (.cut
   (.cond (.t 41)
   (.seq
   (.ops [
   .op (some 4) none (.mov (.c (.bool false)))])
   .ret)
   .skip))))
   (.cut
   (.ops [
   .op (some 15) none (.mov (.t 5)),
   .op (some 16) none (.bin .add false [] (.t 15) (.c (.int .i64 (1)))),
   .op (some 5) none (.mov (.t 16))])))))))))
   (.cut
   (.seq
   (.ops [
   .op (some 4) none (.mov (.c (.bool true)))])
   .ret)))))))
def r_R1_SameSexpr : List RVar := [.tmp 4]
def n_R1_SameSexpr : Nat := 42
theorem k_R1_SameSexpr : chkFn Go.Proofs.Try.prog 15 n_R1_SameSexpr r_R1_SameSexpr c_R1_SameSexpr = true := by kernel_rfl
theorem f_R1_SameSexpr (a b : List Sx) (ha : SxsOk a) : Fc Go.Proofs.Try.prog 15 [.sl .p (a.map sxV), .sl .p (b.map sxV)] (.bool (decide (a = b))) := by
  have hal := ha.len
  by_cases hl : a.length = b.length
  · refine Fn.step mixed k_R1_SameSexpr ?_
    repeat' (first | refine i_len rfl ?_ | refine i_s rfl ?_ | refine i_lenm rfl rfl rfl ?_ | refine c_seq ?_ | refine c_cut0 ?_ | refine c_ops ?_ | refine i_nil ?_ | refine e_seq ?_ | refine e_block ?_ | refine c_block ?_ | refine c_skip ?_ | refine c_ret ?_ | refine c_exit ?_ | refine e_exit rfl ?_ | refine i_s0 rfl ?_ | refine c_leaf ?_ | refine i_gt rfl ?_ | refine i_gf rfl ?_ | refine i_gd rfl ?_ | refine c_t rfl ?_ | refine c_f rfl ?_ | refine i_conv rfl (by simp only [InR, List.length_map]; omega) ?_ | refine i_add rfl rfl (by simp only [InR, List.length_map]; omega) ?_ | refine i_sub rfl rfl (by simp only [InR, List.length_map]; omega) ?_ | refine i_ixm rfl rfl (by assumption) ?_ | refine i_iai rfl rfl (by omega) (by assumption) rfl ?_ | refine i_iam rfl rfl (by assumption) rfl ?_ | refine i_tk rfl rfl (by omega) ?_ | refine i_stb rfl ?_ | refine i_alloc rfl ?_ | refine i_box rfl rfl ?_ | refine i_nv rfl ?_ | refine c_node ?_ ?_ | refine i_g rfl (fun h => ?_) (fun h => ?_) | refine c_cond rfl (fun h => ?_) (fun h => ?_))
    all_goals first
      | (exfalso; have h9 : ¬ (a.length : Int) = b.length := (by simpa using h); omega)
      | skip
    refine c_for a.length (fun k => [(0, .sl .p (a.map sxV)), (1, .sl .p (b.map sxV)), (5, .int .i64 k)]) (fun _ => []) (fun k => a.take k = b.take k) (by simp) ⟨by repeat (first | exact trivial | refine ⟨rfl, ?_⟩), by repeat (first | exact trivial | refine ⟨rfl, ?_⟩), rfl⟩ fun k hk hi => ?_
    repeat (first | refine i_len rfl ?_ | refine i_s rfl ?_ | refine i_lenm rfl rfl rfl ?_ | refine c_seq ?_ | refine c_cut0 ?_ | refine c_ops ?_ | refine i_nil ?_ | refine e_seq ?_ | refine e_block ?_ | refine c_block ?_ | refine c_skip ?_ | refine c_ret ?_ | refine c_exit ?_ | refine e_exit rfl ?_ | refine i_s0 rfl ?_ | refine c_leaf ?_ | refine i_gt rfl ?_ | refine i_gf rfl ?_ | refine i_gd rfl ?_ | refine c_t rfl ?_ | refine c_f rfl ?_ | refine i_conv rfl (by simp only [InR, List.length_map]; omega) ?_ | refine i_add rfl rfl (by simp only [InR, List.length_map]; omega) ?_ | refine i_sub rfl rfl (by simp only [InR, List.length_map]; omega) ?_ | refine i_ixm rfl rfl (by assumption) ?_ | refine i_iai rfl rfl (by omega) (by assumption) rfl ?_ | refine i_iam rfl rfl (by assumption) rfl ?_ | refine i_tk rfl rfl (by omega) ?_ | refine i_stb rfl ?_ | refine i_alloc rfl ?_ | refine i_box rfl rfl ?_ | refine i_nv rfl ?_)
    refine c_cond rfl (fun h => ?_) (fun h => ?_)
    · have hlt : k < a.length := by simpa using h
      obtain ⟨x, hx⟩ := get_some hlt
      obtain ⟨y, hy⟩ := get_some (l := b) (k := k) (by omega)
      have hI := f_R1_Ints x.ch y.ch (ha.e x (mem_get hx)).2
      have hbad : x ≠ y → decide (a = b) = false := fun hne => decide_eq_false fun e => by
        subst e
        rw [hx] at hy
        injection hy with hy
        exact hne hy
      have hgood : x = y → a.take (k + 1) = b.take (k + 1) := fun e => by rw [take_succ_get hx, take_succ_get hy, hi, e]
      clear h ha hi
      by_cases h1 : x.sym = y.sym
      · by_cases h2 : x.ch = y.ch
        · have he : x = y := by cases x; cases y; simp only at h1 h2; rw [h1, h2]
          rw [decide_eq_true h2] at hI
          repeat' (first | refine i_len rfl ?_ | refine i_s rfl ?_ | refine i_lenm rfl rfl rfl ?_ | refine c_seq ?_ | refine c_cut0 ?_ | refine c_ops ?_ | refine i_nil ?_ | refine e_seq ?_ | refine e_block ?_ | refine c_block ?_ | refine c_skip ?_ | refine c_ret ?_ | refine c_exit ?_ | refine e_exit rfl ?_ | refine i_s0 rfl ?_ | refine c_leaf ?_ | refine i_gt rfl ?_ | refine i_gf rfl ?_ | refine i_gd rfl ?_ | refine c_t rfl ?_ | refine c_f rfl ?_ | refine i_conv rfl (by simp only [InR, List.length_map]; omega) ?_ | refine i_add rfl rfl (by simp only [InR, List.length_map]; omega) ?_ | refine i_sub rfl rfl (by simp only [InR, List.length_map]; omega) ?_ | refine i_ixm rfl rfl (by assumption) ?_ | refine i_iai rfl rfl (by omega) (by assumption) rfl ?_ | refine i_iam rfl rfl (by assumption) rfl ?_ | refine i_tk rfl rfl (by omega) ?_ | refine i_stb rfl ?_ | refine i_alloc rfl ?_ | refine i_box rfl rfl ?_ | refine i_nv rfl ?_ | refine c_node ?_ ?_ | refine i_g rfl (fun h => ?_) (fun h => ?_) | refine c_cond rfl (fun h => ?_) (fun h => ?_) | refine i_f rfl rfl (hI) rfl ?_)
          all_goals first
            | exact e_for hlt (hgood he) ⟨by repeat (first | exact trivial | refine ⟨rfl, ?_⟩), by repeat (first | exact trivial | refine ⟨rfl, ?_⟩), rfl⟩
            | (exfalso; clear hI; simp_all; done)
        · rw [hbad fun e => h2 (by rw [e])]
          rw [decide_eq_false h2] at hI
          repeat' (first | refine i_len rfl ?_ | refine i_s rfl ?_ | refine i_lenm rfl rfl rfl ?_ | refine c_seq ?_ | refine c_cut0 ?_ | refine c_ops ?_ | refine i_nil ?_ | refine e_seq ?_ | refine e_block ?_ | refine c_block ?_ | refine c_skip ?_ | refine c_ret ?_ | refine c_exit ?_ | refine e_exit rfl ?_ | refine i_s0 rfl ?_ | refine c_leaf ?_ | refine i_gt rfl ?_ | refine i_gf rfl ?_ | refine i_gd rfl ?_ | refine c_t rfl ?_ | refine c_f rfl ?_ | refine i_conv rfl (by simp only [InR, List.length_map]; omega) ?_ | refine i_add rfl rfl (by simp only [InR, List.length_map]; omega) ?_ | refine i_sub rfl rfl (by simp only [InR, List.length_map]; omega) ?_ | refine i_ixm rfl rfl (by assumption) ?_ | refine i_iai rfl rfl (by omega) (by assumption) rfl ?_ | refine i_iam rfl rfl (by assumption) rfl ?_ | refine i_tk rfl rfl (by omega) ?_ | refine i_stb rfl ?_ | refine i_alloc rfl ?_ | refine i_box rfl rfl ?_ | refine i_nv rfl ?_ | refine c_node ?_ ?_ | refine i_g rfl (fun h => ?_) (fun h => ?_) | refine c_cond rfl (fun h => ?_) (fun h => ?_) | refine i_f rfl rfl (hI) rfl ?_)
          all_goals first
            | exact e_ret ⟨rfl, _, rfl, rfl⟩
            | (exfalso; clear hI; simp_all; done)
      · rw [hbad fun e => h1 (by rw [e])]
        generalize decide (x.ch = y.ch) = bb at *
        repeat' (first | refine i_len rfl ?_ | refine i_s rfl ?_ | refine i_lenm rfl rfl rfl ?_ | refine c_seq ?_ | refine c_cut0 ?_ | refine c_ops ?_ | refine i_nil ?_ | refine e_seq ?_ | refine e_block ?_ | refine c_block ?_ | refine c_skip ?_ | refine c_ret ?_ | refine c_exit ?_ | refine e_exit rfl ?_ | refine i_s0 rfl ?_ | refine c_leaf ?_ | refine i_gt rfl ?_ | refine i_gf rfl ?_ | refine i_gd rfl ?_ | refine c_t rfl ?_ | refine c_f rfl ?_ | refine i_conv rfl (by simp only [InR, List.length_map]; omega) ?_ | refine i_add rfl rfl (by simp only [InR, List.length_map]; omega) ?_ | refine i_sub rfl rfl (by simp only [InR, List.length_map]; omega) ?_ | refine i_ixm rfl rfl (by assumption) ?_ | refine i_iai rfl rfl (by omega) (by assumption) rfl ?_ | refine i_iam rfl rfl (by assumption) rfl ?_ | refine i_tk rfl rfl (by omega) ?_ | refine i_stb rfl ?_ | refine i_alloc rfl ?_ | refine i_box rfl rfl ?_ | refine i_nv rfl ?_ | refine c_node ?_ ?_ | refine i_g rfl (fun h => ?_) (fun h => ?_) | refine c_cond rfl (fun h => ?_) (fun h => ?_) | refine i_f rfl rfl (hI) rfl ?_)
        all_goals first
          | exact e_ret ⟨rfl, _, rfl, rfl⟩
          | (exfalso; clear hI; simp_all; done)
    · have hge : k = a.length := by have : ¬ k < a.length := by simpa using h
                                    omega
      subst hge
      rw [List.take_length, hl, List.take_length] at hi
      rw [decide_eq_true hi]
      clear h
      repeat' (first | refine i_len rfl ?_ | refine i_s rfl ?_ | refine i_lenm rfl rfl rfl ?_ | refine c_seq ?_ | refine c_cut0 ?_ | refine c_ops ?_ | refine i_nil ?_ | refine e_seq ?_ | refine e_block ?_ | refine c_block ?_ | refine c_skip ?_ | refine c_ret ?_ | refine c_exit ?_ | refine e_exit rfl ?_ | refine i_s0 rfl ?_ | refine c_leaf ?_ | refine i_gt rfl ?_ | refine i_gf rfl ?_ | refine i_gd rfl ?_ | refine c_t rfl ?_ | refine c_f rfl ?_ | refine i_conv rfl (by simp only [InR, List.length_map]; omega) ?_ | refine i_add rfl rfl (by simp only [InR, List.length_map]; omega) ?_ | refine i_sub rfl rfl (by simp only [InR, List.length_map]; omega) ?_ | refine i_ixm rfl rfl (by assumption) ?_ | refine i_iai rfl rfl (by omega) (by assumption) rfl ?_ | refine i_iam rfl rfl (by assumption) rfl ?_ | refine i_tk rfl rfl (by omega) ?_ | refine i_stb rfl ?_ | refine i_alloc rfl ?_ | refine i_box rfl rfl ?_ | refine i_nv rfl ?_ | refine c_node ?_ ?_ | refine i_g rfl (fun h => ?_) (fun h => ?_) | refine c_cond rfl (fun h => ?_) (fun h => ?_))
      exact e_ret ⟨rfl, _, rfl, rfl⟩
  · rw [decide_eq_false fun e => hl (by rw [e])]
    refine Fn.step mixed k_R1_SameSexpr ?_
    repeat' (first | refine i_len rfl ?_ | refine i_s rfl ?_ | refine i_lenm rfl rfl rfl ?_ | refine c_seq ?_ | refine c_cut0 ?_ | refine c_ops ?_ | refine i_nil ?_ | refine e_seq ?_ | refine e_block ?_ | refine c_block ?_ | refine c_skip ?_ | refine c_ret ?_ | refine c_exit ?_ | refine e_exit rfl ?_ | refine i_s0 rfl ?_ | refine c_leaf ?_ | refine i_gt rfl ?_ | refine i_gf rfl ?_ | refine i_gd rfl ?_ | refine c_t rfl ?_ | refine c_f rfl ?_ | refine i_conv rfl (by simp only [InR, List.length_map]; omega) ?_ | refine i_add rfl rfl (by simp only [InR, List.length_map]; omega) ?_ | refine i_sub rfl rfl (by simp only [InR, List.length_map]; omega) ?_ | refine i_ixm rfl rfl (by assumption) ?_ | refine i_iai rfl rfl (by omega) (by assumption) rfl ?_ | refine i_iam rfl rfl (by assumption) rfl ?_ | refine i_tk rfl rfl (by omega) ?_ | refine i_stb rfl ?_ | refine i_alloc rfl ?_ | refine i_box rfl rfl ?_ | refine i_nv rfl ?_ | refine c_node ?_ ?_ | refine i_g rfl (fun h => ?_) (fun h => ?_) | refine c_cond rfl (fun h => ?_) (fun h => ?_))
    all_goals first
      | exact e_ret ⟨rfl, _, rfl, rfl⟩
      | (exfalso; have h9 : (a.length : Int) = b.length := (by simpa using h); omega)
end Hm
end

section
/- The closed example of expressions; the law of validation and printing answers true. -/
namespace Hm
open Go
set_option maxRecDepth 100000
set_option maxHeartbeats 4000000
set_option linter.unusedSimpArgs false
set_option linter.unusedVariables false
def exL : List Sx := [⟨[97], []⟩, ⟨[98], []⟩, ⟨[], [0, 1]⟩]
theorem exL_ok : SxsOk exL := ⟨by decide, by decide, by
  intro x hx c hc
  simp only [exL, List.mem_cons, List.not_mem_nil, or_false] at hx
  rcases hx with rfl | rfl | rfl
  · simp at hc
  · simp at hc
  · simp at hc
    rcases hc with rfl | rfl <;> exact ⟨by decide, by decide⟩⟩
theorem f_ex1 : Fc Go.Proofs.Try.prog 13 [.str [40, 97, 32, 98, 41]] (.tup [.sl .p (exL.map sxV), ftV okF]) := by
  have h := f_sexpr_Read [40, 97, 32, 98, 41] (by decide)
  rw [show readL [40, 97, 32, 98, 41] = exL from by decide +kernel, show readF [40, 97, 32, 98, 41] = okF from by decide +kernel] at h
  exact h
theorem f_ex2 : Fc Go.Proofs.Try.prog 13 [.str [40, 97]] (.tup [.sl .p (([] : List Sx).map sxV), ftV ⟨1, 2⟩]) := by
  have h := f_sexpr_Read [40, 97] (by decide)
  rw [show readL [40, 97] = [] from by decide +kernel, show readF [40, 97] = ⟨1, 2⟩ from by decide +kernel] at h
  exact h
theorem f_ex3 : Fc Go.Proofs.Try.prog 10 [.sl .p (exL.map sxV)] (.tup [.str [40, 97, 32, 98, 41], ftV okF]) := by
  have h := f_sexpr_Print_ok exL exL_ok (sxOk_of (by decide +kernel))
  rw [show tx exL (exL.length - 1) = [40, 97, 32, 98, 41] from by decide +kernel] at h
  exact h
theorem f_ex4 : Fc Go.Proofs.Try.prog 15 [.sl .p (exL.map sxV), .sl .p (exL.map sxV)] (.bool true) := by
  have h := f_R1_SameSexpr exL exL exL_ok
  rwa [decide_eq_true rfl] at h
theorem f_ex5 : Fc Go.Proofs.Try.prog 11 [.sl .p (([] : List Sx).map sxV)] (ftV ⟨2, -1⟩) := f_sexpr_Validate [] ⟨by decide, by simp, by simp⟩
def c_L1_reads : Cmd :=
  (.seq
   (.ops [
   .op (some 0) none (.mov (.c (.bool false)))])
   (.cut
   (.seq
   (.ops [
   .op (some 9) none (.call .f (.c (.fn 13 [])) [.c (.str [40, 97, 32, 98, 41])]),
   .op (some 8) none (.mov (.t 9)),
   .op (some 10) none (.extract (.t 8) 0),
   .op (some 11) none (.extract (.t 8) 1),
   .op (some 2) none (.alloc 512130 (.agg [.int .i64 (0), .int .i64 (0)])),
   .op (some 1) none (.mov (.t 10)),
   .op none none (.store 2 (.t 2) (.t 11))])
   (.cut
   (.seq
   (.ops [
   .op (some 13) none (.build [.str [], .sl .p []] [(0, 1, .c (.str [97]))]),
   .op (some 14) none (.build [.str [], .sl .p []] [(0, 1, .c (.str [98]))]),
   .op (some 15) none (.bsl 1 [.c (.int .i64 (0)), .c (.int .i64 (1))]),
   .op (some 16) none (.build [.str [], .sl .p []] [(1, 1, .t 15)]),
   .op (some 17) none (.bsl 2 [.t 13, .t 14, .t 16]),
   .op (some 18) none (.call .f (.c (.fn 10 [])) [.t 17]),
   .op (some 12) none (.mov (.t 18)),
   .op (some 19) none (.extract (.t 12) 0),
   .op (some 20) none (.extract (.t 12) 1),
   .op (some 4) none (.alloc 512258 (.agg [.int .i64 (0), .int .i64 (0)])),
   .op (some 3) none (.mov (.t 19)),
   .op none none (.store 2 (.t 4) (.t 20))])
   (.cut
   (.seq
   (.ops [
   .op (some 22) none (.call .f (.c (.fn 13 [])) [.c (.str [40, 97])]),
   .op (some 21) none (.mov (.t 22)),
   .op (some 23) none (.extract (.t 21) 0),
   .op (some 24) none (.extract (.t 21) 1),
   .op (some 6) none (.alloc 512386 (.agg [.int .i64 (0), .int .i64 (0)])),
   .op (some 5) none (.mov (.t 23)),
   .op none none (.store 2 (.t 6) (.t 24))])
   (.cut
   (.seq
   (.ops [
   .op (some 25) none (.build [.str [], .sl .p []] [(0, 1, .c (.str [97]))]),
   .op (some 26) none (.build [.str [], .sl .p []] [(0, 1, .c (.str [98]))]),
   .op (some 27) none (.bsl 1 [.c (.int .i64 (0)), .c (.int .i64 (1))]),
   .op (some 28) none (.build [.str [], .sl .p []] [(1, 1, .t 27)]),
   .op (some 29) none (.bsl 2 [.t 25, .t 26, .t 28]),
   .op (some 7) none (.mov (.t 29))])
   (.cut
   (.seq
   (.ops [
   .op (some 30) none (.faddr 0 (.t 2)),
   .op (some 31) none (.load false 1 (.t 30)),
   .op (some 32) none (.bin .eql false [.i] (.t 31) (.c (.int .i64 (0)))),
   .op (some 33) none (.mov (.t 32)),
   .op (some 34) (some (33, true)) (.faddr 0 (.t 4)),
   .op (some 35) (some (33, true)) (.load false 1 (.t 34)),
   .op (some 36) (some (33, true)) (.bin .eql false [.i] (.t 35) (.c (.int .i64 (0)))),
   .op (some 37) none (.pick (.t 33) (.t 36) (.c (.bool false))),
   .op (some 38) none (.mov (.t 37)),
   .op (some 39) (some (38, true)) (.mov (.t 1)),
   .op (some 40) (some (38, true)) (.mov (.t 7)),
   .op (some 41) (some (38, true)) (.call .f (.c (.fn 15 [])) [.t 39, .t 40]),
   .op (some 42) none (.pick (.t 38) (.t 41) (.c (.bool false))),
   .op (some 43) none (.mov (.t 42)),
   .op (some 44) (some (43, true)) (.mov (.t 3)),
   .op (some 45) (some (43, true)) (.bin .eql false [.s] (.t 44) (.c (.str [40, 97, 32, 98, 41]))),
   .op (some 46) none (.pick (.t 43) (.t 45) (.c (.bool false))),
   .op (some 47) none (.mov (.t 46)),
   .op (some 48) (some (47, true)) (.load true 2 (.t 6)),
   .op (some 49) (some (47, true)) (.call .f (.c (.fn 17 [])) [.c (.int .i64 (1)), .c (.int .i64 (2))]),
   .op (some 50) (some (47, true)) (.bin .eql true [.i, .i] (.t 48) (.t 49)),
   .op (some 51) none (.pick (.t 47) (.t 50) (.c (.bool false))),
   .op (some 52) none (.mov (.t 51)),
   .op (some 53) (some (52, true)) (.call .f (.c (.fn 11 [])) [.c (.sl .nil [])]),
   .op (some 54) (some (52, true)) (.call .f (.c (.fn 17 [])) [.c (.int .i64 (2)), .c (.int .i64 (-1))]),
   .op (some 55) (some (52, true)) (.bin .eql true [.i, .i] (.t 53) (.t 54)),
   .op (some 56) none (.pick (.t 52) (.t 55) (.c (.bool false))),
   .op (some 0) none (.mov (.t 56))])
   .ret)))))))))))
def r_L1_reads : List RVar := [.tmp 0]
def n_L1_reads : Nat := 57
theorem k_L1_reads : chkFn Go.Proofs.Try.prog 8 n_L1_reads r_L1_reads c_L1_reads = true := by kernel_rfl
theorem f_L1_reads : Fc Go.Proofs.Try.prog 8 [] (.bool true) := by
  refine Fn.step mixed k_L1_reads ?_
  repeat' (first | refine i_len rfl ?_ | refine i_s rfl ?_ | refine i_lenm rfl rfl rfl ?_ | refine c_seq ?_ | refine c_cut0 ?_ | refine c_ops ?_ | refine i_nil ?_ | refine e_seq ?_ | refine e_block ?_ | refine c_block ?_ | refine c_skip ?_ | refine c_ret ?_ | refine c_exit ?_ | refine e_exit rfl ?_ | refine i_s0 rfl ?_ | refine c_leaf ?_ | refine i_gt rfl ?_ | refine i_gf rfl ?_ | refine i_gd rfl ?_ | refine c_t rfl ?_ | refine c_f rfl ?_ | refine i_conv rfl (by simp only [InR, List.length_map]; omega) ?_ | refine i_add rfl rfl (by simp only [InR, List.length_map]; omega) ?_ | refine i_sub rfl rfl (by simp only [InR, List.length_map]; omega) ?_ | refine i_ixm rfl rfl (by assumption) ?_ | refine i_iai rfl rfl (by omega) (by assumption) rfl ?_ | refine i_iam rfl rfl (by assumption) rfl ?_ | refine i_tk rfl rfl (by omega) ?_ | refine i_stb rfl ?_ | refine i_alloc rfl ?_ | refine i_box rfl rfl ?_ | refine i_nv rfl ?_ | refine c_node ?_ ?_ | refine i_g rfl (fun h => ?_) (fun h => ?_) | refine c_cond rfl (fun h => ?_) (fun h => ?_) | refine i_f rfl rfl (f_ex1) rfl ?_ | refine i_f rfl rfl (f_ex2) rfl ?_ | refine i_f rfl rfl (f_ex3) rfl ?_ | refine i_f rfl rfl (f_ex4) rfl ?_ | refine i_f rfl rfl (f_ex5) rfl ?_ | refine i_f rfl rfl (f_R1_At _ _) rfl ?_)
  all_goals exact e_ret ⟨rfl, _, rfl, rfl⟩
def c_L1_SexprMatchesSpec : Cmd :=
  (.seq
   (.ops [
   .op (some 2) none (.mov (.c (.bool false)))])
   (.cut
   (.seq
   (.seq
   (.ops [
   .op (some 6) none (.call .f (.c (.fn 8 [])) []),
   .op (some 7) none (.not (.t 6))])
   (.cut
   (.cond (.t 7)
   (.seq
   (.ops [
   .op (some 2) none (.mov (.c (.bool false)))])
   .ret)
   .skip)))
   (.cut
   (.seq
   (.ops [
   .op (some 8) none (.mov (.t 0)),
   .op (some 9) none (.call .f (.c (.fn 9 [])) [.t 8]),
   .op (some 3) none (.alloc 192194 (.agg [.int .i64 (0), .int .i64 (0)])),
   .op none none (.store 2 (.t 3) (.t 9))])
   (.cut
   (.seq
   (.ops [
   .op (some 11) none (.mov (.t 0)),
   .op (some 12) none (.call .f (.c (.fn 10 [])) [.t 11]),
   .op (some 10) none (.mov (.t 12)),
   .op (some 13) none (.extract (.t 10) 0),
   .op (some 14) none (.extract (.t 10) 1),
   .op (some 5) none (.alloc 192322 (.agg [.int .i64 (0), .int .i64 (0)])),
   .op (some 4) none (.mov (.t 13)),
   .op none none (.store 2 (.t 5) (.t 14))])
   (.cut
   (.seq
   (.seq
   (.ops [
   .op (some 15) none (.mov (.t 0)),
   .op (some 16) none (.call .f (.c (.fn 11 [])) [.t 15]),
   .op (some 17) none (.load true 2 (.t 3)),
   .op (some 18) none (.bin .neq true [.i, .i] (.t 16) (.t 17)),
   .op (some 19) none (.mov (.t 18)),
   .op (some 20) (some (19, false)) (.load true 2 (.t 5)),
   .op (some 21) (some (19, false)) (.load true 2 (.t 3)),
   .op (some 22) (some (19, false)) (.bin .neq true [.i, .i] (.t 20) (.t 21)),
   .op (some 23) none (.pick (.t 19) (.c (.bool true)) (.t 22))])
   (.cut
   (.cond (.t 23)
   (.seq
   (.ops [
   .op (some 2) none (.mov (.c (.bool false)))])
   .ret)
   .skip)))
   (.cut
   (.seq
   (.ops [
   .op (some 24) none (.faddr 0 (.t 3)),
   .op (some 25) none (.load false 1 (.t 24)),
   .op (some 26) none (.bin .neq false [.i] (.t 25) (.c (.int .i64 (0)))),
   .op (some 27) none (.mov (.t 26)),
   .op (some 28) (some (27, true)) (.mov (.t 4)),
   .op (some 29) (some (27, true)) (.bin .eql false [.s] (.t 28) (.c (.str []))),
   .op (some 30) none (.pick (.t 27) (.t 29) (.c (.bool false))),
   .op (some 31) none (.mov (.t 30)),
   .op (some 32) (some (31, false)) (.faddr 0 (.t 3)),
   .op (some 33) (some (31, false)) (.load false 1 (.t 32)),
   .op (some 34) (some (31, false)) (.bin .eql false [.i] (.t 33) (.c (.int .i64 (0)))),
   .op (some 35) (some (31, false)) (.mov (.t 34)),
   .op (some 36) (some (35, true)) (.mov (.t 4)),
   .op (some 37) (some (35, true)) (.mov (.t 0)),
   .op (some 38) (some (35, true)) (.mov (.t 0)),
   .op (some 39) (some (35, true)) (.len false (.t 38)),
   .op (some 40) (some (35, true)) (.bin .sub false [] (.t 39) (.c (.int .i64 (1)))),
   .op (some 41) (some (35, true)) (.call .f (.c (.fn 12 [])) [.t 37, .t 40]),
   .op (some 42) (some (35, true)) (.bin .eql false [.s] (.t 36) (.t 41)),
   .op (some 43) (some (31, false)) (.pick (.t 35) (.t 42) (.c (.bool false))),
   .op (some 44) none (.pick (.t 31) (.c (.bool true)) (.t 43)),
   .op (some 2) none (.mov (.t 44))])
   .ret)))))))))))
def r_L1_SexprMatchesSpec : List RVar := [.tmp 2]
def n_L1_SexprMatchesSpec : Nat := 45
theorem k_L1_SexprMatchesSpec : chkFn Go.Proofs.Try.prog 3 n_L1_SexprMatchesSpec r_L1_SexprMatchesSpec c_L1_SexprMatchesSpec = true := by kernel_rfl
theorem f_L1_SexprMatchesSpec (l : List Sx) (ho : SxsOk l) : Fc Go.Proofs.Try.prog 3 [.sl .p (l.map sxV)] (.bool true) := by
  have hT := f_L1_reads
  have hV := f_sexpr_Validate l ho
  have hR := f_R1_SexprFault l ho
  by_cases hb : sxFault l = okF
  · have hk := sxOk_of hb
    have hl := hk.len
    have hP := f_sexpr_Print_ok l ho hk
    have hX := f_R1_SexprText l ho hl.2 hk.node (l.length - 1) (by omega)
    rw [show ((l.length - 1 : Nat) : Int) = (l.length : Int) - 1 from by omega] at hX
    rw [hb] at hV hR
    have hol := ho.len
    clear hk hb
    generalize tx l (l.length - 1) = s at *
    refine Fn.step mixed k_L1_SexprMatchesSpec ?_
    repeat' (first | refine i_len rfl ?_ | refine i_s rfl ?_ | refine i_lenm rfl rfl rfl ?_ | refine c_seq ?_ | refine c_cut0 ?_ | refine c_ops ?_ | refine i_nil ?_ | refine e_seq ?_ | refine e_block ?_ | refine c_block ?_ | refine c_skip ?_ | refine c_ret ?_ | refine c_exit ?_ | refine e_exit rfl ?_ | refine i_s0 rfl ?_ | refine c_leaf ?_ | refine i_gt rfl ?_ | refine i_gf rfl ?_ | refine i_gd rfl ?_ | refine c_t rfl ?_ | refine c_f rfl ?_ | refine i_conv rfl (by simp only [InR, List.length_map]; omega) ?_ | refine i_add rfl rfl (by simp only [InR, List.length_map]; omega) ?_ | refine i_sub rfl rfl (by simp only [InR, List.length_map]; omega) ?_ | refine i_ixm rfl rfl (by assumption) ?_ | refine i_iai rfl rfl (by omega) (by assumption) rfl ?_ | refine i_iam rfl rfl (by assumption) rfl ?_ | refine i_tk rfl rfl (by omega) ?_ | refine i_stb rfl ?_ | refine i_alloc rfl ?_ | refine i_box rfl rfl ?_ | refine i_nv rfl ?_ | refine c_node ?_ ?_ | refine i_g rfl (fun h => ?_) (fun h => ?_) | refine c_cond rfl (fun h => ?_) (fun h => ?_) | refine i_f rfl rfl (hT) rfl ?_ | refine i_f rfl rfl (hV) rfl ?_ | refine i_f rfl rfl (hR) rfl ?_ | refine i_f rfl rfl (hP) rfl ?_ | refine i_f rfl rfl (hX) rfl ?_)
    all_goals clear hT hV hR hP hX ho
    all_goals first
      | (refine e_ret ⟨rfl, _, rfl, congrArg V.bool ?_⟩; first | rfl | (simp; done))
      | (exfalso; simp at *; done)
  · have hP := f_sexpr_Print_bad l ho hb
    have hne : (sxFault l).code ≠ 0 := fun h => hb ((sxFault_code l).1 h)
    clear hb
    generalize sxFault l = F at *
    refine Fn.step mixed k_L1_SexprMatchesSpec ?_
    repeat' (first | refine i_len rfl ?_ | refine i_s rfl ?_ | refine i_lenm rfl rfl rfl ?_ | refine c_seq ?_ | refine c_cut0 ?_ | refine c_ops ?_ | refine i_nil ?_ | refine e_seq ?_ | refine e_block ?_ | refine c_block ?_ | refine c_skip ?_ | refine c_ret ?_ | refine c_exit ?_ | refine e_exit rfl ?_ | refine i_s0 rfl ?_ | refine c_leaf ?_ | refine i_gt rfl ?_ | refine i_gf rfl ?_ | refine i_gd rfl ?_ | refine c_t rfl ?_ | refine c_f rfl ?_ | refine i_conv rfl (by simp only [InR, List.length_map]; omega) ?_ | refine i_add rfl rfl (by simp only [InR, List.length_map]; omega) ?_ | refine i_sub rfl rfl (by simp only [InR, List.length_map]; omega) ?_ | refine i_ixm rfl rfl (by assumption) ?_ | refine i_iai rfl rfl (by omega) (by assumption) rfl ?_ | refine i_iam rfl rfl (by assumption) rfl ?_ | refine i_tk rfl rfl (by omega) ?_ | refine i_stb rfl ?_ | refine i_alloc rfl ?_ | refine i_box rfl rfl ?_ | refine i_nv rfl ?_ | refine c_node ?_ ?_ | refine i_g rfl (fun h => ?_) (fun h => ?_) | refine c_cond rfl (fun h => ?_) (fun h => ?_) | refine i_f rfl rfl (hT) rfl ?_ | refine i_f rfl rfl (hV) rfl ?_ | refine i_f rfl rfl (hR) rfl ?_ | refine i_f rfl rfl (hP) rfl ?_)
    all_goals clear hT hV hR hP ho
    all_goals first
      | (exfalso; simp at *; done)
      | (exfalso; simp_all; done)
      | (refine e_ret ⟨rfl, _, rfl, congrArg V.bool ?_⟩; first | rfl | (simp; done) | (simp_all; done))
end Hm
end
