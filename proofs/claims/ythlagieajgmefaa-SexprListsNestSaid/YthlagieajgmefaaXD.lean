/- Contracts: the reader: blanks. -/
import Derived.Test.YthlagieajgmefaaXC
section
/- Contracts: the reader: blanks. -/
namespace Hm
open Go
set_option maxRecDepth 100000
set_option maxHeartbeats 4000000
set_option linter.unusedSimpArgs false
set_option linter.unusedVariables false
def rdN : V := .bptr 832259 0
def rdS (t s : List UInt8) (ns : List Sx) : List (Nat × Blk) := [(832259, .box (.agg [.str t, .int .i64 ((t.length : Int) - s.length), .sl (.own 834690) (ns.map sxV)])), (834690, .vec ns.length)]
theorem rd_eq {σ : Store} {t s : List UInt8} {ns : List Sx} (h1 : σ 832259 = .box (.agg [.str t, .int .i64 ((t.length : Int) - s.length), .sl (.own 834690) (ns.map sxV)])) (h2 : σ 834690 = .vec ns.length)
    (hpn : ∀ nm, σ nm ≠ .unused → nm ∈ [832259, 834690]) : σ = stOf (rdS t s ns) := by
  funext k
  simp only [stOf, rdS]
  cases e1 : Nat.beq k 832259 with
  | true => rw [Nat.eq_of_beq_eq_true e1]; exact h1
  | false =>
    cases e2 : Nat.beq k 834690 with
    | true => rw [Nat.eq_of_beq_eq_true e2]; exact h2
    | false =>
      refine Classical.byContradiction fun h => ?_
      have := hpn k h
      simp only [List.mem_cons, List.not_mem_nil, or_false] at this
      rcases this with rfl | rfl
      · rw [Nat.beq_refl] at e1; cases e1
      · rw [Nat.beq_refl] at e2; cases e2
theorem at_succ {t r : List UInt8} (c : UInt8) : ((t.length : Int) - (c :: r).length) + 1 = (t.length : Int) - r.length := by simp only [List.length_cons]; omega
def c_sexpr_reader_blanks : Cmd :=
  (.block 0
   (.loop
   (.seq
   (.seq
   (.ops [
   .op (some 2) none (.mov (.t 0)),
   .op (some 3) none (.nilck (.t 2)),
   .op (some 4) none (.faddr 1 (.t 3)),
   .op (some 5) none (.load false 1 (.t 4)),
   .op (some 6) none (.mov (.t 0)),
   .op (some 7) none (.nilck (.t 6)),
   .op (some 8) none (.faddr 0 (.t 7)),
   .op (some 9) none (.load false 1 (.t 8)),
   .op (some 10) none (.len true (.t 9)),
   .op (some 11) none (.bin .lss false [] (.t 5) (.t 10)),
   .op (some 12) none (.mov (.t 11)),
   .op (some 13) (some (12, true)) (.mov (.t 0)),
   .op (some 14) (some (12, true)) (.nilck (.t 13)),
   .op (some 15) (some (12, true)) (.faddr 0 (.t 14)),
   .op (some 16) (some (12, true)) (.load false 1 (.t 15)),
   .op (some 17) (some (12, true)) (.mov (.t 0)),
   .op (some 18) (some (12, true)) (.nilck (.t 17)),
   .op (some 19) (some (12, true)) (.faddr 1 (.t 18)),
   .op (some 20) (some (12, true)) (.load false 1 (.t 19)),
   .op (some 21) (some (12, true)) (.index (.t 16) (.t 20)),
   .op (some 22) (some (12, true)) (.call .f (.c (.fn 34 [])) [.c (.str [32, 9, 10]), .t 21]),
   .op (some 23) (some (12, true)) (.bin .geq false [] (.t 22) (.c (.int .i64 (0)))),
   .op (some 24) none (.pick (.t 12) (.t 23) (.c (.bool false)))])
   (.cut
   (.cond (.t 24)
   .skip
   (.exit 0))))
   (.cut
   (.block 1
   (.ops [
   .op (some 25) none (.mov (.t 0)),
   .op (some 26) none (.nilck (.t 25)),
   .op (some 27) none (.faddr 1 (.t 26)),
   .op (some 28) none (.load false 1 (.t 27)),
   .op (some 29) none (.bin .add false [] (.t 28) (.c (.int .i64 (1)))),
   .op (some 30) none (.nilck (.t 25)),
   .op (some 31) none (.faddr 1 (.t 30)),
   .op none none (.store 1 (.t 31) (.t 29))]))))))
def r_sexpr_reader_blanks : List RVar := []
def n_sexpr_reader_blanks : Nat := 32
theorem k_sexpr_reader_blanks : chkFn Go.Proofs.Try.prog 28 n_sexpr_reader_blanks r_sexpr_reader_blanks c_sexpr_reader_blanks = true := by kernel_rfl
theorem ct_blanks {G : Type} {H : HT G} (t s : List UInt8) (ns : List Sx) (ht : t.length ≤ 100000) (hs : s <:+ t) (σ : Store) (hσ : σ = stOf (rdS t s ns)) (g : G) :
    Cc Go.Proofs.Try.prog H 28 [rdN] [832259, 834690] σ g fun r σ' g' => r = .tup [] ∧ σ' = stOf (rdS t (sk s) ns) ∧ g' = g := by
  subst hσ
  refine CT.step _ mixed k_sexpr_reader_blanks (fun nm h => stOf_mem (rdS t s ns) nm h) fun hM => ?_
  repeat (first | refine i_len rfl ?_ | refine i_s rfl ?_ | refine i_lenm rfl rfl rfl ?_ | refine c_seq ?_ | refine c_cut0 ?_ | refine c_ops ?_ | refine i_nil ?_ | refine e_seq ?_ | refine e_block ?_ | refine c_block ?_ | refine c_skip ?_ | refine c_ret ?_ | refine c_exit ?_ | refine e_exit rfl ?_ | refine i_s0 rfl ?_ | refine c_leaf ?_ | refine i_gt rfl ?_ | refine i_gf rfl ?_ | refine i_gd rfl ?_ | refine c_t rfl ?_ | refine c_f rfl ?_ | refine i_conv rfl (by simp only [InR, List.length_map]; omega) ?_ | refine i_add rfl rfl (by simp only [InR, List.length_map]; omega) ?_ | refine i_sub rfl rfl (by simp only [InR, List.length_map]; omega) ?_ | refine i_ixm rfl rfl (by assumption) ?_ | refine i_iai rfl rfl (by omega) (by assumption) rfl ?_ | refine i_iam rfl rfl (by assumption) rfl ?_ | refine i_tk rfl rfl (by omega) ?_ | refine i_stb rfl ?_ | refine i_alloc rfl ?_ | refine i_box rfl rfl ?_ | refine i_nv rfl ?_)
  refine c_lp (ι := List UInt8) (fun u => [(0, rdN)]) (fun u => rdS t u ns) (fun u => u <:+ t ∧ sk u = sk s) (fun u => u.length) s ⟨hs, rfl⟩ ⟨⟨rfl, trivial⟩, ⟨rfl, rfl, trivial⟩, rfl⟩ fun u hu => ?_
  obtain ⟨hu, hk⟩ := hu
  have hul := hu.length_le
  cases hc : u with
  | nil =>
    subst hc
    repeat' (first | refine i_len rfl ?_ | refine i_s rfl ?_ | refine i_lenm rfl rfl rfl ?_ | refine c_seq ?_ | refine c_cut0 ?_ | refine c_ops ?_ | refine i_nil ?_ | refine e_seq ?_ | refine e_block ?_ | refine c_block ?_ | refine c_skip ?_ | refine c_ret ?_ | refine c_exit ?_ | refine e_exit rfl ?_ | refine i_s0 rfl ?_ | refine c_leaf ?_ | refine i_gt rfl ?_ | refine i_gf rfl ?_ | refine i_gd rfl ?_ | refine c_t rfl ?_ | refine c_f rfl ?_ | refine i_conv rfl (by simp only [InR, List.length_map]; omega) ?_ | refine i_add rfl rfl (by simp only [InR, List.length_map]; omega) ?_ | refine i_sub rfl rfl (by simp only [InR, List.length_map]; omega) ?_ | refine i_ixm rfl rfl (by assumption) ?_ | refine i_iai rfl rfl (by omega) (by assumption) rfl ?_ | refine i_iam rfl rfl (by assumption) rfl ?_ | refine i_tk rfl rfl (by omega) ?_ | refine i_stb rfl ?_ | refine i_alloc rfl ?_ | refine i_box rfl rfl ?_ | refine i_nv rfl ?_ | refine c_node ?_ ?_ | refine i_g rfl (fun h => ?_) (fun h => ?_) | refine c_cond rfl (fun h => ?_) (fun h => ?_))
    all_goals first
      | (exfalso; have := of_decide_eq_true h; simp at this; done)
      | skip
    refine e_end ⟨rfl, _, rfl, rfl, rfl, rfl, ?_, rfl⟩
    rw [← hk]
    exact rd_eq rfl rfl fun nm h => restr_mem nm h
  | cons c r =>
    subst hc
    have hg := suf_get hu rfl
    have hI := f_strings_IndexByte [32, 9, 10] c
    have hm := ix_mem [32, 9, 10] c
    generalize Lib.indexByte [32, 9, 10] c = ix at *
    have hr : r <:+ t := (List.suffix_cons c r).trans hu
    have hsucc := at_succ (t := t) (r := r) c
    have hlt : ((t.length : Int) - (c :: r).length) < t.length := by simp only [List.length_cons]; omega
    have h0 : 0 ≤ ((t.length : Int) - (c :: r).length) := by omega
    have hul2 : r.length < (c :: r).length := by simp
    cases hb : blankB c with
    | true =>
      have hix : ix ≥ 0 := by have : decide (ix ≥ 0) = true := hm.trans hb
                              exact of_decide_eq_true this
      rw [sk_cons hb] at hk
      repeat' (first | refine i_len rfl ?_ | refine i_s rfl ?_ | refine i_lenm rfl rfl rfl ?_ | refine c_seq ?_ | refine c_cut0 ?_ | refine c_ops ?_ | refine i_nil ?_ | refine e_seq ?_ | refine e_block ?_ | refine c_block ?_ | refine c_skip ?_ | refine c_ret ?_ | refine c_exit ?_ | refine e_exit rfl ?_ | refine i_s0 rfl ?_ | refine c_leaf ?_ | refine i_gt rfl ?_ | refine i_gf rfl ?_ | refine i_gd rfl ?_ | refine c_t rfl ?_ | refine c_f rfl ?_ | refine i_conv rfl (by simp only [InR, List.length_map]; omega) ?_ | refine i_add rfl rfl (by simp only [InR, List.length_map]; omega) ?_ | refine i_sub rfl rfl (by simp only [InR, List.length_map]; omega) ?_ | refine i_ixm rfl rfl (by assumption) ?_ | refine i_iai rfl rfl (by omega) (by assumption) rfl ?_ | refine i_iam rfl rfl (by assumption) rfl ?_ | refine i_tk rfl rfl (by omega) ?_ | refine i_stb rfl ?_ | refine i_alloc rfl ?_ | refine i_box rfl rfl ?_ | refine i_nv rfl ?_ | refine c_node ?_ ?_ | refine i_g rfl (fun h => ?_) (fun h => ?_) | refine c_cond rfl (fun h => ?_) (fun h => ?_) | refine i_f rfl rfl (hI) rfl ?_ | refine i_ix rfl rfl h0 hg ?_)
      all_goals first
        | (exfalso; have := of_decide_eq_false h; omega)
        | skip
      refine e_lp r ⟨hr, hk⟩ hul2 ⟨⟨rfl, trivial⟩, ⟨?_, rfl, trivial⟩, rfl⟩
      rw [← hsucc]
      rfl
    | false =>
      have hix : ¬ ix ≥ 0 := by have : decide (ix ≥ 0) = false := hm.trans hb
                                exact of_decide_eq_false this
      rw [sk_stop hb] at hk
      repeat' (first | refine i_len rfl ?_ | refine i_s rfl ?_ | refine i_lenm rfl rfl rfl ?_ | refine c_seq ?_ | refine c_cut0 ?_ | refine c_ops ?_ | refine i_nil ?_ | refine e_seq ?_ | refine e_block ?_ | refine c_block ?_ | refine c_skip ?_ | refine c_ret ?_ | refine c_exit ?_ | refine e_exit rfl ?_ | refine i_s0 rfl ?_ | refine c_leaf ?_ | refine i_gt rfl ?_ | refine i_gf rfl ?_ | refine i_gd rfl ?_ | refine c_t rfl ?_ | refine c_f rfl ?_ | refine i_conv rfl (by simp only [InR, List.length_map]; omega) ?_ | refine i_add rfl rfl (by simp only [InR, List.length_map]; omega) ?_ | refine i_sub rfl rfl (by simp only [InR, List.length_map]; omega) ?_ | refine i_ixm rfl rfl (by assumption) ?_ | refine i_iai rfl rfl (by omega) (by assumption) rfl ?_ | refine i_iam rfl rfl (by assumption) rfl ?_ | refine i_tk rfl rfl (by omega) ?_ | refine i_stb rfl ?_ | refine i_alloc rfl ?_ | refine i_box rfl rfl ?_ | refine i_nv rfl ?_ | refine c_node ?_ ?_ | refine i_g rfl (fun h => ?_) (fun h => ?_) | refine c_cond rfl (fun h => ?_) (fun h => ?_) | refine i_f rfl rfl (hI) rfl ?_ | refine i_ix rfl rfl h0 hg ?_)
      all_goals first
        | (exfalso; have := of_decide_eq_false h; omega)
        | (exfalso; have := of_decide_eq_true h; omega)
        | skip
      refine e_end ⟨rfl, _, rfl, rfl, rfl, rfl, ?_, rfl⟩
      rw [← hk]
      refine rd_eq ?_ rfl fun nm h => restr_mem nm h
      rfl
end Hm
end

section
/- Contracts: the reader: nodes and lists. -/
namespace Hm
open Go
set_option maxRecDepth 100000
set_option maxHeartbeats 4000000
set_option linter.unusedSimpArgs false
set_option linter.unusedVariables false
def ndR (b : Nat) (q : PR) : V := .tup [.int .i64 (if q.code = 0 then ((b + q.new.length : Nat) : Int) - 1 else 0), .int .i64 q.code]
def lsR (q : PR) : V := .tup [if q.code = 0 then .sl .p (q.ch.map i64V) else .sl .nil [], .int .i64 q.code]
theorem slice_suf {t w u : List UInt8} (h : (w ++ u) <:+ t) : (t.take ((t.length : Int) - u.length).toNat).drop ((t.length : Int) - (w ++ u).length).toNat = w := by
  obtain ⟨p, rfl⟩ := h
  rw [show (((p ++ (w ++ u)).length : Int) - u.length).toNat = (p ++ w).length from by simp; omega, show (((p ++ (w ++ u)).length : Int) - (w ++ u).length).toNat = p.length from by simp, ← List.append_assoc, List.take_left, List.drop_left]
/-- Nodes and lists, with this patience. -/
def NodeC {G : Type} (H : HT G) (t : List UInt8) (f : Nat) : Prop := ∀ (d : Nat) (s : List UInt8) (ns : List Sx), d ≤ 12 → s <:+ t → ns.length + s.length ≤ 100000 → 2 * s.length + 1 ≤ f → ∀ (σ : Store), σ = stOf (rdS t s ns) → ∀ g : G,
  Cc Go.Proofs.Try.prog H 27 [rdN, .int .i64 d] [832259, 834690] σ g fun r σ' g' => r = ndR ns.length (prs f true d s ns.length []) ∧ σ' = stOf (rdS t (prs f true d s ns.length []).rest (ns ++ (prs f true d s ns.length []).new)) ∧ g' = g
def ListC {G : Type} (H : HT G) (t : List UInt8) (f : Nat) : Prop := ∀ (d : Nat) (s : List UInt8) (ns : List Sx), d < 12 → (40 :: s) <:+ t → ns.length + s.length ≤ 100000 → 2 * s.length + 2 ≤ f → ∀ (σ : Store), σ = stOf (rdS t (40 :: s) ns) → ∀ g : G,
  Cc Go.Proofs.Try.prog H 33 [rdN, .int .i64 d] [832259, 834690] σ g fun r σ' g' => r = lsR (prs f false d s ns.length []) ∧ σ' = stOf (rdS t (prs f false d s ns.length []).rest (ns ++ (prs f false d s ns.length []).new)) ∧ g' = g
theorem prs_close {f d b : Nat} {s r : List UInt8} {acc : List Int} (h : sk s = 41 :: r) : prs (f + 1) false d s b acc = ⟨r, [], acc, 0⟩ := by
  simp only [prs]
  rw [h]
  rfl
theorem prs_bad {f d b : Nat} {s : List UInt8} {acc : List Int} (h : (sk s).head? ≠ some 41) (hq : (prs f true (d + 1) (sk s) b []).code ≠ 0) : prs (f + 1) false d s b acc = ⟨(prs f true (d + 1) (sk s) b []).rest, (prs f true (d + 1) (sk s) b []).new, [], (prs f true (d + 1) (sk s) b []).code⟩ := by
  simp only [prs]
  rw [if_neg h, if_pos hq]
theorem prs_next {f d b : Nat} {s : List UInt8} {acc : List Int} (h : (sk s).head? ≠ some 41) (hq : (prs f true (d + 1) (sk s) b []).code = 0) (hf : 2 * (sk s).length + 1 ≤ f) :
    prs (f + 1) false d s b acc = ⟨(prs (f + 1) false d (prs f true (d + 1) (sk s) b []).rest (b + (prs f true (d + 1) (sk s) b []).new.length) (acc ++ [((b + (prs f true (d + 1) (sk s) b []).new.length : Nat) : Int) - 1])).rest,
      (prs f true (d + 1) (sk s) b []).new ++ (prs (f + 1) false d (prs f true (d + 1) (sk s) b []).rest (b + (prs f true (d + 1) (sk s) b []).new.length) (acc ++ [((b + (prs f true (d + 1) (sk s) b []).new.length : Nat) : Int) - 1])).new,
      (prs (f + 1) false d (prs f true (d + 1) (sk s) b []).rest (b + (prs f true (d + 1) (sk s) b []).new.length) (acc ++ [((b + (prs f true (d + 1) (sk s) b []).new.length : Nat) : Int) - 1])).ch,
      (prs (f + 1) false d (prs f true (d + 1) (sk s) b []).rest (b + (prs f true (d + 1) (sk s) b []).new.length) (acc ++ [((b + (prs f true (d + 1) (sk s) b []).new.length : Nat) : Int) - 1])).code⟩ := by
  have hl := ((prs_facts f true (d + 1) (sk s) b []).2.2.2 hq).1
  conv => lhs; simp only [prs]
  rw [if_neg h, if_neg (by simp [hq]), prs_fuel f (f + 1) false d _ _ _ (by simp; omega) (by simp; omega)]
def c_sexpr_reader_list : Cmd :=
  (.seq
   (.ops [
   .op (some 4) none (.mov (.c (.sl .nil []))),
   .op (some 5) none (.mov (.c (.int .i64 (0))))])
   (.cut
   (.seq
   (.ops [
   .op (some 6) none (.newVec 2112385)])
   (.cut
   (.seq
   (.ops [
   .op (some 9) none (.mov (.t 0)),
   .op (some 10) none (.nilck (.t 9)),
   .op (some 11) none (.faddr 1 (.t 10)),
   .op (some 12) none (.load false 1 (.t 11)),
   .op (some 13) none (.bin .add false [] (.t 12) (.c (.int .i64 (1)))),
   .op (some 14) none (.nilck (.t 9)),
   .op (some 15) none (.faddr 1 (.t 14)),
   .op none none (.store 1 (.t 15) (.t 13))])
   (.cut
   (.block 0
   (.loop
   (.block 1
   (.seq
   (.ops [
   .op (some 16) none (.mov (.t 0)),
   .op (some 17) none (.call (.s [832259,834690]) (.c (.fn 28 [])) [.t 16])])
   (.cut
   (.seq
   (.seq
   (.ops [
   .op (some 18) none (.mov (.t 0)),
   .op (some 19) none (.nilck (.t 18)),
   .op (some 20) none (.faddr 1 (.t 19)),
   .op (some 21) none (.load false 1 (.t 20)),
   .op (some 22) none (.mov (.t 0)),
   .op (some 23) none (.nilck (.t 22)),
   .op (some 24) none (.faddr 0 (.t 23)),
   .op (some 25) none (.load false 1 (.t 24)),
   .op (some 26) none (.len true (.t 25)),
   .op (some 27) none (.bin .lss false [] (.t 21) (.t 26)),
   .op (some 28) none (.mov (.t 27)),
   .op (some 29) (some (28, true)) (.mov (.t 0)),
   .op (some 30) (some (28, true)) (.nilck (.t 29)),
   .op (some 31) (some (28, true)) (.faddr 0 (.t 30)),
   .op (some 32) (some (28, true)) (.load false 1 (.t 31)),
   .op (some 33) (some (28, true)) (.mov (.t 0)),
   .op (some 34) (some (28, true)) (.nilck (.t 33)),
   .op (some 35) (some (28, true)) (.faddr 1 (.t 34)),
   .op (some 36) (some (28, true)) (.load false 1 (.t 35)),
   .op (some 37) (some (28, true)) (.index (.t 32) (.t 36)),
   .op (some 38) (some (28, true)) (.bin .eql false [.i] (.t 37) (.c (.int .u8 (41)))),
   .op (some 39) none (.pick (.t 28) (.t 38) (.c (.bool false)))])
   (.cut
   (.cond (.t 39)
   (.seq
   (.ops [
   .op (some 40) none (.mov (.t 0)),
   .op (some 41) none (.nilck (.t 40)),
   .op (some 42) none (.faddr 1 (.t 41)),
   .op (some 43) none (.load false 1 (.t 42)),
   .op (some 44) none (.bin .add false [] (.t 43) (.c (.int .i64 (1)))),
   .op (some 45) none (.nilck (.t 40)),
   .op (some 46) none (.faddr 1 (.t 45)),
   .op none none (.store 1 (.t 46) (.t 44))])
   (.seq (.frz 6) (.cut
   (.seq
   (.ops [
   .op (some 47) none (.mov (.t 6)),
   .op (some 4) none (.mov (.t 47)),
   .op (some 5) none (.mov (.c (.int .i64 (0))))])
   .ret))))
   .skip)))
   (.cut
   (.seq
   (.ops [
   .op (some 49) none (.mov (.t 0)),
   .op (some 50) none (.mov (.t 1)),
   .op (some 51) none (.bin .add false [] (.t 50) (.c (.int .i64 (1)))),
   .op (some 52) none (.call (.s [832259,834690]) (.c (.fn 27 [])) [.t 49, .t 51]),
   .op (some 48) none (.mov (.t 52)),
   .op (some 53) none (.extract (.t 48) 0),
   .op (some 54) none (.extract (.t 48) 1),
   .op (some 7) none (.mov (.t 53)),
   .op (some 8) none (.mov (.t 54))])
   (.cut
   (.seq
   (.seq
   (.ops [
   .op (some 55) none (.mov (.t 8)),
   .op (some 56) none (.bin .neq false [.i] (.t 55) (.c (.int .i64 (0))))])
   (.cut
   (.cond (.t 56)
   (.seq
   (.ops [
   .op (some 57) none (.mov (.t 8)),
   .op (some 4) none (.mov (.c (.sl .nil []))),
   .op (some 5) none (.mov (.t 57))])
   .ret)
   .skip)))
   (.cut
   (.ops [
   .op (some 58) none (.mov (.t 6)),
   .op (some 59) none (.mov (.t 7)),
   .op (some 60) none (.bsl 1 [.t 59]),
   .op (some 61) none (.append 1 8 3 (.t 58) (.t 60)),
   .op (some 6) none (.mov (.t 61))]))))))))))))))))))
def r_sexpr_reader_list : List RVar := [.tmp 4, .tmp 5]
def n_sexpr_reader_list : Nat := 62
theorem k_sexpr_reader_list : chkFn Go.Proofs.Try.prog 33 n_sexpr_reader_list r_sexpr_reader_list c_sexpr_reader_list = true := by kernel_rfl
theorem ct_list {G : Type} {H : HT G} (t : List UInt8) (ht : t.length ≤ 100000) (f : Nat) (hN : NodeC H t f) : ListC H t (f + 1) := by
  intro d s ns hd hs hb hf σ hσ g
  subst hσ
  have hsl := hs.length_le
  simp only [List.length_cons] at hsl
  have hst : s <:+ t := (List.suffix_cons 40 s).trans hs
  have hsucc := at_succ (t := t) (r := s) 40
  refine CT.step _ mixed k_sexpr_reader_list (fun nm h => stOf_mem (rdS t (40 :: s) ns) nm h) fun hM => ?_
  repeat (first | refine i_len rfl ?_ | refine i_s rfl ?_ | refine i_lenm rfl rfl rfl ?_ | refine c_seq ?_ | refine c_cut0 ?_ | refine c_ops ?_ | refine i_nil ?_ | refine e_seq ?_ | refine e_block ?_ | refine c_block ?_ | refine c_skip ?_ | refine c_ret ?_ | refine c_exit ?_ | refine e_exit rfl ?_ | refine i_s0 rfl ?_ | refine c_leaf ?_ | refine i_gt rfl ?_ | refine i_gf rfl ?_ | refine i_gd rfl ?_ | refine c_t rfl ?_ | refine c_f rfl ?_ | refine i_conv rfl (by simp only [InR, List.length_map]; omega) ?_ | refine i_add rfl rfl (by simp only [InR, List.length_map]; omega) ?_ | refine i_sub rfl rfl (by simp only [InR, List.length_map]; omega) ?_ | refine i_ixm rfl rfl (by assumption) ?_ | refine i_iai rfl rfl (by omega) (by assumption) rfl ?_ | refine i_iam rfl rfl (by assumption) rfl ?_ | refine i_tk rfl rfl (by omega) ?_ | refine i_stb rfl ?_ | refine i_alloc rfl ?_ | refine i_box rfl rfl ?_ | refine i_nv rfl ?_)
  refine c_lp (ι := List UInt8 × List Sx × List Int) (fun p => [(0, rdN), (1, .int .i64 d), (6, .sl (.own 2112385) (p.2.2.map i64V))])
    (fun p => (2112385, .vec p.2.2.length) :: rdS t p.1 (ns ++ p.2.1)) (fun p => p.1 <:+ t ∧ p.1.length ≤ s.length ∧ ns.length + p.2.1.length + p.1.length ≤ 100000 ∧ p.2.2.length + p.1.length ≤ s.length ∧
      prs (f + 1) false d s ns.length [] = ⟨(prs (f + 1) false d p.1 (ns.length + p.2.1.length) p.2.2).rest, p.2.1 ++ (prs (f + 1) false d p.1 (ns.length + p.2.1.length) p.2.2).new, (prs (f + 1) false d p.1 (ns.length + p.2.1.length) p.2.2).ch, (prs (f + 1) false d p.1 (ns.length + p.2.1.length) p.2.2).code⟩) (fun p => p.1.length) (s, [], [])
    ⟨hst, Nat.le_refl _, by simpa using hb, by simp, by simp⟩ ⟨⟨rfl, rfl, rfl, trivial⟩, ⟨rfl, by rw [List.append_nil, ← hsucc]; rfl, by rw [List.append_nil]; rfl, trivial⟩, rfl⟩ fun p hp => ?_
  obtain ⟨u, nw, acc⟩ := p
  obtain ⟨hu, hul, hub, hal, hq⟩ := hp
  simp only at hu hul hub hal hq
  rw [hq]
  clear hq
  have hkl := (sk_suf u).length_le
  have hku := (sk_suf u).trans hu
  repeat (first | refine i_len rfl ?_ | refine i_s rfl ?_ | refine i_lenm rfl rfl rfl ?_ | refine c_seq ?_ | refine c_cut0 ?_ | refine c_ops ?_ | refine i_nil ?_ | refine e_seq ?_ | refine e_block ?_ | refine c_block ?_ | refine c_skip ?_ | refine c_ret ?_ | refine c_exit ?_ | refine e_exit rfl ?_ | refine i_s0 rfl ?_ | refine c_leaf ?_ | refine i_gt rfl ?_ | refine i_gf rfl ?_ | refine i_gd rfl ?_ | refine c_t rfl ?_ | refine c_f rfl ?_ | refine i_conv rfl (by simp only [InR, List.length_map]; omega) ?_ | refine i_add rfl rfl (by simp only [InR, List.length_map]; omega) ?_ | refine i_sub rfl rfl (by simp only [InR, List.length_map]; omega) ?_ | refine i_ixm rfl rfl (by assumption) ?_ | refine i_iai rfl rfl (by omega) (by assumption) rfl ?_ | refine i_iam rfl rfl (by assumption) rfl ?_ | refine i_tk rfl rfl (by omega) ?_ | refine i_stb rfl ?_ | refine i_alloc rfl ?_ | refine i_box rfl rfl ?_ | refine i_nv rfl ?_)
  refine i_c rfl rfl rfl (ct_blanks t u (ns ++ nw) ht hu _ (rd_eq rfl rfl fun nm h => restr_mem nm h) g) ?_
  rintro _ _ g ⟨rfl, rfl, rfl⟩
  by_cases h41 : (sk u).head? = some 41
  · obtain ⟨r, hr⟩ : ∃ r, sk u = 41 :: r := by
      cases h : sk u with
      | nil => rw [h] at h41; cases h41
      | cons c r => rw [h] at h41; cases h41; exact ⟨r, rfl⟩
    rw [prs_close hr]
    rw [hr] at hkl hku ⊢
    have hg := suf_get hku rfl
    have hkul := hku.length_le
    have hlt : ((t.length : Int) - (41 :: r).length) < t.length := by simp only [List.length_cons]; omega
    have h0 : 0 ≤ ((t.length : Int) - (41 :: r).length) := by omega
    have hsc := at_succ (t := t) (r := r) 41
    clear hN
    repeat' (first | refine i_len rfl ?_ | refine i_s rfl ?_ | refine i_lenm rfl rfl rfl ?_ | refine c_seq ?_ | refine c_cut0 ?_ | refine c_ops ?_ | refine i_nil ?_ | refine e_seq ?_ | refine e_block ?_ | refine c_block ?_ | refine c_skip ?_ | refine c_ret ?_ | refine c_exit ?_ | refine e_exit rfl ?_ | refine i_s0 rfl ?_ | refine c_leaf ?_ | refine i_gt rfl ?_ | refine i_gf rfl ?_ | refine i_gd rfl ?_ | refine c_t rfl ?_ | refine c_f rfl ?_ | refine i_conv rfl (by simp only [InR, List.length_map]; omega) ?_ | refine i_add rfl rfl (by simp only [InR, List.length_map]; omega) ?_ | refine i_sub rfl rfl (by simp only [InR, List.length_map]; omega) ?_ | refine i_ixm rfl rfl (by assumption) ?_ | refine i_iai rfl rfl (by omega) (by assumption) rfl ?_ | refine i_iam rfl rfl (by assumption) rfl ?_ | refine i_tk rfl rfl (by omega) ?_ | refine i_stb rfl ?_ | refine i_alloc rfl ?_ | refine i_box rfl rfl ?_ | refine i_nv rfl ?_ | refine c_node ?_ ?_ | refine i_g rfl (fun h => ?_) (fun h => ?_) | refine c_cond rfl (fun h => ?_) (fun h => ?_) | refine i_ix rfl rfl h0 hg ?_)
    all_goals first
      | (exfalso; have := of_decide_eq_false h; omega)
      | skip
    refine c_frzv rfl rfl ?_
    repeat (first | refine i_len rfl ?_ | refine i_s rfl ?_ | refine i_lenm rfl rfl rfl ?_ | refine c_seq ?_ | refine c_cut0 ?_ | refine c_ops ?_ | refine i_nil ?_ | refine e_seq ?_ | refine e_block ?_ | refine c_block ?_ | refine c_skip ?_ | refine c_ret ?_ | refine c_exit ?_ | refine e_exit rfl ?_ | refine i_s0 rfl ?_ | refine c_leaf ?_ | refine i_gt rfl ?_ | refine i_gf rfl ?_ | refine i_gd rfl ?_ | refine c_t rfl ?_ | refine c_f rfl ?_ | refine i_conv rfl (by simp only [InR, List.length_map]; omega) ?_ | refine i_add rfl rfl (by simp only [InR, List.length_map]; omega) ?_ | refine i_sub rfl rfl (by simp only [InR, List.length_map]; omega) ?_ | refine i_ixm rfl rfl (by assumption) ?_ | refine i_iai rfl rfl (by omega) (by assumption) rfl ?_ | refine i_iam rfl rfl (by assumption) rfl ?_ | refine i_tk rfl rfl (by omega) ?_ | refine i_stb rfl ?_ | refine i_alloc rfl ?_ | refine i_box rfl rfl ?_ | refine i_nv rfl ?_)
    refine e_ret ⟨rfl, _, rfl, rfl, rfl, rfl, ?_, rfl⟩
    refine rd_eq ?_ ?_ fun nm h => restr_mem nm h
    · rw [← hsc, List.append_nil]; rfl
    · rw [List.append_nil]; rfl
  · have hq1 := hN (d + 1) (sk u) (ns ++ nw) (by omega) hku (by simp only [List.length_append]; omega) (by omega)
    rw [List.length_append] at hq1
    have hfa := prs_facts f true (d + 1) (sk u) (ns.length + nw.length) []
    have hb1 := @prs_bad f d (ns.length + nw.length) u acc h41
    have hb2 := @prs_next f d (ns.length + nw.length) u acc h41
    generalize hqq : prs f true (d + 1) (sk u) (ns.length + nw.length) [] = q at *
    obtain ⟨f1, f2, f3, f4⟩ := hfa
    have hkul := hku.length_le
    have h0 : 0 ≤ ((t.length : Int) - (sk u).length) := by omega
    rw [show ((d + 1 : Nat) : Int) = ((d : Nat) : Int) + 1 from by omega] at hq1
    refine i_nil ?_
    refine e_seq ?_
    refine c_cut [(0, rdN), (1, .int .i64 d), (6, .sl (.own 2112385) (acc.map i64V))] ((2112385, .vec acc.length) :: rdS t (sk u) (ns ++ nw)) ⟨by repeat (first | exact trivial | refine ⟨rfl, ?_⟩), by repeat (first | exact trivial | refine ⟨rfl, ?_⟩), rfl⟩ ?_
    generalize hsu : sk u = v at *
    rcases v with _ | ⟨c, r⟩
    · repeat' (first | refine i_len rfl ?_ | refine i_s rfl ?_ | refine i_lenm rfl rfl rfl ?_ | refine c_seq ?_ | refine c_cut0 ?_ | refine c_ops ?_ | refine i_nil ?_ | refine e_seq ?_ | refine e_block ?_ | refine c_block ?_ | refine c_skip ?_ | refine c_ret ?_ | refine c_exit ?_ | refine e_exit rfl ?_ | refine i_s0 rfl ?_ | refine c_leaf ?_ | refine i_gt rfl ?_ | refine i_gf rfl ?_ | refine i_gd rfl ?_ | refine c_t rfl ?_ | refine c_f rfl ?_ | refine i_conv rfl (by simp only [InR, List.length_map]; omega) ?_ | refine i_add rfl rfl (by simp only [InR, List.length_map]; omega) ?_ | refine i_sub rfl rfl (by simp only [InR, List.length_map]; omega) ?_ | refine i_ixm rfl rfl (by assumption) ?_ | refine i_iai rfl rfl (by omega) (by assumption) rfl ?_ | refine i_iam rfl rfl (by assumption) rfl ?_ | refine i_tk rfl rfl (by omega) ?_ | refine i_stb rfl ?_ | refine i_alloc rfl ?_ | refine i_box rfl rfl ?_ | refine i_nv rfl ?_ | refine c_node ?_ ?_ | refine i_g rfl (fun h => ?_) (fun h => ?_) | refine c_cond rfl (fun h => ?_) (fun h => ?_))
      all_goals first
        | (exfalso; have := of_decide_eq_true h; simp at this; done)
        | skip
      refine i_c rfl rfl rfl (hq1 _ (rd_eq rfl rfl fun nm h => restr_mem nm h) g) ?_
      rintro _ _ g ⟨rfl, rfl, rfl⟩
      by_cases hz : q.code = 0
      · have f5 := f4 hz
        have hb3 := hb2 hz (by omega)
        rw [hb3]
        clear hb1 hb2 hb3 hN
        unfold ndR
        rw [if_pos hz, hz]
        repeat (first | refine i_len rfl ?_ | refine i_s rfl ?_ | refine i_lenm rfl rfl rfl ?_ | refine c_seq ?_ | refine c_cut0 ?_ | refine c_ops ?_ | refine i_nil ?_ | refine e_seq ?_ | refine e_block ?_ | refine c_block ?_ | refine c_skip ?_ | refine c_ret ?_ | refine c_exit ?_ | refine e_exit rfl ?_ | refine i_s0 rfl ?_ | refine c_leaf ?_ | refine i_gt rfl ?_ | refine i_gf rfl ?_ | refine i_gd rfl ?_ | refine c_t rfl ?_ | refine c_f rfl ?_ | refine i_conv rfl (by simp only [InR, List.length_map]; omega) ?_ | refine i_add rfl rfl (by simp only [InR, List.length_map]; omega) ?_ | refine i_sub rfl rfl (by simp only [InR, List.length_map]; omega) ?_ | refine i_ixm rfl rfl (by assumption) ?_ | refine i_iai rfl rfl (by omega) (by assumption) rfl ?_ | refine i_iam rfl rfl (by assumption) rfl ?_ | refine i_tk rfl rfl (by omega) ?_ | refine i_stb rfl ?_ | refine i_alloc rfl ?_ | refine i_box rfl rfl ?_ | refine i_nv rfl ?_)
        refine i_appM rfl rfl rfl rfl rfl (by omega) (by omega) ?_
        repeat (first | refine i_len rfl ?_ | refine i_s rfl ?_ | refine i_lenm rfl rfl rfl ?_ | refine c_seq ?_ | refine c_cut0 ?_ | refine c_ops ?_ | refine i_nil ?_ | refine e_seq ?_ | refine e_block ?_ | refine c_block ?_ | refine c_skip ?_ | refine c_ret ?_ | refine c_exit ?_ | refine e_exit rfl ?_ | refine i_s0 rfl ?_ | refine c_leaf ?_ | refine i_gt rfl ?_ | refine i_gf rfl ?_ | refine i_gd rfl ?_ | refine c_t rfl ?_ | refine c_f rfl ?_ | refine i_conv rfl (by simp only [InR, List.length_map]; omega) ?_ | refine i_add rfl rfl (by simp only [InR, List.length_map]; omega) ?_ | refine i_sub rfl rfl (by simp only [InR, List.length_map]; omega) ?_ | refine i_ixm rfl rfl (by assumption) ?_ | refine i_iai rfl rfl (by omega) (by assumption) rfl ?_ | refine i_iam rfl rfl (by assumption) rfl ?_ | refine i_tk rfl rfl (by omega) ?_ | refine i_stb rfl ?_ | refine i_alloc rfl ?_ | refine i_box rfl rfl ?_ | refine i_nv rfl ?_)
        refine e_lp (q.rest, nw ++ q.new, acc ++ [((ns.length + nw.length + q.new.length : Nat) : Int) - 1]) ⟨f1.trans hku, by simp only; omega, by simp only [List.length_append]; omega, by simp only [List.length_append, List.length_singleton]; omega, ?_⟩ (by simp only; omega) ⟨⟨rfl, rfl, rfl, trivial⟩, ⟨?_, ?_, ?_, trivial⟩, rfl⟩
        · simp only [List.length_append, ← Nat.add_assoc, List.append_assoc]
        · simp only [List.length_append, List.length_singleton]; rfl
        · rw [← List.append_assoc]; rfl
        · rw [← List.append_assoc]; rfl
      · rw [hb1 hz]
        clear hb1 hb2 hN
        unfold ndR
        rw [if_neg hz]
        repeat' (first | refine i_len rfl ?_ | refine i_s rfl ?_ | refine i_lenm rfl rfl rfl ?_ | refine c_seq ?_ | refine c_cut0 ?_ | refine c_ops ?_ | refine i_nil ?_ | refine e_seq ?_ | refine e_block ?_ | refine c_block ?_ | refine c_skip ?_ | refine c_ret ?_ | refine c_exit ?_ | refine e_exit rfl ?_ | refine i_s0 rfl ?_ | refine c_leaf ?_ | refine i_gt rfl ?_ | refine i_gf rfl ?_ | refine i_gd rfl ?_ | refine c_t rfl ?_ | refine c_f rfl ?_ | refine i_conv rfl (by simp only [InR, List.length_map]; omega) ?_ | refine i_add rfl rfl (by simp only [InR, List.length_map]; omega) ?_ | refine i_sub rfl rfl (by simp only [InR, List.length_map]; omega) ?_ | refine i_ixm rfl rfl (by assumption) ?_ | refine i_iai rfl rfl (by omega) (by assumption) rfl ?_ | refine i_iam rfl rfl (by assumption) rfl ?_ | refine i_tk rfl rfl (by omega) ?_ | refine i_stb rfl ?_ | refine i_alloc rfl ?_ | refine i_box rfl rfl ?_ | refine i_nv rfl ?_ | refine c_node ?_ ?_ | refine i_g rfl (fun h => ?_) (fun h => ?_) | refine c_cond rfl (fun h => ?_) (fun h => ?_))
        all_goals first
          | (exfalso; exact hz (by simpa using h))
          | skip
        refine e_ret ⟨rfl, _, rfl, rfl, rfl, ?_, ?_, rfl⟩
        · unfold lsR; rw [if_neg hz]; rfl
        · rw [← List.append_assoc]
          exact rd_eq rfl rfl fun nm h => restr_mem nm h
    · have hc41 : ¬ ((c.toNat : Int) = 41) := fun e => h41 (by
        have : c = 41 := UInt8.toNat_inj.1 (by have : c.toNat = 41 := by omega
                                               rw [this]; rfl)
        rw [this]; rfl)
      have hg := suf_get hku rfl
      repeat' (first | refine i_len rfl ?_ | refine i_s rfl ?_ | refine i_lenm rfl rfl rfl ?_ | refine c_seq ?_ | refine c_cut0 ?_ | refine c_ops ?_ | refine i_nil ?_ | refine e_seq ?_ | refine e_block ?_ | refine c_block ?_ | refine c_skip ?_ | refine c_ret ?_ | refine c_exit ?_ | refine e_exit rfl ?_ | refine i_s0 rfl ?_ | refine c_leaf ?_ | refine i_gt rfl ?_ | refine i_gf rfl ?_ | refine i_gd rfl ?_ | refine c_t rfl ?_ | refine c_f rfl ?_ | refine i_conv rfl (by simp only [InR, List.length_map]; omega) ?_ | refine i_add rfl rfl (by simp only [InR, List.length_map]; omega) ?_ | refine i_sub rfl rfl (by simp only [InR, List.length_map]; omega) ?_ | refine i_ixm rfl rfl (by assumption) ?_ | refine i_iai rfl rfl (by omega) (by assumption) rfl ?_ | refine i_iam rfl rfl (by assumption) rfl ?_ | refine i_tk rfl rfl (by omega) ?_ | refine i_stb rfl ?_ | refine i_alloc rfl ?_ | refine i_box rfl rfl ?_ | refine i_nv rfl ?_ | refine c_node ?_ ?_ | refine i_g rfl (fun h => ?_) (fun h => ?_) | refine c_cond rfl (fun h => ?_) (fun h => ?_) | refine i_ix rfl rfl h0 hg ?_)
      all_goals first
        | (exfalso; exact hc41 (by simpa using h))
        | (exfalso; have := of_decide_eq_false h; simp only [List.length_cons] at this hkul; omega)
        | skip
      refine i_c rfl rfl rfl (hq1 _ (rd_eq rfl rfl fun nm h => restr_mem nm h) g) ?_
      rintro _ _ g ⟨rfl, rfl, rfl⟩
      by_cases hz : q.code = 0
      · have f5 := f4 hz
        have hb3 := hb2 hz (by omega)
        rw [hb3]
        clear hb1 hb2 hb3 hN
        unfold ndR
        rw [if_pos hz, hz]
        repeat (first | refine i_len rfl ?_ | refine i_s rfl ?_ | refine i_lenm rfl rfl rfl ?_ | refine c_seq ?_ | refine c_cut0 ?_ | refine c_ops ?_ | refine i_nil ?_ | refine e_seq ?_ | refine e_block ?_ | refine c_block ?_ | refine c_skip ?_ | refine c_ret ?_ | refine c_exit ?_ | refine e_exit rfl ?_ | refine i_s0 rfl ?_ | refine c_leaf ?_ | refine i_gt rfl ?_ | refine i_gf rfl ?_ | refine i_gd rfl ?_ | refine c_t rfl ?_ | refine c_f rfl ?_ | refine i_conv rfl (by simp only [InR, List.length_map]; omega) ?_ | refine i_add rfl rfl (by simp only [InR, List.length_map]; omega) ?_ | refine i_sub rfl rfl (by simp only [InR, List.length_map]; omega) ?_ | refine i_ixm rfl rfl (by assumption) ?_ | refine i_iai rfl rfl (by omega) (by assumption) rfl ?_ | refine i_iam rfl rfl (by assumption) rfl ?_ | refine i_tk rfl rfl (by omega) ?_ | refine i_stb rfl ?_ | refine i_alloc rfl ?_ | refine i_box rfl rfl ?_ | refine i_nv rfl ?_)
        refine i_appM rfl rfl rfl rfl rfl (by omega) (by omega) ?_
        repeat (first | refine i_len rfl ?_ | refine i_s rfl ?_ | refine i_lenm rfl rfl rfl ?_ | refine c_seq ?_ | refine c_cut0 ?_ | refine c_ops ?_ | refine i_nil ?_ | refine e_seq ?_ | refine e_block ?_ | refine c_block ?_ | refine c_skip ?_ | refine c_ret ?_ | refine c_exit ?_ | refine e_exit rfl ?_ | refine i_s0 rfl ?_ | refine c_leaf ?_ | refine i_gt rfl ?_ | refine i_gf rfl ?_ | refine i_gd rfl ?_ | refine c_t rfl ?_ | refine c_f rfl ?_ | refine i_conv rfl (by simp only [InR, List.length_map]; omega) ?_ | refine i_add rfl rfl (by simp only [InR, List.length_map]; omega) ?_ | refine i_sub rfl rfl (by simp only [InR, List.length_map]; omega) ?_ | refine i_ixm rfl rfl (by assumption) ?_ | refine i_iai rfl rfl (by omega) (by assumption) rfl ?_ | refine i_iam rfl rfl (by assumption) rfl ?_ | refine i_tk rfl rfl (by omega) ?_ | refine i_stb rfl ?_ | refine i_alloc rfl ?_ | refine i_box rfl rfl ?_ | refine i_nv rfl ?_)
        refine e_lp (q.rest, nw ++ q.new, acc ++ [((ns.length + nw.length + q.new.length : Nat) : Int) - 1]) ⟨f1.trans hku, by simp only; omega, by simp only [List.length_append]; omega, by simp only [List.length_append, List.length_singleton]; omega, ?_⟩ (by simp only; omega) ⟨⟨rfl, rfl, rfl, trivial⟩, ⟨?_, ?_, ?_, trivial⟩, rfl⟩
        · simp only [List.length_append, ← Nat.add_assoc, List.append_assoc]
        · simp only [List.length_append, List.length_singleton]; rfl
        · rw [← List.append_assoc]; rfl
        · rw [← List.append_assoc]; rfl
      · rw [hb1 hz]
        clear hb1 hb2 hN
        unfold ndR
        rw [if_neg hz]
        repeat' (first | refine i_len rfl ?_ | refine i_s rfl ?_ | refine i_lenm rfl rfl rfl ?_ | refine c_seq ?_ | refine c_cut0 ?_ | refine c_ops ?_ | refine i_nil ?_ | refine e_seq ?_ | refine e_block ?_ | refine c_block ?_ | refine c_skip ?_ | refine c_ret ?_ | refine c_exit ?_ | refine e_exit rfl ?_ | refine i_s0 rfl ?_ | refine c_leaf ?_ | refine i_gt rfl ?_ | refine i_gf rfl ?_ | refine i_gd rfl ?_ | refine c_t rfl ?_ | refine c_f rfl ?_ | refine i_conv rfl (by simp only [InR, List.length_map]; omega) ?_ | refine i_add rfl rfl (by simp only [InR, List.length_map]; omega) ?_ | refine i_sub rfl rfl (by simp only [InR, List.length_map]; omega) ?_ | refine i_ixm rfl rfl (by assumption) ?_ | refine i_iai rfl rfl (by omega) (by assumption) rfl ?_ | refine i_iam rfl rfl (by assumption) rfl ?_ | refine i_tk rfl rfl (by omega) ?_ | refine i_stb rfl ?_ | refine i_alloc rfl ?_ | refine i_box rfl rfl ?_ | refine i_nv rfl ?_ | refine c_node ?_ ?_ | refine i_g rfl (fun h => ?_) (fun h => ?_) | refine c_cond rfl (fun h => ?_) (fun h => ?_))
        all_goals first
          | (exfalso; exact hz (by simpa using h))
          | skip
        refine e_ret ⟨rfl, _, rfl, rfl, rfl, ?_, ?_, rfl⟩
        · unfold lsR; rw [if_neg hz]; rfl
        · rw [← List.append_assoc]
          exact rd_eq rfl rfl fun nm h => restr_mem nm h
end Hm
end

section
/- Contracts: the reader: nodes; all patience. -/
namespace Hm
open Go
set_option maxRecDepth 100000
set_option maxHeartbeats 4000000
set_option linter.unusedSimpArgs false
set_option linter.unusedVariables false
section
variable {f d b : Nat} {s r : List UInt8} {c : UInt8} {acc : List Int}
theorem prs_nil (h : sk s = []) : prs (f + 1) true d s b acc = ⟨[], [], [], 1⟩ := by simp only [prs, h]
theorem prs_syn (h : sk s = c :: r) (h1 : c ≠ 40) (h2 : symB c = false) : prs (f + 1) true d s b acc = ⟨c :: r, [], [], 1⟩ := by simp only [prs, h]; rw [if_pos ⟨h1, h2⟩]
theorem prs_deep (h : sk s = c :: r) (h1 : ¬ (c ≠ 40 ∧ symB c = false)) (h2 : d = 12) : prs (f + 1) true d s b acc = ⟨c :: r, [], [], 10⟩ := by simp only [prs, h]; rw [if_neg h1, if_pos h2]
theorem prs_long (h : sk s = c :: r) (h1 : c ≠ 40) (h3 : symB c = true) (h2 : d ≠ 12) (h4 : ((c :: r).takeWhile symB).length > 12) : prs (f + 1) true d s b acc = ⟨c :: r, [], [], 1⟩ := by
  simp only [prs, h]; rw [if_neg (by simp [h3]), if_neg h2, if_pos h1, if_pos h4]
theorem prs_sym (h : sk s = c :: r) (h1 : c ≠ 40) (h3 : symB c = true) (h2 : d ≠ 12) (h4 : ¬ ((c :: r).takeWhile symB).length > 12) : prs (f + 1) true d s b acc = ⟨(c :: r).dropWhile symB, [⟨(c :: r).takeWhile symB, []⟩], [], 0⟩ := by
  simp only [prs, h]; rw [if_neg (by simp [h3]), if_neg h2, if_pos h1, if_neg h4]
theorem prs_lbad (h : sk s = 40 :: r) (h2 : d ≠ 12) (h4 : (prs f false d r b []).code ≠ 0) : prs (f + 1) true d s b acc = ⟨(prs f false d r b []).rest, (prs f false d r b []).new, [], (prs f false d r b []).code⟩ := by
  simp only [prs, h]; rw [if_neg (by simp), if_neg h2, if_neg (by simp), if_pos h4]
theorem prs_lst (h : sk s = 40 :: r) (h2 : d ≠ 12) (h4 : (prs f false d r b []).code = 0) : prs (f + 1) true d s b acc = ⟨(prs f false d r b []).rest, (prs f false d r b []).new ++ [⟨[], (prs f false d r b []).ch⟩], [], 0⟩ := by
  simp only [prs, h]; rw [if_neg (by simp), if_neg h2, if_neg (by simp), if_neg (by simp [h4])]
end
def c_sexpr_reader_node : Cmd :=
  (.seq
   (.ops [
   .op (some 4) none (.mov (.c (.int .i64 (0)))),
   .op (some 5) none (.mov (.c (.int .i64 (0))))])
   (.cut
   (.seq
   (.ops [
   .op (some 10) none (.mov (.t 0)),
   .op (some 11) none (.call (.s [832259,834690]) (.c (.fn 28 [])) [.t 10])])
   (.cut
   (.seq
   (.block 0
   (.seq
   (.ops [
   .op (some 13) none (.mov (.t 0)),
   .op (some 14) none (.nilck (.t 13)),
   .op (some 15) none (.faddr 1 (.t 14)),
   .op (some 16) none (.load false 1 (.t 15)),
   .op (some 17) none (.mov (.t 0)),
   .op (some 18) none (.nilck (.t 17)),
   .op (some 19) none (.faddr 0 (.t 18)),
   .op (some 20) none (.load false 1 (.t 19)),
   .op (some 21) none (.len true (.t 20)),
   .op (some 22) none (.bin .eql false [.i] (.t 16) (.t 21)),
   .op (some 23) none (.mov (.t 22)),
   .op (some 24) (some (23, false)) (.mov (.t 0)),
   .op (some 25) (some (23, false)) (.nilck (.t 24)),
   .op (some 26) (some (23, false)) (.faddr 0 (.t 25)),
   .op (some 27) (some (23, false)) (.load false 1 (.t 26)),
   .op (some 28) (some (23, false)) (.mov (.t 0)),
   .op (some 29) (some (23, false)) (.nilck (.t 28)),
   .op (some 30) (some (23, false)) (.faddr 1 (.t 29)),
   .op (some 31) (some (23, false)) (.load false 1 (.t 30)),
   .op (some 32) (some (23, false)) (.index (.t 27) (.t 31)),
   .op (some 33) (some (23, false)) (.bin .neq false [.i] (.t 32) (.c (.int .u8 (40)))),
   .op (some 34) (some (23, false)) (.mov (.t 33)),
   .op (some 35) (some (34, true)) (.mov (.t 0)),
   .op (some 36) (some (34, true)) (.nilck (.t 35)),
   .op (some 37) (some (34, true)) (.faddr 0 (.t 36)),
   .op (some 38) (some (34, true)) (.load false 1 (.t 37)),
   .op (some 39) (some (34, true)) (.mov (.t 0)),
   .op (some 40) (some (34, true)) (.nilck (.t 39)),
   .op (some 41) (some (34, true)) (.faddr 1 (.t 40)),
   .op (some 42) (some (34, true)) (.load false 1 (.t 41)),
   .op (some 43) (some (34, true)) (.index (.t 38) (.t 42)),
   .op (some 44) (some (34, true)) (.call .f (.c (.fn 32 [])) [.t 43]),
   .op (some 45) (some (34, true)) (.not (.t 44)),
   .op (some 46) (some (23, false)) (.pick (.t 34) (.t 45) (.c (.bool false))),
   .op (some 47) none (.pick (.t 23) (.c (.bool true)) (.t 46)),
   .op (some 12) none (.mov (.t 47))])
   (.cut
   (.cond (.t 12)
   (.seq
   (.ops [
   .op (some 4) none (.mov (.c (.int .i64 (0)))),
   .op (some 5) none (.mov (.c (.int .i64 (1))))])
   .ret)
   (.seq
   (.ops [
   .op (some 49) none (.mov (.t 1)),
   .op (some 50) none (.bin .eql false [.i] (.t 49) (.c (.int .i64 (12)))),
   .op (some 48) none (.mov (.t 50))])
   (.cut
   (.cond (.t 48)
   (.seq
   (.ops [
   .op (some 4) none (.mov (.c (.int .i64 (0)))),
   .op (some 5) none (.mov (.c (.int .i64 (10))))])
   .ret)
   .skip)))))))
   (.cut
   (.seq
   (.ops [
   .op (some 6) none (.alloc 1728386 (.agg [.str [], .sl .p []]))])
   (.cut
   (.seq
   (.ops [
   .op (some 51) none (.mov (.t 0)),
   .op (some 52) none (.nilck (.t 51)),
   .op (some 53) none (.faddr 1 (.t 52)),
   .op (some 54) none (.load false 1 (.t 53)),
   .op (some 7) none (.mov (.t 54))])
   (.cut
   (.seq
   (.seq
   (.ops [
   .op (some 55) none (.mov (.t 0)),
   .op (some 56) none (.nilck (.t 55)),
   .op (some 57) none (.faddr 0 (.t 56)),
   .op (some 58) none (.load false 1 (.t 57)),
   .op (some 59) none (.mov (.t 0)),
   .op (some 60) none (.nilck (.t 59)),
   .op (some 61) none (.faddr 1 (.t 60)),
   .op (some 62) none (.load false 1 (.t 61)),
   .op (some 63) none (.index (.t 58) (.t 62)),
   .op (some 64) none (.bin .neq false [.i] (.t 63) (.c (.int .u8 (40))))])
   (.cut
   (.cond (.t 64)
   (.seq
   (.block 1
   (.loop
   (.seq
   (.seq
   (.ops [
   .op (some 65) none (.mov (.t 0)),
   .op (some 66) none (.nilck (.t 65)),
   .op (some 67) none (.faddr 1 (.t 66)),
   .op (some 68) none (.load false 1 (.t 67)),
   .op (some 69) none (.mov (.t 0)),
   .op (some 70) none (.nilck (.t 69)),
   .op (some 71) none (.faddr 0 (.t 70)),
   .op (some 72) none (.load false 1 (.t 71)),
   .op (some 73) none (.len true (.t 72)),
   .op (some 74) none (.bin .lss false [] (.t 68) (.t 73)),
   .op (some 75) none (.mov (.t 74)),
   .op (some 76) (some (75, true)) (.mov (.t 0)),
   .op (some 77) (some (75, true)) (.nilck (.t 76)),
   .op (some 78) (some (75, true)) (.faddr 0 (.t 77)),
   .op (some 79) (some (75, true)) (.load false 1 (.t 78)),
   .op (some 80) (some (75, true)) (.mov (.t 0)),
   .op (some 81) (some (75, true)) (.nilck (.t 80)),
   .op (some 82) (some (75, true)) (.faddr 1 (.t 81)),
   .op (some 83) (some (75, true)) (.load false 1 (.t 82)),
   .op (some 84) (some (75, true)) (.index (.t 79) (.t 83)),
   .op (some 85) (some (75, true)) (.call .f (.c (.fn 32 [])) [.t 84]),
   .op (some 86) none (.pick (.t 75) (.t 85) (.c (.bool false)))])
   (.cut
   (.cond (.t 86)
   .skip
   (.exit 1))))
   (.cut
   (.block 2
   (.ops [
   .op (some 87) none (.mov (.t 0)),
   .op (some 88) none (.nilck (.t 87)),
   .op (some 89) none (.faddr 1 (.t 88)),
   .op (some 90) none (.load false 1 (.t 89)),
   .op (some 91) none (.bin .add false [] (.t 90) (.c (.int .i64 (1)))),
   .op (some 92) none (.nilck (.t 87)),
   .op (some 93) none (.faddr 1 (.t 92)),
   .op none none (.store 1 (.t 93) (.t 91))]))))))
   (.cut
   (.seq
   (.ops [
   .op (some 94) none (.mov (.t 0)),
   .op (some 95) none (.nilck (.t 94)),
   .op (some 96) none (.faddr 0 (.t 95)),
   .op (some 97) none (.load false 1 (.t 96)),
   .op (some 98) none (.mov (.t 7)),
   .op (some 99) none (.mov (.t 0)),
   .op (some 100) none (.nilck (.t 99)),
   .op (some 101) none (.faddr 1 (.t 100)),
   .op (some 102) none (.load false 1 (.t 101)),
   .op (some 103) none (.slice true 1 (.t 97) (some (.t 98)) (some (.t 102))),
   .op (some 104) none (.faddr 0 (.t 6)),
   .op none none (.store 1 (.t 104) (.t 103))])
   (.cut
   (.seq
   (.ops [
   .op (some 105) none (.faddr 0 (.t 6)),
   .op (some 106) none (.load false 1 (.t 105)),
   .op (some 107) none (.len true (.t 106)),
   .op (some 108) none (.bin .gtr false [] (.t 107) (.c (.int .i64 (12))))])
   (.cut
   (.cond (.t 108)
   (.seq
   (.ops [
   .op (some 109) none (.mov (.t 0)),
   .op (some 110) none (.mov (.t 7)),
   .op (some 111) none (.nilck (.t 109)),
   .op (some 112) none (.faddr 1 (.t 111)),
   .op none none (.store 1 (.t 112) (.t 110))])
   (.cut
   (.seq
   (.ops [
   .op (some 4) none (.mov (.c (.int .i64 (0)))),
   .op (some 5) none (.mov (.c (.int .i64 (1))))])
   .ret)))
   .skip)))))))
   (.seq
   (.ops [
   .op (some 114) none (.mov (.t 0)),
   .op (some 115) none (.mov (.t 1)),
   .op (some 116) none (.call (.s [832259,834690]) (.c (.fn 33 [])) [.t 114, .t 115]),
   .op (some 113) none (.mov (.t 116)),
   .op (some 117) none (.extract (.t 113) 0),
   .op (some 118) none (.extract (.t 113) 1),
   .op (some 8) none (.mov (.t 117)),
   .op (some 9) none (.mov (.t 118))])
   (.cut
   (.seq
   (.seq
   (.ops [
   .op (some 119) none (.mov (.t 9)),
   .op (some 120) none (.bin .neq false [.i] (.t 119) (.c (.int .i64 (0))))])
   (.cut
   (.cond (.t 120)
   (.seq
   (.ops [
   .op (some 121) none (.mov (.t 9)),
   .op (some 4) none (.mov (.c (.int .i64 (0)))),
   .op (some 5) none (.mov (.t 121))])
   .ret)
   .skip)))
   (.cut
   (.ops [
   .op (some 122) none (.mov (.t 8)),
   .op (some 123) none (.faddr 1 (.t 6)),
   .op none none (.store 1 (.t 123) (.t 122))]))))))))
   (.cut
   (.seq
   (.ops [
   .op (some 124) none (.mov (.t 0)),
   .op (some 125) none (.mov (.t 0)),
   .op (some 126) none (.nilck (.t 125)),
   .op (some 127) none (.faddr 2 (.t 126)),
   .op (some 128) none (.load false 1 (.t 127)),
   .op (some 129) none (.load true 2 (.t 6)),
   .op (some 130) none (.bsl 2 [.t 129]),
   .op (some 131) none (.append 2 40 37 (.t 128) (.t 130)),
   .op (some 132) none (.nilck (.t 124)),
   .op (some 133) none (.faddr 2 (.t 132)),
   .op none none (.store 1 (.t 133) (.t 131))])
   (.cut
   (.seq
   (.ops [
   .op (some 134) none (.mov (.t 0)),
   .op (some 135) none (.nilck (.t 134)),
   .op (some 136) none (.faddr 2 (.t 135)),
   .op (some 137) none (.load false 1 (.t 136)),
   .op (some 138) none (.len false (.t 137)),
   .op (some 139) none (.bin .sub false [] (.t 138) (.c (.int .i64 (1)))),
   .op (some 4) none (.mov (.t 139)),
   .op (some 5) none (.mov (.c (.int .i64 (0))))])
   .ret)))))))))))))))
def r_sexpr_reader_node : List RVar := [.tmp 4, .tmp 5]
def n_sexpr_reader_node : Nat := 140
theorem k_sexpr_reader_node : chkFn Go.Proofs.Try.prog 27 n_sexpr_reader_node r_sexpr_reader_node c_sexpr_reader_node = true := by kernel_rfl
theorem ct_node {G : Type} {H : HT G} (t : List UInt8) (ht : t.length ≤ 100000) (f : Nat) (hL : ListC H t f) : NodeC H t (f + 1) := by
  intro d s ns hd hs hb hf σ hσ g
  subst hσ
  have hsl := hs.length_le
  have hkl := (sk_suf s).length_le
  have hku := (sk_suf s).trans hs
  refine CT.step _ mixed k_sexpr_reader_node (fun nm h => stOf_mem (rdS t s ns) nm h) fun hM => ?_
  repeat (first | refine i_len rfl ?_ | refine i_s rfl ?_ | refine i_lenm rfl rfl rfl ?_ | refine c_seq ?_ | refine c_cut0 ?_ | refine c_ops ?_ | refine i_nil ?_ | refine e_seq ?_ | refine e_block ?_ | refine c_block ?_ | refine c_skip ?_ | refine c_ret ?_ | refine c_exit ?_ | refine e_exit rfl ?_ | refine i_s0 rfl ?_ | refine c_leaf ?_ | refine i_gt rfl ?_ | refine i_gf rfl ?_ | refine i_gd rfl ?_ | refine c_t rfl ?_ | refine c_f rfl ?_ | refine i_conv rfl (by simp only [InR, List.length_map]; omega) ?_ | refine i_add rfl rfl (by simp only [InR, List.length_map]; omega) ?_ | refine i_sub rfl rfl (by simp only [InR, List.length_map]; omega) ?_ | refine i_ixm rfl rfl (by assumption) ?_ | refine i_iai rfl rfl (by omega) (by assumption) rfl ?_ | refine i_iam rfl rfl (by assumption) rfl ?_ | refine i_tk rfl rfl (by omega) ?_ | refine i_stb rfl ?_ | refine i_alloc rfl ?_ | refine i_box rfl rfl ?_ | refine i_nv rfl ?_)
  refine i_c rfl rfl rfl (ct_blanks t s ns ht hs _ (rd_eq rfl rfl fun nm h => restr_mem nm h) g) ?_
  rintro _ _ g ⟨rfl, rfl, rfl⟩
  refine i_nil ?_
  refine e_seq ?_
  refine c_cut [(0, rdN), (1, .int .i64 d), (4, .int .i64 0), (5, .int .i64 0)] (rdS t (sk s) ns) ⟨by repeat (first | exact trivial | refine ⟨rfl, ?_⟩), by repeat (first | exact trivial | refine ⟨rfl, ?_⟩), rfl⟩ ?_
  cases hsk : sk s with
  | nil =>
    rw [prs_nil hsk]
    clear hL
    repeat' (first | refine i_len rfl ?_ | refine i_s rfl ?_ | refine i_lenm rfl rfl rfl ?_ | refine c_seq ?_ | refine c_cut0 ?_ | refine c_ops ?_ | refine i_nil ?_ | refine e_seq ?_ | refine e_block ?_ | refine c_block ?_ | refine c_skip ?_ | refine c_ret ?_ | refine c_exit ?_ | refine e_exit rfl ?_ | refine i_s0 rfl ?_ | refine c_leaf ?_ | refine i_gt rfl ?_ | refine i_gf rfl ?_ | refine i_gd rfl ?_ | refine c_t rfl ?_ | refine c_f rfl ?_ | refine i_conv rfl (by simp only [InR, List.length_map]; omega) ?_ | refine i_add rfl rfl (by simp only [InR, List.length_map]; omega) ?_ | refine i_sub rfl rfl (by simp only [InR, List.length_map]; omega) ?_ | refine i_ixm rfl rfl (by assumption) ?_ | refine i_iai rfl rfl (by omega) (by assumption) rfl ?_ | refine i_iam rfl rfl (by assumption) rfl ?_ | refine i_tk rfl rfl (by omega) ?_ | refine i_stb rfl ?_ | refine i_alloc rfl ?_ | refine i_box rfl rfl ?_ | refine i_nv rfl ?_ | refine c_node ?_ ?_ | refine i_g rfl (fun h => ?_) (fun h => ?_) | refine c_cond rfl (fun h => ?_) (fun h => ?_))
    all_goals first
      | (exfalso; simp at h; done)
      | skip
    refine e_ret ⟨rfl, _, rfl, rfl, rfl, rfl, ?_, rfl⟩
    rw [List.append_nil]
    exact rd_eq rfl rfl fun nm h => restr_mem nm h
  | cons c r =>
    rw [hsk] at hkl hku
    have hg := suf_get hku rfl
    have hkul := hku.length_le
    have h0 : 0 ≤ ((t.length : Int) - (c :: r).length) := by omega
    have hne : ¬ ((t.length : Int) - (c :: r).length) = t.length := by simp only [List.length_cons]; omega
    have hF := f_sexpr_isSymbolByte c
    by_cases h40 : c = 40
    · subst h40
      by_cases hd12 : d = 12
      · rw [prs_deep hsk (by simp) hd12]
        subst hd12
        clear hL
        repeat' (first | refine i_len rfl ?_ | refine i_s rfl ?_ | refine i_lenm rfl rfl rfl ?_ | refine c_seq ?_ | refine c_cut0 ?_ | refine c_ops ?_ | refine i_nil ?_ | refine e_seq ?_ | refine e_block ?_ | refine c_block ?_ | refine c_skip ?_ | refine c_ret ?_ | refine c_exit ?_ | refine e_exit rfl ?_ | refine i_s0 rfl ?_ | refine c_leaf ?_ | refine i_gt rfl ?_ | refine i_gf rfl ?_ | refine i_gd rfl ?_ | refine c_t rfl ?_ | refine c_f rfl ?_ | refine i_conv rfl (by simp only [InR, List.length_map]; omega) ?_ | refine i_add rfl rfl (by simp only [InR, List.length_map]; omega) ?_ | refine i_sub rfl rfl (by simp only [InR, List.length_map]; omega) ?_ | refine i_ixm rfl rfl (by assumption) ?_ | refine i_iai rfl rfl (by omega) (by assumption) rfl ?_ | refine i_iam rfl rfl (by assumption) rfl ?_ | refine i_tk rfl rfl (by omega) ?_ | refine i_stb rfl ?_ | refine i_alloc rfl ?_ | refine i_box rfl rfl ?_ | refine i_nv rfl ?_ | refine c_node ?_ ?_ | refine i_g rfl (fun h => ?_) (fun h => ?_) | refine c_cond rfl (fun h => ?_) (fun h => ?_) | refine i_f rfl rfl (hF) rfl ?_ | refine i_ix rfl rfl h0 hg ?_)
        all_goals first
          | (exfalso; exact hne (by simpa using h))
          | skip
        refine e_ret ⟨rfl, _, rfl, rfl, rfl, rfl, ?_, rfl⟩
        rw [List.append_nil]
        exact rd_eq rfl rfl fun nm h => restr_mem nm h
      · have hq1 := hL d r ns (by omega) hku (by simp only [List.length_cons] at hkl; omega) (by simp only [List.length_cons] at hkl; omega)
        have hb1 := @prs_lbad f d ns.length s r [] hsk hd12
        have hb2 := @prs_lst f d ns.length s r [] hsk hd12
        have hfa := prs_facts f false d r ns.length []
        generalize hqq : prs f false d r ns.length [] = q at *
        obtain ⟨f1, f2, f3, f4⟩ := hfa
        have hd12' : ¬ (d : Int) = 12 := by omega
        repeat' (first | refine i_len rfl ?_ | refine i_s rfl ?_ | refine i_lenm rfl rfl rfl ?_ | refine c_seq ?_ | refine c_cut0 ?_ | refine c_ops ?_ | refine i_nil ?_ | refine e_seq ?_ | refine e_block ?_ | refine c_block ?_ | refine c_skip ?_ | refine c_ret ?_ | refine c_exit ?_ | refine e_exit rfl ?_ | refine i_s0 rfl ?_ | refine c_leaf ?_ | refine i_gt rfl ?_ | refine i_gf rfl ?_ | refine i_gd rfl ?_ | refine c_t rfl ?_ | refine c_f rfl ?_ | refine i_conv rfl (by simp only [InR, List.length_map]; omega) ?_ | refine i_add rfl rfl (by simp only [InR, List.length_map]; omega) ?_ | refine i_sub rfl rfl (by simp only [InR, List.length_map]; omega) ?_ | refine i_ixm rfl rfl (by assumption) ?_ | refine i_iai rfl rfl (by omega) (by assumption) rfl ?_ | refine i_iam rfl rfl (by assumption) rfl ?_ | refine i_tk rfl rfl (by omega) ?_ | refine i_stb rfl ?_ | refine i_alloc rfl ?_ | refine i_box rfl rfl ?_ | refine i_nv rfl ?_ | refine c_node ?_ ?_ | refine i_g rfl (fun h => ?_) (fun h => ?_) | refine c_cond rfl (fun h => ?_) (fun h => ?_) | refine i_f rfl rfl (hF) rfl ?_ | refine i_ix rfl rfl h0 hg ?_)
        all_goals first
          | (exfalso; exact hne (by simpa using h))
          | (exfalso; exact hd12' (by simpa using h))
          | (exfalso; clear hF hg hku hkul hs hq1 hb1 hb2 f1 f2 f3 f4; simp_all; done)
          | skip
        refine i_c rfl rfl rfl (hq1 _ (rd_eq rfl rfl fun nm h => restr_mem nm h) g) ?_
        rintro _ _ g ⟨rfl, rfl, rfl⟩
        simp only [List.length_cons] at hkl
        by_cases hz : q.code = 0
        · rw [hb2 hz]
          clear hb1 hb2 hL hq1
          unfold lsR
          rw [if_pos hz, hz]
          repeat (first | refine i_len rfl ?_ | refine i_s rfl ?_ | refine i_lenm rfl rfl rfl ?_ | refine c_seq ?_ | refine c_cut0 ?_ | refine c_ops ?_ | refine i_nil ?_ | refine e_seq ?_ | refine e_block ?_ | refine c_block ?_ | refine c_skip ?_ | refine c_ret ?_ | refine c_exit ?_ | refine e_exit rfl ?_ | refine i_s0 rfl ?_ | refine c_leaf ?_ | refine i_gt rfl ?_ | refine i_gf rfl ?_ | refine i_gd rfl ?_ | refine c_t rfl ?_ | refine c_f rfl ?_ | refine i_conv rfl (by simp only [InR, List.length_map]; omega) ?_ | refine i_add rfl rfl (by simp only [InR, List.length_map]; omega) ?_ | refine i_sub rfl rfl (by simp only [InR, List.length_map]; omega) ?_ | refine i_ixm rfl rfl (by assumption) ?_ | refine i_iai rfl rfl (by omega) (by assumption) rfl ?_ | refine i_iam rfl rfl (by assumption) rfl ?_ | refine i_tk rfl rfl (by omega) ?_ | refine i_stb rfl ?_ | refine i_alloc rfl ?_ | refine i_box rfl rfl ?_ | refine i_nv rfl ?_)
          have hlen : (ns ++ q.new ++ [(⟨[], q.ch⟩ : Sx)]).length ≤ 200000 := by simp only [List.length_append, List.length_singleton]; omega
          refine i_appM (c := (⟨[], q.ch⟩ : Sx)) rfl rfl rfl rfl rfl (by simp only [List.length_append]; omega) (by simp only [List.length_append]; omega) ?_
          repeat' (first | refine i_len rfl ?_ | refine i_s rfl ?_ | refine i_lenm rfl rfl rfl ?_ | refine c_seq ?_ | refine c_cut0 ?_ | refine c_ops ?_ | refine i_nil ?_ | refine e_seq ?_ | refine e_block ?_ | refine c_block ?_ | refine c_skip ?_ | refine c_ret ?_ | refine c_exit ?_ | refine e_exit rfl ?_ | refine i_s0 rfl ?_ | refine c_leaf ?_ | refine i_gt rfl ?_ | refine i_gf rfl ?_ | refine i_gd rfl ?_ | refine c_t rfl ?_ | refine c_f rfl ?_ | refine i_conv rfl (by simp only [InR, List.length_map]; omega) ?_ | refine i_add rfl rfl (by simp only [InR, List.length_map]; omega) ?_ | refine i_sub rfl rfl (by simp only [InR, List.length_map]; omega) ?_ | refine i_ixm rfl rfl (by assumption) ?_ | refine i_iai rfl rfl (by omega) (by assumption) rfl ?_ | refine i_iam rfl rfl (by assumption) rfl ?_ | refine i_tk rfl rfl (by omega) ?_ | refine i_stb rfl ?_ | refine i_alloc rfl ?_ | refine i_box rfl rfl ?_ | refine i_nv rfl ?_ | refine c_node ?_ ?_ | refine i_g rfl (fun h => ?_) (fun h => ?_) | refine c_cond rfl (fun h => ?_) (fun h => ?_))
          refine e_ret ⟨rfl, _, rfl, rfl, rfl, ?_, ?_, rfl⟩
          · unfold ndR
            rw [if_pos rfl]
            show V.tup [V.int .i64 (((ns ++ q.new ++ [(⟨[], q.ch⟩ : Sx)]).length : Int) - 1), .int .i64 0] = V.tup [V.int .i64 (((ns.length + (q.new ++ [(⟨[], q.ch⟩ : Sx)]).length : Nat) : Int) - 1), .int .i64 0]
            rw [show (ns ++ q.new ++ [(⟨[], q.ch⟩ : Sx)]).length = ns.length + (q.new ++ [(⟨[], q.ch⟩ : Sx)]).length from by simp only [List.length_append, Nat.add_assoc]]
          · rw [← List.append_assoc]
            refine rd_eq rfl ?_ fun nm h => restr_mem nm h
            simp only [List.length_append, List.length_singleton]
            rfl
        · rw [hb1 hz]
          clear hb1 hb2 hL hq1
          unfold lsR
          rw [if_neg hz]
          repeat' (first | refine i_len rfl ?_ | refine i_s rfl ?_ | refine i_lenm rfl rfl rfl ?_ | refine c_seq ?_ | refine c_cut0 ?_ | refine c_ops ?_ | refine i_nil ?_ | refine e_seq ?_ | refine e_block ?_ | refine c_block ?_ | refine c_skip ?_ | refine c_ret ?_ | refine c_exit ?_ | refine e_exit rfl ?_ | refine i_s0 rfl ?_ | refine c_leaf ?_ | refine i_gt rfl ?_ | refine i_gf rfl ?_ | refine i_gd rfl ?_ | refine c_t rfl ?_ | refine c_f rfl ?_ | refine i_conv rfl (by simp only [InR, List.length_map]; omega) ?_ | refine i_add rfl rfl (by simp only [InR, List.length_map]; omega) ?_ | refine i_sub rfl rfl (by simp only [InR, List.length_map]; omega) ?_ | refine i_ixm rfl rfl (by assumption) ?_ | refine i_iai rfl rfl (by omega) (by assumption) rfl ?_ | refine i_iam rfl rfl (by assumption) rfl ?_ | refine i_tk rfl rfl (by omega) ?_ | refine i_stb rfl ?_ | refine i_alloc rfl ?_ | refine i_box rfl rfl ?_ | refine i_nv rfl ?_ | refine c_node ?_ ?_ | refine i_g rfl (fun h => ?_) (fun h => ?_) | refine c_cond rfl (fun h => ?_) (fun h => ?_))
          all_goals first
            | (exfalso; exact hz (by simpa using h))
            | skip
          refine e_ret ⟨rfl, _, rfl, rfl, rfl, ?_, ?_, rfl⟩
          · unfold ndR; rw [if_neg hz]; rfl
          · exact rd_eq rfl rfl fun nm h => restr_mem nm h
    · have h40' : ¬ ((c.toNat : Int) = 40) := fun e => h40 (by
        have : c = 40 := UInt8.toNat_inj.1 (by have : c.toNat = 40 := by omega
                                               rw [this]; rfl)
        exact this)
      cases hsy : symB c with
      | false =>
        rw [hsy] at hF
        rw [prs_syn hsk h40 hsy]
        clear hL
        repeat' (first | refine i_len rfl ?_ | refine i_s rfl ?_ | refine i_lenm rfl rfl rfl ?_ | refine c_seq ?_ | refine c_cut0 ?_ | refine c_ops ?_ | refine i_nil ?_ | refine e_seq ?_ | refine e_block ?_ | refine c_block ?_ | refine c_skip ?_ | refine c_ret ?_ | refine c_exit ?_ | refine e_exit rfl ?_ | refine i_s0 rfl ?_ | refine c_leaf ?_ | refine i_gt rfl ?_ | refine i_gf rfl ?_ | refine i_gd rfl ?_ | refine c_t rfl ?_ | refine c_f rfl ?_ | refine i_conv rfl (by simp only [InR, List.length_map]; omega) ?_ | refine i_add rfl rfl (by simp only [InR, List.length_map]; omega) ?_ | refine i_sub rfl rfl (by simp only [InR, List.length_map]; omega) ?_ | refine i_ixm rfl rfl (by assumption) ?_ | refine i_iai rfl rfl (by omega) (by assumption) rfl ?_ | refine i_iam rfl rfl (by assumption) rfl ?_ | refine i_tk rfl rfl (by omega) ?_ | refine i_stb rfl ?_ | refine i_alloc rfl ?_ | refine i_box rfl rfl ?_ | refine i_nv rfl ?_ | refine c_node ?_ ?_ | refine i_g rfl (fun h => ?_) (fun h => ?_) | refine c_cond rfl (fun h => ?_) (fun h => ?_) | refine i_f rfl rfl (hF) rfl ?_ | refine i_ix rfl rfl h0 hg ?_)
        all_goals first
          | (exfalso; exact hne (by simpa using h))
          | (exfalso; exact h40' (by simpa using h))
          | (exfalso; clear hF hg hku hkul hs; simp_all; done)
          | skip
        refine e_ret ⟨rfl, _, rfl, rfl, rfl, rfl, ?_, rfl⟩
        rw [List.append_nil]
        exact rd_eq rfl rfl fun nm h => restr_mem nm h
      | true =>
        rw [hsy] at hF
        by_cases hd12 : d = 12
        · rw [prs_deep hsk (by simp [hsy]) hd12]
          subst hd12
          clear hL
          repeat' (first | refine i_len rfl ?_ | refine i_s rfl ?_ | refine i_lenm rfl rfl rfl ?_ | refine c_seq ?_ | refine c_cut0 ?_ | refine c_ops ?_ | refine i_nil ?_ | refine e_seq ?_ | refine e_block ?_ | refine c_block ?_ | refine c_skip ?_ | refine c_ret ?_ | refine c_exit ?_ | refine e_exit rfl ?_ | refine i_s0 rfl ?_ | refine c_leaf ?_ | refine i_gt rfl ?_ | refine i_gf rfl ?_ | refine i_gd rfl ?_ | refine c_t rfl ?_ | refine c_f rfl ?_ | refine i_conv rfl (by simp only [InR, List.length_map]; omega) ?_ | refine i_add rfl rfl (by simp only [InR, List.length_map]; omega) ?_ | refine i_sub rfl rfl (by simp only [InR, List.length_map]; omega) ?_ | refine i_ixm rfl rfl (by assumption) ?_ | refine i_iai rfl rfl (by omega) (by assumption) rfl ?_ | refine i_iam rfl rfl (by assumption) rfl ?_ | refine i_tk rfl rfl (by omega) ?_ | refine i_stb rfl ?_ | refine i_alloc rfl ?_ | refine i_box rfl rfl ?_ | refine i_nv rfl ?_ | refine c_node ?_ ?_ | refine i_g rfl (fun h => ?_) (fun h => ?_) | refine c_cond rfl (fun h => ?_) (fun h => ?_) | refine i_f rfl rfl (hF) rfl ?_ | refine i_ix rfl rfl h0 hg ?_)
          all_goals first
            | (exfalso; exact hne (by simpa using h))
            | (exfalso; exact h40' (by simpa using h))
            | (exfalso; clear hF hg hku hkul hs; simp_all; done)
            | skip
          refine e_ret ⟨rfl, _, rfl, rfl, rfl, rfl, ?_, rfl⟩
          rw [List.append_nil]
          exact rd_eq rfl rfl fun nm h => restr_mem nm h
        · have hd12' : ¬ (d : Int) = 12 := by omega
          clear hL
          repeat' (first | refine i_len rfl ?_ | refine i_s rfl ?_ | refine i_lenm rfl rfl rfl ?_ | refine c_seq ?_ | refine c_cut0 ?_ | refine c_ops ?_ | refine i_nil ?_ | refine e_seq ?_ | refine e_block ?_ | refine c_block ?_ | refine c_skip ?_ | refine c_ret ?_ | refine c_exit ?_ | refine e_exit rfl ?_ | refine i_s0 rfl ?_ | refine c_leaf ?_ | refine i_gt rfl ?_ | refine i_gf rfl ?_ | refine i_gd rfl ?_ | refine c_t rfl ?_ | refine c_f rfl ?_ | refine i_conv rfl (by simp only [InR, List.length_map]; omega) ?_ | refine i_add rfl rfl (by simp only [InR, List.length_map]; omega) ?_ | refine i_sub rfl rfl (by simp only [InR, List.length_map]; omega) ?_ | refine i_ixm rfl rfl (by assumption) ?_ | refine i_iai rfl rfl (by omega) (by assumption) rfl ?_ | refine i_iam rfl rfl (by assumption) rfl ?_ | refine i_tk rfl rfl (by omega) ?_ | refine i_stb rfl ?_ | refine i_alloc rfl ?_ | refine i_box rfl rfl ?_ | refine i_nv rfl ?_ | refine c_node ?_ ?_ | refine i_g rfl (fun h => ?_) (fun h => ?_) | refine c_cond rfl (fun h => ?_) (fun h => ?_) | refine i_f rfl rfl (hF) rfl ?_ | refine i_ix rfl rfl h0 hg ?_)
          all_goals first
            | (exfalso; exact hne (by simpa using h))
            | (exfalso; exact h40' (by simpa using h))
            | (exfalso; exact hd12' (by simpa using h))
            | (exfalso; clear hF hg hku hkul hs; simp_all; done)
            | skip
          have htw := tw_pos (r := r) hsy
          have hcat : (c :: r).takeWhile symB ++ (c :: r).dropWhile symB = c :: r := List.takeWhile_append_dropWhile
          refine c_lp (ι := List UInt8) (fun u => [(0, rdN), (1, .int .i64 d), (6, .bptr 1728386 0), (7, .int .i64 ((t.length : Int) - (c :: r).length))])
            (fun u => (1728386, .box (.agg [.str [], .sl .p []])) :: rdS t u ns) (fun u => u <:+ t ∧ u.length ≤ (c :: r).length ∧ u.dropWhile symB = (c :: r).dropWhile symB) (fun u => u.length) (c :: r) ⟨hku, Nat.le_refl _, rfl⟩ ⟨by repeat (first | exact trivial | refine ⟨rfl, ?_⟩), by repeat (first | exact trivial | refine ⟨rfl, ?_⟩), rfl⟩ fun u hu => ?_
          obtain ⟨hu, hul, hud⟩ := hu
          have hutl := hu.length_le
          have hu0 : 0 ≤ ((t.length : Int) - u.length) := by omega
          by_cases hst : ∃ c' r', u = c' :: r' ∧ symB c' = true
          · obtain ⟨c', r', rfl, hs'⟩ := hst
            have hF' := f_sexpr_isSymbolByte c'
            rw [hs'] at hF'
            have hg' := suf_get hu rfl
            have hlt' : ((t.length : Int) - (c' :: r').length) < t.length := by simp only [List.length_cons]; omega
            have hsc := at_succ (t := t) (r := r') c'
            rw [List.dropWhile_cons_of_pos hs'] at hud
            clear hF hg
            repeat' (first | refine i_len rfl ?_ | refine i_s rfl ?_ | refine i_lenm rfl rfl rfl ?_ | refine c_seq ?_ | refine c_cut0 ?_ | refine c_ops ?_ | refine i_nil ?_ | refine e_seq ?_ | refine e_block ?_ | refine c_block ?_ | refine c_skip ?_ | refine c_ret ?_ | refine c_exit ?_ | refine e_exit rfl ?_ | refine i_s0 rfl ?_ | refine c_leaf ?_ | refine i_gt rfl ?_ | refine i_gf rfl ?_ | refine i_gd rfl ?_ | refine c_t rfl ?_ | refine c_f rfl ?_ | refine i_conv rfl (by simp only [InR, List.length_map]; omega) ?_ | refine i_add rfl rfl (by simp only [InR, List.length_map]; omega) ?_ | refine i_sub rfl rfl (by simp only [InR, List.length_map]; omega) ?_ | refine i_ixm rfl rfl (by assumption) ?_ | refine i_iai rfl rfl (by omega) (by assumption) rfl ?_ | refine i_iam rfl rfl (by assumption) rfl ?_ | refine i_tk rfl rfl (by omega) ?_ | refine i_stb rfl ?_ | refine i_alloc rfl ?_ | refine i_box rfl rfl ?_ | refine i_nv rfl ?_ | refine c_node ?_ ?_ | refine i_g rfl (fun h => ?_) (fun h => ?_) | refine c_cond rfl (fun h => ?_) (fun h => ?_) | refine i_f rfl rfl (hF') rfl ?_ | refine i_ix rfl rfl hu0 hg' ?_)
            all_goals first
              | (exfalso; have := of_decide_eq_false h; omega)
              | skip
            simp only [List.length_cons] at hul
            refine e_lp r' ⟨(List.suffix_cons c' r').trans hu, by simp only [List.length_cons]; omega, hud⟩ (by simp) ⟨⟨rfl, rfl, rfl, rfl, trivial⟩, ⟨rfl, ?_, rfl, trivial⟩, rfl⟩
            rw [← hsc]; rfl
          · have hue : u = (c :: r).dropWhile symB := by
              rw [← hud]
              cases u with
              | nil => rfl
              | cons c' r' =>
                have : symB c' = false := by
                  cases h : symB c' with
                  | true => exact absurd ⟨c', r', rfl, h⟩ hst
                  | false => rfl
                rw [List.dropWhile_cons_of_neg (by simp [this])]
            have hsli := slice_suf (t := t) (w := (c :: r).takeWhile symB) (u := (c :: r).dropWhile symB) (by rw [hcat]; exact hku)
            rw [hcat, ← hue] at hsli
            have hle : ((t.length : Int) - (c :: r).length) ≤ (t.length : Int) - u.length := by omega
            have hlong := @prs_long f d ns.length s r c [] hsk h40 hsy hd12
            have hsym := @prs_sym f d ns.length s r c [] hsk h40 hsy hd12
            rw [← hue] at hsym
            have hkl2 := hkl
            simp only [List.length_cons] at hkl2
            clear hue
            have hnx : ∀ c' r', u = c' :: r' → symB c' = false := fun c' r' e => by
              cases h : symB c' with
              | true => exact absurd ⟨c', r', e, h⟩ hst
              | false => rfl
            generalize (c :: r).takeWhile symB = w at *
            clear hst hF hg
            rcases u with _ | ⟨c', r'⟩
            · repeat' (first | refine i_len rfl ?_ | refine i_s rfl ?_ | refine i_lenm rfl rfl rfl ?_ | refine c_seq ?_ | refine c_cut0 ?_ | refine c_ops ?_ | refine i_nil ?_ | refine e_seq ?_ | refine e_block ?_ | refine c_block ?_ | refine c_skip ?_ | refine c_ret ?_ | refine c_exit ?_ | refine e_exit rfl ?_ | refine i_s0 rfl ?_ | refine c_leaf ?_ | refine i_gt rfl ?_ | refine i_gf rfl ?_ | refine i_gd rfl ?_ | refine c_t rfl ?_ | refine c_f rfl ?_ | refine i_conv rfl (by simp only [InR, List.length_map]; omega) ?_ | refine i_add rfl rfl (by simp only [InR, List.length_map]; omega) ?_ | refine i_sub rfl rfl (by simp only [InR, List.length_map]; omega) ?_ | refine i_ixm rfl rfl (by assumption) ?_ | refine i_iai rfl rfl (by omega) (by assumption) rfl ?_ | refine i_iam rfl rfl (by assumption) rfl ?_ | refine i_tk rfl rfl (by omega) ?_ | refine i_stb rfl ?_ | refine i_alloc rfl ?_ | refine i_box rfl rfl ?_ | refine i_nv rfl ?_ | refine c_node ?_ ?_ | refine i_g rfl (fun h => ?_) (fun h => ?_) | refine c_cond rfl (fun h => ?_) (fun h => ?_))
              all_goals first
                | (exfalso; have := of_decide_eq_true h; simp at this; done)
                | skip
              refine i_ssh rfl rfl rfl h0 hle (by simp only [List.length_cons, List.length_nil]; omega) ?_
              rw [hsli]
              repeat (first | refine i_len rfl ?_ | refine i_s rfl ?_ | refine i_lenm rfl rfl rfl ?_ | refine c_seq ?_ | refine c_cut0 ?_ | refine c_ops ?_ | refine i_nil ?_ | refine e_seq ?_ | refine e_block ?_ | refine c_block ?_ | refine c_skip ?_ | refine c_ret ?_ | refine c_exit ?_ | refine e_exit rfl ?_ | refine i_s0 rfl ?_ | refine c_leaf ?_ | refine i_gt rfl ?_ | refine i_gf rfl ?_ | refine i_gd rfl ?_ | refine c_t rfl ?_ | refine c_f rfl ?_ | refine i_conv rfl (by simp only [InR, List.length_map]; omega) ?_ | refine i_add rfl rfl (by simp only [InR, List.length_map]; omega) ?_ | refine i_sub rfl rfl (by simp only [InR, List.length_map]; omega) ?_ | refine i_ixm rfl rfl (by assumption) ?_ | refine i_iai rfl rfl (by omega) (by assumption) rfl ?_ | refine i_iam rfl rfl (by assumption) rfl ?_ | refine i_tk rfl rfl (by omega) ?_ | refine i_stb rfl ?_ | refine i_alloc rfl ?_ | refine i_box rfl rfl ?_ | refine i_nv rfl ?_)
              refine c_cond rfl (fun h => ?_) (fun h => ?_)
              · have hw12 : w.length > 12 := by have := of_decide_eq_true h; omega
                rw [hlong hw12]
                clear hlong hsym
                repeat' (first | refine i_len rfl ?_ | refine i_s rfl ?_ | refine i_lenm rfl rfl rfl ?_ | refine c_seq ?_ | refine c_cut0 ?_ | refine c_ops ?_ | refine i_nil ?_ | refine e_seq ?_ | refine e_block ?_ | refine c_block ?_ | refine c_skip ?_ | refine c_ret ?_ | refine c_exit ?_ | refine e_exit rfl ?_ | refine i_s0 rfl ?_ | refine c_leaf ?_ | refine i_gt rfl ?_ | refine i_gf rfl ?_ | refine i_gd rfl ?_ | refine c_t rfl ?_ | refine c_f rfl ?_ | refine i_conv rfl (by simp only [InR, List.length_map]; omega) ?_ | refine i_add rfl rfl (by simp only [InR, List.length_map]; omega) ?_ | refine i_sub rfl rfl (by simp only [InR, List.length_map]; omega) ?_ | refine i_ixm rfl rfl (by assumption) ?_ | refine i_iai rfl rfl (by omega) (by assumption) rfl ?_ | refine i_iam rfl rfl (by assumption) rfl ?_ | refine i_tk rfl rfl (by omega) ?_ | refine i_stb rfl ?_ | refine i_alloc rfl ?_ | refine i_box rfl rfl ?_ | refine i_nv rfl ?_ | refine c_node ?_ ?_ | refine i_g rfl (fun h => ?_) (fun h => ?_) | refine c_cond rfl (fun h => ?_) (fun h => ?_))
                refine e_ret ⟨rfl, _, rfl, rfl, rfl, rfl, ?_, rfl⟩
                rw [List.append_nil]
                exact rd_eq rfl rfl fun nm h => restr_mem nm h
              · have hw12 : ¬ w.length > 12 := by have := of_decide_eq_false h; omega
                rw [hsym hw12]
                clear hlong hsym
                have hlen : (ns ++ [(⟨w, []⟩ : Sx)]).length ≤ 200000 := by simp only [List.length_append, List.length_singleton]; omega
                repeat (first | refine i_len rfl ?_ | refine i_s rfl ?_ | refine i_lenm rfl rfl rfl ?_ | refine c_seq ?_ | refine c_cut0 ?_ | refine c_ops ?_ | refine i_nil ?_ | refine e_seq ?_ | refine e_block ?_ | refine c_block ?_ | refine c_skip ?_ | refine c_ret ?_ | refine c_exit ?_ | refine e_exit rfl ?_ | refine i_s0 rfl ?_ | refine c_leaf ?_ | refine i_gt rfl ?_ | refine i_gf rfl ?_ | refine i_gd rfl ?_ | refine c_t rfl ?_ | refine c_f rfl ?_ | refine i_conv rfl (by simp only [InR, List.length_map]; omega) ?_ | refine i_add rfl rfl (by simp only [InR, List.length_map]; omega) ?_ | refine i_sub rfl rfl (by simp only [InR, List.length_map]; omega) ?_ | refine i_ixm rfl rfl (by assumption) ?_ | refine i_iai rfl rfl (by omega) (by assumption) rfl ?_ | refine i_iam rfl rfl (by assumption) rfl ?_ | refine i_tk rfl rfl (by omega) ?_ | refine i_stb rfl ?_ | refine i_alloc rfl ?_ | refine i_box rfl rfl ?_ | refine i_nv rfl ?_)
                refine i_appM (c := (⟨w, []⟩ : Sx)) rfl rfl rfl rfl rfl (by omega) (by omega) ?_
                repeat' (first | refine i_len rfl ?_ | refine i_s rfl ?_ | refine i_lenm rfl rfl rfl ?_ | refine c_seq ?_ | refine c_cut0 ?_ | refine c_ops ?_ | refine i_nil ?_ | refine e_seq ?_ | refine e_block ?_ | refine c_block ?_ | refine c_skip ?_ | refine c_ret ?_ | refine c_exit ?_ | refine e_exit rfl ?_ | refine i_s0 rfl ?_ | refine c_leaf ?_ | refine i_gt rfl ?_ | refine i_gf rfl ?_ | refine i_gd rfl ?_ | refine c_t rfl ?_ | refine c_f rfl ?_ | refine i_conv rfl (by simp only [InR, List.length_map]; omega) ?_ | refine i_add rfl rfl (by simp only [InR, List.length_map]; omega) ?_ | refine i_sub rfl rfl (by simp only [InR, List.length_map]; omega) ?_ | refine i_ixm rfl rfl (by assumption) ?_ | refine i_iai rfl rfl (by omega) (by assumption) rfl ?_ | refine i_iam rfl rfl (by assumption) rfl ?_ | refine i_tk rfl rfl (by omega) ?_ | refine i_stb rfl ?_ | refine i_alloc rfl ?_ | refine i_box rfl rfl ?_ | refine i_nv rfl ?_ | refine c_node ?_ ?_ | refine i_g rfl (fun h => ?_) (fun h => ?_) | refine c_cond rfl (fun h => ?_) (fun h => ?_))
                refine e_ret ⟨rfl, _, rfl, rfl, rfl, ?_, ?_, rfl⟩
                · unfold ndR
                  rw [if_pos rfl]
                  show V.tup [V.int .i64 (((ns ++ [(⟨w, []⟩ : Sx)]).length : Int) - 1), .int .i64 0] = V.tup [V.int .i64 (((ns.length + [(⟨w, []⟩ : Sx)].length : Nat) : Int) - 1), .int .i64 0]
                  rw [List.length_append]
                · refine rd_eq rfl ?_ fun nm h => restr_mem nm h
                  simp only [List.length_append, List.length_singleton]
                  rfl
            · have hF' := f_sexpr_isSymbolByte c'
              rw [hnx c' r' rfl] at hF'
              have hg' := suf_get hu rfl
              have hlt' : ((t.length : Int) - (c' :: r').length) < t.length := by simp only [List.length_cons]; omega
              repeat' (first | refine i_len rfl ?_ | refine i_s rfl ?_ | refine i_lenm rfl rfl rfl ?_ | refine c_seq ?_ | refine c_cut0 ?_ | refine c_ops ?_ | refine i_nil ?_ | refine e_seq ?_ | refine e_block ?_ | refine c_block ?_ | refine c_skip ?_ | refine c_ret ?_ | refine c_exit ?_ | refine e_exit rfl ?_ | refine i_s0 rfl ?_ | refine c_leaf ?_ | refine i_gt rfl ?_ | refine i_gf rfl ?_ | refine i_gd rfl ?_ | refine c_t rfl ?_ | refine c_f rfl ?_ | refine i_conv rfl (by simp only [InR, List.length_map]; omega) ?_ | refine i_add rfl rfl (by simp only [InR, List.length_map]; omega) ?_ | refine i_sub rfl rfl (by simp only [InR, List.length_map]; omega) ?_ | refine i_ixm rfl rfl (by assumption) ?_ | refine i_iai rfl rfl (by omega) (by assumption) rfl ?_ | refine i_iam rfl rfl (by assumption) rfl ?_ | refine i_tk rfl rfl (by omega) ?_ | refine i_stb rfl ?_ | refine i_alloc rfl ?_ | refine i_box rfl rfl ?_ | refine i_nv rfl ?_ | refine c_node ?_ ?_ | refine i_g rfl (fun h => ?_) (fun h => ?_) | refine c_cond rfl (fun h => ?_) (fun h => ?_) | refine i_f rfl rfl (hF') rfl ?_ | refine i_ix rfl rfl hu0 hg' ?_)
              all_goals first
                | (exfalso; have := of_decide_eq_false h; omega)
                | skip
              refine i_ssh rfl rfl rfl h0 hle (by simp only [List.length_cons, List.length_nil]; omega) ?_
              rw [hsli]
              repeat (first | refine i_len rfl ?_ | refine i_s rfl ?_ | refine i_lenm rfl rfl rfl ?_ | refine c_seq ?_ | refine c_cut0 ?_ | refine c_ops ?_ | refine i_nil ?_ | refine e_seq ?_ | refine e_block ?_ | refine c_block ?_ | refine c_skip ?_ | refine c_ret ?_ | refine c_exit ?_ | refine e_exit rfl ?_ | refine i_s0 rfl ?_ | refine c_leaf ?_ | refine i_gt rfl ?_ | refine i_gf rfl ?_ | refine i_gd rfl ?_ | refine c_t rfl ?_ | refine c_f rfl ?_ | refine i_conv rfl (by simp only [InR, List.length_map]; omega) ?_ | refine i_add rfl rfl (by simp only [InR, List.length_map]; omega) ?_ | refine i_sub rfl rfl (by simp only [InR, List.length_map]; omega) ?_ | refine i_ixm rfl rfl (by assumption) ?_ | refine i_iai rfl rfl (by omega) (by assumption) rfl ?_ | refine i_iam rfl rfl (by assumption) rfl ?_ | refine i_tk rfl rfl (by omega) ?_ | refine i_stb rfl ?_ | refine i_alloc rfl ?_ | refine i_box rfl rfl ?_ | refine i_nv rfl ?_)
              refine c_cond rfl (fun h => ?_) (fun h => ?_)
              · have hw12 : w.length > 12 := by have := of_decide_eq_true h; omega
                rw [hlong hw12]
                clear hlong hsym
                repeat' (first | refine i_len rfl ?_ | refine i_s rfl ?_ | refine i_lenm rfl rfl rfl ?_ | refine c_seq ?_ | refine c_cut0 ?_ | refine c_ops ?_ | refine i_nil ?_ | refine e_seq ?_ | refine e_block ?_ | refine c_block ?_ | refine c_skip ?_ | refine c_ret ?_ | refine c_exit ?_ | refine e_exit rfl ?_ | refine i_s0 rfl ?_ | refine c_leaf ?_ | refine i_gt rfl ?_ | refine i_gf rfl ?_ | refine i_gd rfl ?_ | refine c_t rfl ?_ | refine c_f rfl ?_ | refine i_conv rfl (by simp only [InR, List.length_map]; omega) ?_ | refine i_add rfl rfl (by simp only [InR, List.length_map]; omega) ?_ | refine i_sub rfl rfl (by simp only [InR, List.length_map]; omega) ?_ | refine i_ixm rfl rfl (by assumption) ?_ | refine i_iai rfl rfl (by omega) (by assumption) rfl ?_ | refine i_iam rfl rfl (by assumption) rfl ?_ | refine i_tk rfl rfl (by omega) ?_ | refine i_stb rfl ?_ | refine i_alloc rfl ?_ | refine i_box rfl rfl ?_ | refine i_nv rfl ?_ | refine c_node ?_ ?_ | refine i_g rfl (fun h => ?_) (fun h => ?_) | refine c_cond rfl (fun h => ?_) (fun h => ?_))
                refine e_ret ⟨rfl, _, rfl, rfl, rfl, rfl, ?_, rfl⟩
                rw [List.append_nil]
                exact rd_eq rfl rfl fun nm h => restr_mem nm h
              · have hw12 : ¬ w.length > 12 := by have := of_decide_eq_false h; omega
                rw [hsym hw12]
                clear hlong hsym
                have hlen : (ns ++ [(⟨w, []⟩ : Sx)]).length ≤ 200000 := by simp only [List.length_append, List.length_singleton]; omega
                repeat (first | refine i_len rfl ?_ | refine i_s rfl ?_ | refine i_lenm rfl rfl rfl ?_ | refine c_seq ?_ | refine c_cut0 ?_ | refine c_ops ?_ | refine i_nil ?_ | refine e_seq ?_ | refine e_block ?_ | refine c_block ?_ | refine c_skip ?_ | refine c_ret ?_ | refine c_exit ?_ | refine e_exit rfl ?_ | refine i_s0 rfl ?_ | refine c_leaf ?_ | refine i_gt rfl ?_ | refine i_gf rfl ?_ | refine i_gd rfl ?_ | refine c_t rfl ?_ | refine c_f rfl ?_ | refine i_conv rfl (by simp only [InR, List.length_map]; omega) ?_ | refine i_add rfl rfl (by simp only [InR, List.length_map]; omega) ?_ | refine i_sub rfl rfl (by simp only [InR, List.length_map]; omega) ?_ | refine i_ixm rfl rfl (by assumption) ?_ | refine i_iai rfl rfl (by omega) (by assumption) rfl ?_ | refine i_iam rfl rfl (by assumption) rfl ?_ | refine i_tk rfl rfl (by omega) ?_ | refine i_stb rfl ?_ | refine i_alloc rfl ?_ | refine i_box rfl rfl ?_ | refine i_nv rfl ?_)
                refine i_appM (c := (⟨w, []⟩ : Sx)) rfl rfl rfl rfl rfl (by omega) (by omega) ?_
                repeat' (first | refine i_len rfl ?_ | refine i_s rfl ?_ | refine i_lenm rfl rfl rfl ?_ | refine c_seq ?_ | refine c_cut0 ?_ | refine c_ops ?_ | refine i_nil ?_ | refine e_seq ?_ | refine e_block ?_ | refine c_block ?_ | refine c_skip ?_ | refine c_ret ?_ | refine c_exit ?_ | refine e_exit rfl ?_ | refine i_s0 rfl ?_ | refine c_leaf ?_ | refine i_gt rfl ?_ | refine i_gf rfl ?_ | refine i_gd rfl ?_ | refine c_t rfl ?_ | refine c_f rfl ?_ | refine i_conv rfl (by simp only [InR, List.length_map]; omega) ?_ | refine i_add rfl rfl (by simp only [InR, List.length_map]; omega) ?_ | refine i_sub rfl rfl (by simp only [InR, List.length_map]; omega) ?_ | refine i_ixm rfl rfl (by assumption) ?_ | refine i_iai rfl rfl (by omega) (by assumption) rfl ?_ | refine i_iam rfl rfl (by assumption) rfl ?_ | refine i_tk rfl rfl (by omega) ?_ | refine i_stb rfl ?_ | refine i_alloc rfl ?_ | refine i_box rfl rfl ?_ | refine i_nv rfl ?_ | refine c_node ?_ ?_ | refine i_g rfl (fun h => ?_) (fun h => ?_) | refine c_cond rfl (fun h => ?_) (fun h => ?_))
                refine e_ret ⟨rfl, _, rfl, rfl, rfl, ?_, ?_, rfl⟩
                · unfold ndR
                  rw [if_pos rfl]
                  show V.tup [V.int .i64 (((ns ++ [(⟨w, []⟩ : Sx)]).length : Int) - 1), .int .i64 0] = V.tup [V.int .i64 (((ns.length + [(⟨w, []⟩ : Sx)].length : Nat) : Int) - 1), .int .i64 0]
                  rw [List.length_append]
                · refine rd_eq rfl ?_ fun nm h => restr_mem nm h
                  simp only [List.length_append, List.length_singleton]
                  rfl
theorem ct_all {G : Type} {H : HT G} (t : List UInt8) (ht : t.length ≤ 100000) : ∀ f : Nat, NodeC H t f ∧ ListC H t f
  | 0 => ⟨fun d s ns hd hs hb hf => by omega, fun d s ns hd hs hb hf => by omega⟩
  | f + 1 => ⟨ct_node t ht f (ct_all t ht f).2, ct_list t ht f (ct_all t ht f).1⟩
end Hm
end
