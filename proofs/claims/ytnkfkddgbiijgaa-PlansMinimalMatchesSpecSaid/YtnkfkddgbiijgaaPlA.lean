/- Plans that fail, are shortened, or are minimal, in plain terms. No program in sight. -/
import Derived.Test.YtnkfkddgbiijgaaStB
section
/- Plans that fail, are shortened, or are minimal, in plain terms. No program in sight. -/
namespace Hm
set_option linter.unusedVariables false
set_option linter.unusedSimpArgs false
open Go
def failI (t : STask) (plan : List Int) : Int := if (runT t t.init plan).length < plan.length then ((runT t t.init plan).length : Int) else if worksB t t.init plan = true then -1 else (plan.length : Int)
/-- What can still be executed of a list of steps. -/
def keepT (t : STask) : List Int → List Int → List Int
  | _, [] => []
  | s, op :: r => match stepS t s op with
    | some s' => op :: keepT t s' r
    | none => keepT t s r
theorem keepT_sub (t : STask) : ∀ (r s : List Int), (keepT t s r).Sublist r
  | [], s => List.Sublist.refl _
  | op :: r, s => by
    simp only [keepT]
    cases h : stepS t s op with
    | some s' => exact (keepT_sub t r s').cons_cons op
    | none => exact (keepT_sub t r s).cons op
def omitL (t : STask) (plan : List Int) (i : Nat) : List Int := match endS t t.init (plan.take i) with
  | some s => plan.take i ++ keepT t s (plan.drop (i + 1))
  | none => plan.take i
theorem drop_split {l : List Int} {i : Nat} (h : i < l.length) : l = l.take i ++ l[i] :: l.drop (i + 1) := by
  rw [← List.drop_eq_getElem_cons h, List.take_append_drop]
theorem omitL_sub (t : STask) {plan : List Int} {i : Nat} (h : i < plan.length) : (omitL t plan i).Sublist plan := by
  have hs : (plan.take i ++ keepT t (((endS t t.init (plan.take i)).getD [])) (plan.drop (i + 1))).Sublist plan := by
    conv => rhs; rw [drop_split h]
    exact (List.Sublist.refl _).append ((keepT_sub t _ _).cons _)
  unfold omitL
  cases he : endS t t.init (plan.take i) with
  | some s => rw [he] at hs; exact hs
  | none => exact List.take_sublist _ _
theorem omitL_len (t : STask) {plan : List Int} {i : Nat} (h : i < plan.length) : (omitL t plan i).length < plan.length := by
  unfold omitL
  cases he : endS t t.init (plan.take i) with
  | some s =>
    have := (keepT_sub t (plan.drop (i + 1)) s).length_le
    simp at this ⊢
    omega
  | none => simp; omega
def redL (t : STask) (p : List Int) (i : Nat) : List Int :=
  if h : i < p.length then (if worksB t t.init (omitL t p i) = true then redL t (omitL t p i) i else redL t p (i + 1)) else p
termination_by p.length - i
decreasing_by
  · have := omitL_len t h; omega
  · omega
theorem redL_end {t : STask} {p : List Int} {i : Nat} (h : ¬ i < p.length) : redL t p i = p := by rw [redL, dif_neg h]
theorem redL_cut {t : STask} {p : List Int} {i : Nat} (h : i < p.length) (hw : worksB t t.init (omitL t p i) = true) : redL t p i = redL t (omitL t p i) i := by rw [redL, dif_pos h, if_pos hw]
theorem redL_next {t : STask} {p : List Int} {i : Nat} (h : i < p.length) (hw : worksB t t.init (omitL t p i) = false) : redL t p i = redL t p (i + 1) := by rw [redL, dif_pos h, if_neg (by simp [hw])]
/-- Whatever holds and is kept by leaving out holds at the end. -/
theorem redL_ind (t : STask) (Q : List Int → Prop) (hQ : ∀ p i, i < p.length → Q p → worksB t t.init (omitL t p i) = true → Q (omitL t p i)) : ∀ (n : Nat) (p : List Int) (i : Nat), p.length - i ≤ n → Q p → Q (redL t p i)
  | 0, p, i, h, hp => by rw [redL_end (by omega)]; exact hp
  | n + 1, p, i, h, hp => by
    by_cases hi : i < p.length
    · cases hw : worksB t t.init (omitL t p i) with
      | true =>
        rw [redL_cut hi hw]
        have := omitL_len t hi
        exact redL_ind t Q hQ n _ i (by omega) (hQ p i hi hp hw)
      | false =>
        rw [redL_next hi hw]
        exact redL_ind t Q hQ n p (i + 1) (by omega) hp
    · rw [redL_end hi]; exact hp
theorem redL_sub (t : STask) (p : List Int) (i : Nat) : (redL t p i).Sublist p :=
  redL_ind t (fun q => q.Sublist p) (fun q j hj hq _ => (omitL_sub t hj).trans hq) _ p i (Nat.le_refl _) (List.Sublist.refl _)
theorem redL_works (t : STask) (p : List Int) (i : Nat) (h : worksB t t.init p = true) : worksB t t.init (redL t p i) = true :=
  redL_ind t (fun q => worksB t t.init q = true) (fun q j hj _ hw => hw) _ p i (Nat.le_refl _) h
theorem costS_sub {t : STask} (hv : SV t) {a b : List Int} (h : a.Sublist b) : costS t a ≤ costS t b := by
  induction h with
  | slnil => exact Int.le_refl _
  | cons x _ ih => have := costAtS_range hv x; simp only [costS]; omega
  | cons_cons x _ ih => simp only [costS]; omega
/- All parts. -/
def shB (t : STask) : List Int → List Int → Bool → Bool
  | head, [], left => left && worksB t t.init head
  | head, x :: r, left => shB t (head ++ [x]) r left || shB t head r true
theorem shB_iff (t : STask) : ∀ (tail head : List Int) (left : Bool), shB t head tail left = true ↔ ∃ q : List Int, q.Sublist tail ∧ (left = true ∨ q.length < tail.length) ∧ worksB t t.init (head ++ q) = true
  | [], head, left => by
    simp only [shB, Bool.and_eq_true]
    constructor
    · rintro ⟨h1, h2⟩
      exact ⟨[], List.Sublist.refl _, .inl h1, by simpa using h2⟩
    · rintro ⟨q, h1, h2, h3⟩
      have : q = [] := List.sublist_nil.1 h1
      subst this
      simp at h2
      exact ⟨h2, by simpa using h3⟩
  | x :: r, head, left => by
    simp only [shB, Bool.or_eq_true, shB_iff t r]
    constructor
    · rintro (⟨q, h1, h2, h3⟩ | ⟨q, h1, h2, h3⟩)
      · refine ⟨x :: q, h1.cons_cons x, ?_, by simpa using h3⟩
        rcases h2 with h | h
        · exact .inl h
        · exact .inr (by simp; omega)
      · refine ⟨q, h1.cons x, .inr ?_, h3⟩
        have := h1.length_le
        simp; omega
    · rintro ⟨q, h1, h2, h3⟩
      cases h1 with
      | cons _ h => exact .inr ⟨q, h, .inl trivial, h3⟩
      | cons_cons _ h =>
        rename_i q'
        refine .inl ⟨q', h, ?_, by simpa using h3⟩
        rcases h2 with h | h
        · exact .inl h
        · exact .inr (by simpa using h)
/-- Whether no proper part is a solution. -/
def minB (t : STask) (plan : List Int) : Bool := !shB t [] plan false
theorem minB_iff (t : STask) (plan : List Int) : minB t plan = true ↔ ∀ q : List Int, q.Sublist plan → q.length < plan.length → worksB t t.init q = false := by
  unfold minB
  rw [Bool.not_eq_true', ← Bool.not_eq_true, shB_iff]
  constructor
  · intro h q h1 h2
    cases hw : worksB t t.init q with
    | false => rfl
    | true => exact absurd ⟨q, h1, .inr h2, by simpa using hw⟩ h
  · rintro h ⟨q, h1, h2, h3⟩
    simp at h2
    have := h q h1 h2
    simp [this] at h3
/-- The part of a list that the bits of a number choose. -/
def partK (plan : List Int) (b : Nat) : Nat → List Int
  | 0 => []
  | k + 1 => partK plan b k ++ (match plan[k]? with
    | some x => if b / 2 ^ k % 2 = 1 then [x] else []
    | none => [])
def partR : List Int → Nat → List Int
  | [], _ => []
  | x :: r, b => if b % 2 = 1 then x :: partR r (b / 2) else partR r (b / 2)
theorem partK_cons (x : Int) (r : List Int) (b : Nat) : ∀ k, partK (x :: r) b (k + 1) = (if b % 2 = 1 then [x] else []) ++ partK r (b / 2) k
  | 0 => by simp [partK]
  | k + 1 => by
    have ih := partK_cons x r b k
    rw [partK, ih, partK, List.append_assoc]
    congr 2
    simp only [List.getElem?_cons_succ]
    rw [Nat.pow_succ, Nat.mul_comm, ← Nat.div_div_eq_div_mul]
theorem partK_R : ∀ (plan : List Int) (b : Nat), partK plan b plan.length = partR plan b
  | [], b => rfl
  | x :: r, b => by
    rw [List.length_cons, partK_cons, partK_R r]
    simp only [partR]
    split <;> rfl
theorem partK_len (plan : List Int) (b : Nat) : ∀ k, (partK plan b k).length ≤ k
  | 0 => by simp [partK]
  | k + 1 => by
    have := partK_len plan b k
    rw [partK, List.length_append]
    split
    · split <;> simp <;> omega
    · simp; omega
theorem partR_sub : ∀ (plan : List Int) (b : Nat), (partR plan b).Sublist plan
  | [], _ => List.Sublist.refl _
  | x :: r, b => by
    simp only [partR]
    split
    · exact (partR_sub r _).cons_cons x
    · exact (partR_sub r _).cons x
theorem partR_full : ∀ (plan : List Int) (b : Nat), b < 2 ^ plan.length → (partR plan b).length = plan.length → b + 1 = 2 ^ plan.length
  | [], b, h, _ => by simp at h ⊢; omega
  | x :: r, b, h, hl => by
    rw [List.length_cons, Nat.pow_succ] at h ⊢
    simp only [partR] at hl
    split at hl
    · have := partR_full r (b / 2) (by omega) (by simpa using hl)
      omega
    · have := (partR_sub r (b / 2)).length_le
      simp at hl; omega
theorem partR_all : ∀ (plan q : List Int), q.Sublist plan → ∃ b, b < 2 ^ plan.length ∧ partR plan b = q
  | [], q, h => ⟨0, by simp, by rw [List.sublist_nil.1 h]; rfl⟩
  | x :: r, q, h => by
    cases h with
    | cons _ h =>
      obtain ⟨b, h1, h2⟩ := partR_all r q h
      refine ⟨2 * b, by rw [List.length_cons, Nat.pow_succ]; omega, ?_⟩
      simp only [partR]
      rw [if_neg (by omega), show 2 * b / 2 = b from by omega, h2]
    | cons_cons _ h =>
      rename_i q'
      obtain ⟨b, h1, h2⟩ := partR_all r q' h
      refine ⟨2 * b + 1, by rw [List.length_cons, Nat.pow_succ]; omega, ?_⟩
      simp only [partR]
      rw [if_pos (by omega), show (2 * b + 1) / 2 = b from by omega, h2]
theorem minB_parts (t : STask) (plan : List Int) : minB t plan = !((List.range (2 ^ plan.length - 1)).any fun b => worksB t t.init (partK plan b plan.length)) := by
  rw [Bool.eq_iff_iff, minB_iff, Bool.not_eq_true', List.any_eq_false]
  simp only [List.mem_range, Bool.not_eq_true, partK_R]
  constructor
  · intro h b hb
    refine h _ (partR_sub _ _) ?_
    have h1 := (partR_sub plan b).length_le
    by_cases e : (partR plan b).length = plan.length
    · have := partR_full plan b (by omega) e; omega
    · omega
  · intro h q h1 h2
    obtain ⟨b, hb, rfl⟩ := partR_all plan q h1
    refine h b ?_
    by_cases e : b + 1 = 2 ^ plan.length
    · exfalso
      -- the full number chooses everything
      have key : ∀ (plan : List Int) (b : Nat), b + 1 = 2 ^ plan.length → (partR plan b).length = plan.length := by
        intro plan
        induction plan with
        | nil => intro b _; rfl
        | cons x r ih =>
          intro b hb
          rw [List.length_cons, Nat.pow_succ] at hb
          simp only [partR]
          rw [if_pos (by omega), List.length_cons, List.length_cons, ih (b / 2) (by omega)]
      have := key plan b e
      omega
    · omega
end Hm
end

section
/- Contracts: where plans fail; solutions; plans without a step. -/
namespace Hm
open Go
set_option maxRecDepth 100000
set_option maxHeartbeats 4000000
set_option linter.unusedSimpArgs false
set_option linter.unusedVariables false
def solF (t : STask) (plan : List Int) : Flt := if plFault t plan = okF then (if worksB t t.init plan = true then okF else ⟨11, -8⟩) else plFault t plan
theorem solF_ok {t : STask} {plan : List Int} (h : solF t plan = okF) : plFault t plan = okF ∧ worksB t t.init plan = true := by
  unfold solF at h
  split at h
  · rename_i h1
    split at h
    · rename_i h2; exact ⟨h1, h2⟩
    · cases h
  · rename_i h1; exact absurd h h1
theorem solF_code (t : STask) (plan : List Int) : (solF t plan).code = 0 ↔ solF t plan = okF := by
  unfold solF
  split
  · split <;> simp [okF]
  · exact plFault_iff t plan
theorem last_of_run {t : STask} {plan s : List Int} : (s :: runT t s plan)[(runT t s plan).length]? = endS t s (plan.take (runT t s plan).length) := run_at t plan s _ (run_len_le t plan s)
def c_plans_Failure : Cmd :=
  (.seq
   (.ops [
   .op (some 2) none (.box 576132 4 (.t 0)),
   .op (some 4) none (.mov (.c (.int .i64 (0)))),
   .op (some 5) none (.alloc 576322 (.agg [.int .i64 (0), .int .i64 (0)]))])
   (.cut
   (.seq
   (.seq
   (.ops [
   .op (some 9) none (.load true 4 (.t 2)),
   .op (some 10) none (.mov (.t 1)),
   .op (some 11) none (.call .f (.c (.fn 27 [])) [.t 9, .t 10]),
   .op (some 6) none (.alloc 576386 (.agg [.int .i64 (0), .int .i64 (0)])),
   .op none none (.store 2 (.t 6) (.t 11))])
   (.cut
   (.seq
   (.ops [
   .op (some 12) none (.load true 2 (.t 6)),
   .op (some 13) none (.build [.int .i64 (0), .int .i64 (0)] []),
   .op (some 14) none (.bin .neq true [.i, .i] (.t 12) (.t 13))])
   (.cut
   (.cond (.t 14)
   (.seq
   (.ops [
   .op (some 15) none (.load true 2 (.t 6)),
   .op (some 4) none (.mov (.c (.int .i64 (0)))),
   .op none none (.store 2 (.t 5) (.t 15))])
   .ret)
   .skip)))))
   (.cut
   (.seq
   (.ops [
   .op (some 16) none (.load true 4 (.t 2)),
   .op (some 17) none (.faddr 1 (.t 2)),
   .op (some 18) none (.load false 1 (.t 17)),
   .op (some 19) none (.mov (.t 1)),
   .op (some 20) none (.call .f (.c (.fn 28 [])) [.t 16, .t 18, .t 19]),
   .op (some 7) none (.mov (.t 20))])
   (.cut
   (.seq
   (.seq
   (.ops [
   .op (some 21) none (.mov (.t 7)),
   .op (some 22) none (.len false (.t 21)),
   .op (some 23) none (.bin .sub false [] (.t 22) (.c (.int .i64 (1)))),
   .op (some 8) none (.mov (.t 23))])
   (.cut
   (.seq
   (.ops [
   .op (some 24) none (.mov (.t 8)),
   .op (some 25) none (.mov (.t 1)),
   .op (some 26) none (.len false (.t 25)),
   .op (some 27) none (.bin .lss false [] (.t 24) (.t 26)),
   .op (some 28) none (.mov (.t 27)),
   .op (some 29) (some (28, false)) (.mov (.t 7)),
   .op (some 30) (some (28, false)) (.mov (.t 8)),
   .op (some 31) (some (28, false)) (.iaddr 1 (.t 29) (.t 30)),
   .op (some 32) (some (28, false)) (.load false 1 (.t 31)),
   .op (some 33) (some (28, false)) (.faddr 2 (.t 2)),
   .op (some 34) (some (28, false)) (.load false 1 (.t 33)),
   .op (some 35) (some (28, false)) (.call .f (.c (.fn 29 [])) [.t 32, .t 34]),
   .op (some 36) (some (28, false)) (.not (.t 35)),
   .op (some 37) none (.pick (.t 28) (.c (.bool true)) (.t 36))])
   (.cut
   (.cond (.t 37)
   (.seq
   (.ops [
   .op (some 38) none (.mov (.t 8)),
   .op (some 39) none (.build [.int .i64 (0), .int .i64 (0)] []),
   .op (some 4) none (.mov (.t 38)),
   .op none none (.store 2 (.t 5) (.t 39))])
   .ret)
   .skip)))))
   (.cut
   (.seq
   (.ops [
   .op (some 40) none (.build [.int .i64 (0), .int .i64 (0)] []),
   .op (some 4) none (.mov (.c (.int .i64 (-1)))),
   .op none none (.store 2 (.t 5) (.t 40))])
   .ret)))))))))
def r_plans_Failure : List RVar := [.tmp 4, .cell true 2 5]
def n_plans_Failure : Nat := 41
theorem k_plans_Failure : chkFn Go.Proofs.Try.prog 9 n_plans_Failure r_plans_Failure c_plans_Failure = true := by kernel_rfl
theorem f_plans_Failure_bad (t : STask) (ho : SkOk t) (plan : List Int) (hl : plan.length ≤ 140737488355328) (hb : plFault t plan ≠ okF) : Fc Go.Proofs.Try.prog 9 [skV t, .sl .p (plan.map i64V)] (.tup [.int .i64 0, ftV (plFault t plan)]) := by
  refine Fn.step mixed k_plans_Failure ?_
  repeat' (first | refine i_len rfl ?_ | refine i_s rfl ?_ | refine i_lenm rfl rfl rfl ?_ | refine c_seq ?_ | refine c_cut0 ?_ | refine c_ops ?_ | refine i_nil ?_ | refine e_seq ?_ | refine e_block ?_ | refine c_block ?_ | refine c_skip ?_ | refine c_ret ?_ | refine c_exit ?_ | refine e_exit rfl ?_ | refine i_s0 rfl ?_ | refine c_leaf ?_ | refine i_gt rfl ?_ | refine i_gf rfl ?_ | refine i_gd rfl ?_ | refine c_t rfl ?_ | refine c_f rfl ?_ | refine i_conv rfl (by simp only [InR, List.length_map]; omega) ?_ | refine i_add rfl rfl (by simp only [InR, List.length_map]; omega) ?_ | refine i_sub rfl rfl (by simp only [InR, List.length_map]; omega) ?_ | refine i_ixm rfl rfl (by assumption) ?_ | refine i_iai rfl rfl (by omega) (by assumption) rfl ?_ | refine i_iam rfl rfl (by assumption) rfl ?_ | refine i_tk rfl rfl (by omega) ?_ | refine i_stb rfl ?_ | refine i_alloc rfl ?_ | refine i_box rfl rfl ?_ | refine i_nv rfl ?_ | refine c_node ?_ ?_ | refine i_g rfl (fun h => ?_) (fun h => ?_) | refine c_cond rfl (fun h => ?_) (fun h => ?_) | refine i_f rfl rfl (f_strips_PlanFault t ho plan hl) rfl ?_)
  · exact e_ret ⟨rfl, _, rfl, rfl⟩
  all_goals exact absurd (eq_ok (by assumption)) hb
theorem f_plans_Failure_ok (t : STask) (ho : SkOk t) (plan : List Int) (hb : plFault t plan = okF) : Fc Go.Proofs.Try.prog 9 [skV t, .sl .p (plan.map i64V)] (.tup [.int .i64 (failI t plan), ftV okF]) := by
  obtain ⟨hv, h60, hr, _⟩ := plFault_ok hb
  have hF := f_strips_PlanFault t ho plan (by omega)
  rw [hb] at hF
  have hR := f_strips_Run t hv t.init hv.init plan (by omega) hr
  have hle := run_len_le t plan t.init
  have hlast := last_of_run (t := t) (plan := plan) (s := t.init)
  have hgl := set_le hv hv.goal
  unfold failI
  by_cases hlt : (runT t t.init plan).length < plan.length
  · rw [if_pos hlt]
    have hl2 : (t.init :: runT t t.init plan).length = (runT t t.init plan).length + 1 := by simp
    generalize (runT t t.init plan).length = n at *
    generalize t.init :: runT t t.init plan = L at *
    refine Fn.step mixed k_plans_Failure ?_
    repeat' (first | refine i_len rfl ?_ | refine i_s rfl ?_ | refine i_lenm rfl rfl rfl ?_ | refine c_seq ?_ | refine c_cut0 ?_ | refine c_ops ?_ | refine i_nil ?_ | refine e_seq ?_ | refine e_block ?_ | refine c_block ?_ | refine c_skip ?_ | refine c_ret ?_ | refine c_exit ?_ | refine e_exit rfl ?_ | refine i_s0 rfl ?_ | refine c_leaf ?_ | refine i_gt rfl ?_ | refine i_gf rfl ?_ | refine i_gd rfl ?_ | refine c_t rfl ?_ | refine c_f rfl ?_ | refine i_conv rfl (by simp only [InR, List.length_map]; omega) ?_ | refine i_add rfl rfl (by simp only [InR, List.length_map]; omega) ?_ | refine i_sub rfl rfl (by simp only [InR, List.length_map]; omega) ?_ | refine i_ixm rfl rfl (by assumption) ?_ | refine i_iai rfl rfl (by omega) (by assumption) rfl ?_ | refine i_iam rfl rfl (by assumption) rfl ?_ | refine i_tk rfl rfl (by omega) ?_ | refine i_stb rfl ?_ | refine i_alloc rfl ?_ | refine i_box rfl rfl ?_ | refine i_nv rfl ?_ | refine c_node ?_ ?_ | refine i_g rfl (fun h => ?_) (fun h => ?_) | refine c_cond rfl (fun h => ?_) (fun h => ?_) | refine i_f rfl rfl (hF) rfl ?_ | refine i_f rfl rfl (hR) rfl ?_)
    all_goals first
      | (refine e_ret ⟨rfl, _, rfl, ?_⟩
         show _ = V.tup [.int .i64 ((L.length : Int) - 1), .agg [.int .i64 0, .int .i64 0]]
         rw [show ((L.length : Int) - 1) = (n : Int) from by omega]
         rfl)
      | (exfalso; clear hF hR ho hv hlast; simp at *; omega)
  · rw [if_neg hlt]
    have hle2 : (runT t t.init plan).length = plan.length := by omega
    rw [hle2, List.take_length] at hlast
    obtain ⟨e, he⟩ := Option.isSome_iff_exists.1 ((run_len_eq t plan t.init).1 hle2)
    rw [he] at hlast
    have hel := set_le hv (endS_set hv _ _ _ hv.init he)
    have hC := f_strips_Contains e t.goal (by omega) (by omega) (endS_set hv _ _ _ hv.init he).ss hv.goal.ss
    have hw : worksB t t.init plan = inclB t.goal e := by unfold worksB; rw [he]
    rw [hw]
    have hl2 : (t.init :: runT t t.init plan).length = plan.length + 1 := by simp [hle2]
    generalize t.init :: runT t t.init plan = L at *
    have hix : L[((L.length : Int) - 1).toNat]? = some e := by rw [hl2, show (((plan.length + 1 : Nat) : Int) - 1).toNat = plan.length from by omega]; exact hlast
    clear hlast hw he hv
    cases hi : inclB t.goal e
    all_goals
      rw [hi] at hC
      simp only [if_true, if_false, Bool.false_eq_true, reduceIte]
      refine Fn.step mixed k_plans_Failure ?_
      repeat' (first | refine i_len rfl ?_ | refine i_s rfl ?_ | refine i_lenm rfl rfl rfl ?_ | refine c_seq ?_ | refine c_cut0 ?_ | refine c_ops ?_ | refine i_nil ?_ | refine e_seq ?_ | refine e_block ?_ | refine c_block ?_ | refine c_skip ?_ | refine c_ret ?_ | refine c_exit ?_ | refine e_exit rfl ?_ | refine i_s0 rfl ?_ | refine c_leaf ?_ | refine i_gt rfl ?_ | refine i_gf rfl ?_ | refine i_gd rfl ?_ | refine c_t rfl ?_ | refine c_f rfl ?_ | refine i_conv rfl (by simp only [InR, List.length_map]; omega) ?_ | refine i_add rfl rfl (by simp only [InR, List.length_map]; omega) ?_ | refine i_sub rfl rfl (by simp only [InR, List.length_map]; omega) ?_ | refine i_ixm rfl rfl (by assumption) ?_ | refine i_iai rfl rfl (by omega) (by assumption) rfl ?_ | refine i_iam rfl rfl (by assumption) rfl ?_ | refine i_tk rfl rfl (by omega) ?_ | refine i_stb rfl ?_ | refine i_alloc rfl ?_ | refine i_box rfl rfl ?_ | refine i_nv rfl ?_ | refine c_node ?_ ?_ | refine i_g rfl (fun h => ?_) (fun h => ?_) | refine c_cond rfl (fun h => ?_) (fun h => ?_) | refine i_f rfl rfl (hF) rfl ?_ | refine i_f rfl rfl (hR) rfl ?_ | refine i_f rfl rfl (hC) rfl ?_)
      all_goals first
        | exact e_ret ⟨rfl, _, rfl, rfl⟩
        | (refine e_ret ⟨rfl, _, rfl, ?_⟩
           show _ = V.tup [.int .i64 ((L.length : Int) - 1), .agg [.int .i64 0, .int .i64 0]]
           rw [show ((L.length : Int) - 1) = (plan.length : Int) from by omega]
           rfl)
        | (exfalso; clear hF hR hC ho hix; simp at *; omega)
def c_R2_FailureOf : Cmd :=
  (.seq
   (.ops [
   .op (some 2) none (.box 704132 4 (.t 0)),
   .op (some 4) none (.mov (.c (.int .i64 (0))))])
   (.cut
   (.seq
   (.seq
   (.ops [
   .op (some 5) none (.mov (.c (.int .i64 (0))))])
   (.cut
   (.block 0
   (.loop
   (.seq
   (.seq
   (.ops [
   .op (some 8) none (.mov (.t 5)),
   .op (some 9) none (.mov (.t 1)),
   .op (some 10) none (.len false (.t 9)),
   .op (some 11) none (.bin .lss false [] (.t 8) (.t 10))])
   (.cut
   (.cond (.t 11)
   .skip
   (.exit 0))))
   (.cut
   (.seq
   (.block 1
   (.seq
   (.ops [
   .op (some 15) none (.load true 4 (.t 2)),
   .op (some 16) none (.faddr 1 (.t 2)),
   .op (some 17) none (.load false 1 (.t 16)),
   .op (some 18) none (.mov (.t 1)),
   .op (some 19) none (.mov (.t 5)),
   .op (some 20) none (.bin .add false [] (.t 19) (.c (.int .i64 (1)))),
   .op (some 21) none (.slice false 1 (.t 18) none (some (.t 20))),
   .op (some 22) none (.call .f (.c (.fn 31 [])) [.t 15, .t 17, .t 21]),
   .op (some 14) none (.mov (.t 22)),
   .op (some 23) none (.extract (.t 14) 0),
   .op (some 24) none (.extract (.t 14) 1),
   .op (some 6) none (.mov (.t 23)),
   .op (some 7) none (.mov (.t 24))])
   (.cut
   (.seq
   (.ops [
   .op (some 25) none (.mov (.t 7)),
   .op (some 26) none (.not (.t 25))])
   (.cut
   (.cond (.t 26)
   (.seq
   (.ops [
   .op (some 27) none (.mov (.t 5)),
   .op (some 4) none (.mov (.t 27))])
   .ret)
   .skip))))))
   (.cut
   (.ops [
   .op (some 12) none (.mov (.t 5)),
   .op (some 13) none (.bin .add false [] (.t 12) (.c (.int .i64 (1)))),
   .op (some 5) none (.mov (.t 13))])))))))))
   (.cut
   (.seq
   (.seq
   (.ops [
   .op (some 28) none (.load true 4 (.t 2)),
   .op (some 29) none (.mov (.t 1)),
   .op (some 30) none (.call .f (.c (.fn 32 [])) [.t 28, .t 29])])
   (.cut
   (.cond (.t 30)
   (.seq
   (.ops [
   .op (some 4) none (.mov (.c (.int .i64 (-1))))])
   .ret)
   .skip)))
   (.cut
   (.seq
   (.ops [
   .op (some 31) none (.mov (.t 1)),
   .op (some 32) none (.len false (.t 31)),
   .op (some 4) none (.mov (.t 32))])
   .ret)))))))
def r_R2_FailureOf : List RVar := [.tmp 4]
def n_R2_FailureOf : Nat := 33
theorem k_R2_FailureOf : chkFn Go.Proofs.Try.prog 11 n_R2_FailureOf r_R2_FailureOf c_R2_FailureOf = true := by kernel_rfl
theorem f_R2_FailureOf (t : STask) (hv : SV t) (plan : List Int) (h60 : plan.length ≤ 60) (hr : ∀ x ∈ plan, 0 ≤ x ∧ x < t.ops.length) : Fc Go.Proofs.Try.prog 11 [skV t, .sl .p (plan.map i64V)] (.int .i64 (failI t plan)) := by
  have hS := f_R1_Solves t hv plan (by omega) hr
  refine Fn.step mixed k_R2_FailureOf ?_
  repeat (first | refine i_len rfl ?_ | refine i_s rfl ?_ | refine i_lenm rfl rfl rfl ?_ | refine c_seq ?_ | refine c_cut0 ?_ | refine c_ops ?_ | refine i_nil ?_ | refine e_seq ?_ | refine e_block ?_ | refine c_block ?_ | refine c_skip ?_ | refine c_ret ?_ | refine c_exit ?_ | refine e_exit rfl ?_ | refine i_s0 rfl ?_ | refine c_leaf ?_ | refine i_gt rfl ?_ | refine i_gf rfl ?_ | refine i_gd rfl ?_ | refine c_t rfl ?_ | refine c_f rfl ?_ | refine i_conv rfl (by simp only [InR, List.length_map]; omega) ?_ | refine i_add rfl rfl (by simp only [InR, List.length_map]; omega) ?_ | refine i_sub rfl rfl (by simp only [InR, List.length_map]; omega) ?_ | refine i_ixm rfl rfl (by assumption) ?_ | refine i_iai rfl rfl (by omega) (by assumption) rfl ?_ | refine i_iam rfl rfl (by assumption) rfl ?_ | refine i_tk rfl rfl (by omega) ?_ | refine i_stb rfl ?_ | refine i_alloc rfl ?_ | refine i_box rfl rfl ?_ | refine i_nv rfl ?_)
  refine c_for plan.length (fun k => [(1, .sl .p (plan.map i64V)), (2, .bptr 704132 0), (5, .int .i64 k)]) (fun _ => [(704132, .box (skV t))]) (fun k => ∃ e, endS t t.init (plan.take k) = some e) ⟨t.init, rfl⟩ ⟨by repeat (first | exact trivial | refine ⟨rfl, ?_⟩), by repeat (first | exact trivial | refine ⟨rfl, ?_⟩), rfl⟩ fun k hk hi => ?_
  obtain ⟨e, he⟩ := hi
  repeat (first | refine i_len rfl ?_ | refine i_s rfl ?_ | refine i_lenm rfl rfl rfl ?_ | refine c_seq ?_ | refine c_cut0 ?_ | refine c_ops ?_ | refine i_nil ?_ | refine e_seq ?_ | refine e_block ?_ | refine c_block ?_ | refine c_skip ?_ | refine c_ret ?_ | refine c_exit ?_ | refine e_exit rfl ?_ | refine i_s0 rfl ?_ | refine c_leaf ?_ | refine i_gt rfl ?_ | refine i_gf rfl ?_ | refine i_gd rfl ?_ | refine c_t rfl ?_ | refine c_f rfl ?_ | refine i_conv rfl (by simp only [InR, List.length_map]; omega) ?_ | refine i_add rfl rfl (by simp only [InR, List.length_map]; omega) ?_ | refine i_sub rfl rfl (by simp only [InR, List.length_map]; omega) ?_ | refine i_ixm rfl rfl (by assumption) ?_ | refine i_iai rfl rfl (by omega) (by assumption) rfl ?_ | refine i_iam rfl rfl (by assumption) rfl ?_ | refine i_tk rfl rfl (by omega) ?_ | refine i_stb rfl ?_ | refine i_alloc rfl ?_ | refine i_box rfl rfl ?_ | refine i_nv rfl ?_)
  refine c_cond rfl (fun h => ?_) (fun h => ?_)
  · have hlt : k < plan.length := by simpa using h
    have hE := f_R1_Ends t hv t.init hv.init (plan.take (k + 1)) (by simp; omega) (fun x hx => hr x (List.mem_of_mem_take hx))
    clear h hS
    cases hen : endS t t.init (plan.take (k + 1)) with
    | some e' =>
      rw [hen] at hE
      repeat (first | refine i_len rfl ?_ | refine i_s rfl ?_ | refine i_lenm rfl rfl rfl ?_ | refine c_seq ?_ | refine c_cut0 ?_ | refine c_ops ?_ | refine i_nil ?_ | refine e_seq ?_ | refine e_block ?_ | refine c_block ?_ | refine c_skip ?_ | refine c_ret ?_ | refine c_exit ?_ | refine e_exit rfl ?_ | refine i_s0 rfl ?_ | refine c_leaf ?_ | refine i_gt rfl ?_ | refine i_gf rfl ?_ | refine i_gd rfl ?_ | refine c_t rfl ?_ | refine c_f rfl ?_ | refine i_conv rfl (by simp only [InR, List.length_map]; omega) ?_ | refine i_add rfl rfl (by simp only [InR, List.length_map]; omega) ?_ | refine i_sub rfl rfl (by simp only [InR, List.length_map]; omega) ?_ | refine i_ixm rfl rfl (by assumption) ?_ | refine i_iai rfl rfl (by omega) (by assumption) rfl ?_ | refine i_iam rfl rfl (by assumption) rfl ?_ | refine i_tk rfl rfl (by omega) ?_ | refine i_stb rfl ?_ | refine i_alloc rfl ?_ | refine i_box rfl rfl ?_ | refine i_nv rfl ?_)
      refine i_tk (k := k + 1) rfl rfl (by omega) ?_
      repeat (first | refine i_len rfl ?_ | refine i_s rfl ?_ | refine i_lenm rfl rfl rfl ?_ | refine c_seq ?_ | refine c_cut0 ?_ | refine c_ops ?_ | refine i_nil ?_ | refine e_seq ?_ | refine e_block ?_ | refine c_block ?_ | refine c_skip ?_ | refine c_ret ?_ | refine c_exit ?_ | refine e_exit rfl ?_ | refine i_s0 rfl ?_ | refine c_leaf ?_ | refine i_gt rfl ?_ | refine i_gf rfl ?_ | refine i_gd rfl ?_ | refine c_t rfl ?_ | refine c_f rfl ?_ | refine i_conv rfl (by simp only [InR, List.length_map]; omega) ?_ | refine i_add rfl rfl (by simp only [InR, List.length_map]; omega) ?_ | refine i_sub rfl rfl (by simp only [InR, List.length_map]; omega) ?_ | refine i_ixm rfl rfl (by assumption) ?_ | refine i_iai rfl rfl (by omega) (by assumption) rfl ?_ | refine i_iam rfl rfl (by assumption) rfl ?_ | refine i_tk rfl rfl (by omega) ?_ | refine i_stb rfl ?_ | refine i_alloc rfl ?_ | refine i_box rfl rfl ?_ | refine i_nv rfl ?_ | refine i_f rfl rfl (hE) rfl ?_)
      exact e_for hlt ⟨e', hen⟩ ⟨by repeat (first | exact trivial | refine ⟨rfl, ?_⟩), by repeat (first | exact trivial | refine ⟨rfl, ?_⟩), rfl⟩
    | none =>
      rw [hen] at hE
      have hf : failI t plan = k := by
        have := run_fail hlt he hen
        unfold failI
        rw [if_pos (by omega), this]
      repeat (first | refine i_len rfl ?_ | refine i_s rfl ?_ | refine i_lenm rfl rfl rfl ?_ | refine c_seq ?_ | refine c_cut0 ?_ | refine c_ops ?_ | refine i_nil ?_ | refine e_seq ?_ | refine e_block ?_ | refine c_block ?_ | refine c_skip ?_ | refine c_ret ?_ | refine c_exit ?_ | refine e_exit rfl ?_ | refine i_s0 rfl ?_ | refine c_leaf ?_ | refine i_gt rfl ?_ | refine i_gf rfl ?_ | refine i_gd rfl ?_ | refine c_t rfl ?_ | refine c_f rfl ?_ | refine i_conv rfl (by simp only [InR, List.length_map]; omega) ?_ | refine i_add rfl rfl (by simp only [InR, List.length_map]; omega) ?_ | refine i_sub rfl rfl (by simp only [InR, List.length_map]; omega) ?_ | refine i_ixm rfl rfl (by assumption) ?_ | refine i_iai rfl rfl (by omega) (by assumption) rfl ?_ | refine i_iam rfl rfl (by assumption) rfl ?_ | refine i_tk rfl rfl (by omega) ?_ | refine i_stb rfl ?_ | refine i_alloc rfl ?_ | refine i_box rfl rfl ?_ | refine i_nv rfl ?_)
      refine i_tk (k := k + 1) rfl rfl (by omega) ?_
      repeat (first | refine i_len rfl ?_ | refine i_s rfl ?_ | refine i_lenm rfl rfl rfl ?_ | refine c_seq ?_ | refine c_cut0 ?_ | refine c_ops ?_ | refine i_nil ?_ | refine e_seq ?_ | refine e_block ?_ | refine c_block ?_ | refine c_skip ?_ | refine c_ret ?_ | refine c_exit ?_ | refine e_exit rfl ?_ | refine i_s0 rfl ?_ | refine c_leaf ?_ | refine i_gt rfl ?_ | refine i_gf rfl ?_ | refine i_gd rfl ?_ | refine c_t rfl ?_ | refine c_f rfl ?_ | refine i_conv rfl (by simp only [InR, List.length_map]; omega) ?_ | refine i_add rfl rfl (by simp only [InR, List.length_map]; omega) ?_ | refine i_sub rfl rfl (by simp only [InR, List.length_map]; omega) ?_ | refine i_ixm rfl rfl (by assumption) ?_ | refine i_iai rfl rfl (by omega) (by assumption) rfl ?_ | refine i_iam rfl rfl (by assumption) rfl ?_ | refine i_tk rfl rfl (by omega) ?_ | refine i_stb rfl ?_ | refine i_alloc rfl ?_ | refine i_box rfl rfl ?_ | refine i_nv rfl ?_ | refine i_f rfl rfl (hE) rfl ?_)
      exact e_ret ⟨rfl, _, rfl, congrArg (V.int .i64) hf⟩
  · have hge : k = plan.length := by have : ¬ k < plan.length := by simpa using h
                                     omega
    subst hge
    rw [List.take_length] at he
    have hra := run_all he
    cases hw : worksB t t.init plan with
    | true =>
      rw [hw] at hS
      repeat (first | refine i_len rfl ?_ | refine i_s rfl ?_ | refine i_lenm rfl rfl rfl ?_ | refine c_seq ?_ | refine c_cut0 ?_ | refine c_ops ?_ | refine i_nil ?_ | refine e_seq ?_ | refine e_block ?_ | refine c_block ?_ | refine c_skip ?_ | refine c_ret ?_ | refine c_exit ?_ | refine e_exit rfl ?_ | refine i_s0 rfl ?_ | refine c_leaf ?_ | refine i_gt rfl ?_ | refine i_gf rfl ?_ | refine i_gd rfl ?_ | refine c_t rfl ?_ | refine c_f rfl ?_ | refine i_conv rfl (by simp only [InR, List.length_map]; omega) ?_ | refine i_add rfl rfl (by simp only [InR, List.length_map]; omega) ?_ | refine i_sub rfl rfl (by simp only [InR, List.length_map]; omega) ?_ | refine i_ixm rfl rfl (by assumption) ?_ | refine i_iai rfl rfl (by omega) (by assumption) rfl ?_ | refine i_iam rfl rfl (by assumption) rfl ?_ | refine i_tk rfl rfl (by omega) ?_ | refine i_stb rfl ?_ | refine i_alloc rfl ?_ | refine i_box rfl rfl ?_ | refine i_nv rfl ?_ | refine i_f rfl rfl (hS) rfl ?_)
      exact e_ret ⟨rfl, _, rfl, congrArg (V.int .i64) (by unfold failI; rw [if_neg (by omega), hw, if_pos rfl])⟩
    | false =>
      rw [hw] at hS
      repeat (first | refine i_len rfl ?_ | refine i_s rfl ?_ | refine i_lenm rfl rfl rfl ?_ | refine c_seq ?_ | refine c_cut0 ?_ | refine c_ops ?_ | refine i_nil ?_ | refine e_seq ?_ | refine e_block ?_ | refine c_block ?_ | refine c_skip ?_ | refine c_ret ?_ | refine c_exit ?_ | refine e_exit rfl ?_ | refine i_s0 rfl ?_ | refine c_leaf ?_ | refine i_gt rfl ?_ | refine i_gf rfl ?_ | refine i_gd rfl ?_ | refine c_t rfl ?_ | refine c_f rfl ?_ | refine i_conv rfl (by simp only [InR, List.length_map]; omega) ?_ | refine i_add rfl rfl (by simp only [InR, List.length_map]; omega) ?_ | refine i_sub rfl rfl (by simp only [InR, List.length_map]; omega) ?_ | refine i_ixm rfl rfl (by assumption) ?_ | refine i_iai rfl rfl (by omega) (by assumption) rfl ?_ | refine i_iam rfl rfl (by assumption) rfl ?_ | refine i_tk rfl rfl (by omega) ?_ | refine i_stb rfl ?_ | refine i_alloc rfl ?_ | refine i_box rfl rfl ?_ | refine i_nv rfl ?_ | refine i_f rfl rfl (hS) rfl ?_)
      exact e_ret ⟨rfl, _, rfl, congrArg (V.int .i64) (by unfold failI; rw [if_neg (by omega), hw, if_neg (by simp)])⟩
def c_plans_solution : Cmd :=
  (.seq
   (.ops [
   .op (some 2) none (.box 2112132 4 (.t 0)),
   .op (some 4) none (.alloc 2112258 (.agg [.int .i64 (0), .int .i64 (0)]))])
   (.cut
   (.seq
   (.seq
   (.ops [
   .op (some 6) none (.load true 4 (.t 2)),
   .op (some 7) none (.mov (.t 1)),
   .op (some 8) none (.call .f (.c (.fn 27 [])) [.t 6, .t 7]),
   .op (some 5) none (.alloc 2112322 (.agg [.int .i64 (0), .int .i64 (0)])),
   .op none none (.store 2 (.t 5) (.t 8))])
   (.cut
   (.seq
   (.ops [
   .op (some 9) none (.load true 2 (.t 5)),
   .op (some 10) none (.build [.int .i64 (0), .int .i64 (0)] []),
   .op (some 11) none (.bin .neq true [.i, .i] (.t 9) (.t 10))])
   (.cut
   (.cond (.t 11)
   (.seq
   (.ops [
   .op (some 12) none (.load true 2 (.t 5)),
   .op none none (.store 2 (.t 4) (.t 12))])
   .ret)
   .skip)))))
   (.cut
   (.seq
   (.seq
   (.ops [
   .op (some 13) none (.load true 4 (.t 2)),
   .op (some 14) none (.faddr 1 (.t 2)),
   .op (some 15) none (.load false 1 (.t 14)),
   .op (some 16) none (.mov (.t 1)),
   .op (some 17) none (.call .f (.c (.fn 36 [])) [.t 13, .t 15, .t 16]),
   .op (some 18) none (.not (.t 17))])
   (.cut
   (.cond (.t 18)
   (.seq
   (.ops [
   .op (some 19) none (.build [.int .i64 (0), .int .i64 (0)] [(0, 1, .c (.int .i64 (11))), (1, 1, .c (.int .i64 (-8)))]),
   .op none none (.store 2 (.t 4) (.t 19))])
   .ret)
   .skip)))
   (.cut
   (.seq
   (.ops [
   .op (some 20) none (.build [.int .i64 (0), .int .i64 (0)] []),
   .op none none (.store 2 (.t 4) (.t 20))])
   .ret)))))))
def r_plans_solution : List RVar := [.cell true 2 4]
def n_plans_solution : Nat := 21
theorem k_plans_solution : chkFn Go.Proofs.Try.prog 33 n_plans_solution r_plans_solution c_plans_solution = true := by kernel_rfl
theorem f_plans_solution (t : STask) (ho : SkOk t) (plan : List Int) (hl : plan.length ≤ 140737488355328) : Fc Go.Proofs.Try.prog 33 [skV t, .sl .p (plan.map i64V)] (ftV (solF t plan)) := by
  have hF := f_strips_PlanFault t ho plan hl
  by_cases hb : plFault t plan = okF
  · obtain ⟨hv, h60, hr, _⟩ := plFault_ok hb
    have hW := f_strips_Works t hv t.init hv.init plan (by omega) hr
    rw [hb] at hF
    unfold solF
    rw [if_pos hb]
    cases hw : worksB t t.init plan
    all_goals
      rw [hw] at hW
      simp only [if_true, if_false, Bool.false_eq_true, reduceIte]
      refine Fn.step mixed k_plans_solution ?_
      repeat' (first | refine i_len rfl ?_ | refine i_s rfl ?_ | refine i_lenm rfl rfl rfl ?_ | refine c_seq ?_ | refine c_cut0 ?_ | refine c_ops ?_ | refine i_nil ?_ | refine e_seq ?_ | refine e_block ?_ | refine c_block ?_ | refine c_skip ?_ | refine c_ret ?_ | refine c_exit ?_ | refine e_exit rfl ?_ | refine i_s0 rfl ?_ | refine c_leaf ?_ | refine i_gt rfl ?_ | refine i_gf rfl ?_ | refine i_gd rfl ?_ | refine c_t rfl ?_ | refine c_f rfl ?_ | refine i_conv rfl (by simp only [InR, List.length_map]; omega) ?_ | refine i_add rfl rfl (by simp only [InR, List.length_map]; omega) ?_ | refine i_sub rfl rfl (by simp only [InR, List.length_map]; omega) ?_ | refine i_ixm rfl rfl (by assumption) ?_ | refine i_iai rfl rfl (by omega) (by assumption) rfl ?_ | refine i_iam rfl rfl (by assumption) rfl ?_ | refine i_tk rfl rfl (by omega) ?_ | refine i_stb rfl ?_ | refine i_alloc rfl ?_ | refine i_box rfl rfl ?_ | refine i_nv rfl ?_ | refine c_node ?_ ?_ | refine i_g rfl (fun h => ?_) (fun h => ?_) | refine c_cond rfl (fun h => ?_) (fun h => ?_) | refine i_f rfl rfl (hF) rfl ?_ | refine i_f rfl rfl (hW) rfl ?_)
      exact e_ret ⟨rfl, _, rfl, rfl⟩
  · unfold solF
    rw [if_neg hb]
    refine Fn.step mixed k_plans_solution ?_
    repeat' (first | refine i_len rfl ?_ | refine i_s rfl ?_ | refine i_lenm rfl rfl rfl ?_ | refine c_seq ?_ | refine c_cut0 ?_ | refine c_ops ?_ | refine i_nil ?_ | refine e_seq ?_ | refine e_block ?_ | refine c_block ?_ | refine c_skip ?_ | refine c_ret ?_ | refine c_exit ?_ | refine e_exit rfl ?_ | refine i_s0 rfl ?_ | refine c_leaf ?_ | refine i_gt rfl ?_ | refine i_gf rfl ?_ | refine i_gd rfl ?_ | refine c_t rfl ?_ | refine c_f rfl ?_ | refine i_conv rfl (by simp only [InR, List.length_map]; omega) ?_ | refine i_add rfl rfl (by simp only [InR, List.length_map]; omega) ?_ | refine i_sub rfl rfl (by simp only [InR, List.length_map]; omega) ?_ | refine i_ixm rfl rfl (by assumption) ?_ | refine i_iai rfl rfl (by omega) (by assumption) rfl ?_ | refine i_iam rfl rfl (by assumption) rfl ?_ | refine i_tk rfl rfl (by omega) ?_ | refine i_stb rfl ?_ | refine i_alloc rfl ?_ | refine i_box rfl rfl ?_ | refine i_nv rfl ?_ | refine c_node ?_ ?_ | refine i_g rfl (fun h => ?_) (fun h => ?_) | refine c_cond rfl (fun h => ?_) (fun h => ?_) | refine i_f rfl rfl (hF) rfl ?_)
    · exact e_ret ⟨rfl, _, rfl, rfl⟩
    all_goals exact absurd (eq_ok (by assumption)) hb
def c_R2_SolutionFault : Cmd :=
  (.seq
   (.ops [
   .op (some 2) none (.box 768132 4 (.t 0)),
   .op (some 4) none (.alloc 768258 (.agg [.int .i64 (0), .int .i64 (0)]))])
   (.cut
   (.seq
   (.ops [
   .op (some 6) none (.load true 4 (.t 2)),
   .op (some 7) none (.mov (.t 1)),
   .op (some 8) none (.call .f (.c (.fn 8 [])) [.t 6, .t 7]),
   .op (some 5) none (.alloc 768322 (.agg [.int .i64 (0), .int .i64 (0)])),
   .op none none (.store 2 (.t 5) (.t 8))])
   (.cut
   (.seq
   (.seq
   (.ops [
   .op (some 9) none (.faddr 0 (.t 5)),
   .op (some 10) none (.load false 1 (.t 9)),
   .op (some 11) none (.bin .eql false [.i] (.t 10) (.c (.int .i64 (0)))),
   .op (some 12) none (.mov (.t 11)),
   .op (some 13) (some (12, true)) (.load true 4 (.t 2)),
   .op (some 14) (some (12, true)) (.mov (.t 1)),
   .op (some 15) (some (12, true)) (.call .f (.c (.fn 32 [])) [.t 13, .t 14]),
   .op (some 16) (some (12, true)) (.not (.t 15)),
   .op (some 17) none (.pick (.t 12) (.t 16) (.c (.bool false)))])
   (.cut
   (.cond (.t 17)
   (.ops [
   .op (some 18) none (.call .f (.c (.fn 16 [])) [.c (.int .i64 (11)), .c (.int .i64 (-8))]),
   .op none none (.store 2 (.t 5) (.t 18))])
   .skip)))
   (.cut
   (.seq
   (.ops [
   .op (some 19) none (.load true 2 (.t 5)),
   .op none none (.store 2 (.t 4) (.t 19))])
   .ret)))))))
def r_R2_SolutionFault : List RVar := [.cell true 2 4]
def n_R2_SolutionFault : Nat := 20
theorem k_R2_SolutionFault : chkFn Go.Proofs.Try.prog 12 n_R2_SolutionFault r_R2_SolutionFault c_R2_SolutionFault = true := by kernel_rfl
theorem f_R2_SolutionFault (t : STask) (ho : SkOk t) (plan : List Int) (hl : plan.length ≤ 140737488355328) : Fc Go.Proofs.Try.prog 12 [skV t, .sl .p (plan.map i64V)] (ftV (solF t plan)) := by
  have hF := f_R1_PlanFault t ho plan hl
  by_cases hb : plFault t plan = okF
  · obtain ⟨hv, h60, hr, _⟩ := plFault_ok hb
    have hW := f_R1_Solves t hv plan (by omega) hr
    rw [hb] at hF
    unfold solF
    rw [if_pos hb]
    cases hw : worksB t t.init plan
    all_goals
      rw [hw] at hW
      simp only [if_true, if_false, Bool.false_eq_true, reduceIte]
      refine Fn.step mixed k_R2_SolutionFault ?_
      repeat' (first | refine i_len rfl ?_ | refine i_s rfl ?_ | refine i_lenm rfl rfl rfl ?_ | refine c_seq ?_ | refine c_cut0 ?_ | refine c_ops ?_ | refine i_nil ?_ | refine e_seq ?_ | refine e_block ?_ | refine c_block ?_ | refine c_skip ?_ | refine c_ret ?_ | refine c_exit ?_ | refine e_exit rfl ?_ | refine i_s0 rfl ?_ | refine c_leaf ?_ | refine i_gt rfl ?_ | refine i_gf rfl ?_ | refine i_gd rfl ?_ | refine c_t rfl ?_ | refine c_f rfl ?_ | refine i_conv rfl (by simp only [InR, List.length_map]; omega) ?_ | refine i_add rfl rfl (by simp only [InR, List.length_map]; omega) ?_ | refine i_sub rfl rfl (by simp only [InR, List.length_map]; omega) ?_ | refine i_ixm rfl rfl (by assumption) ?_ | refine i_iai rfl rfl (by omega) (by assumption) rfl ?_ | refine i_iam rfl rfl (by assumption) rfl ?_ | refine i_tk rfl rfl (by omega) ?_ | refine i_stb rfl ?_ | refine i_alloc rfl ?_ | refine i_box rfl rfl ?_ | refine i_nv rfl ?_ | refine c_node ?_ ?_ | refine i_g rfl (fun h => ?_) (fun h => ?_) | refine c_cond rfl (fun h => ?_) (fun h => ?_) | refine i_f rfl rfl (hF) rfl ?_ | refine i_f rfl rfl (hW) rfl ?_ | refine i_f rfl rfl (f_R1_At _ _) rfl ?_)
      exact e_ret ⟨rfl, _, rfl, rfl⟩
  · have hne : (plFault t plan).code ≠ 0 := fun h => hb ((plFault_iff _ _).1 h)
    unfold solF
    rw [if_neg hb]
    refine Fn.step mixed k_R2_SolutionFault ?_
    repeat' (first | refine i_len rfl ?_ | refine i_s rfl ?_ | refine i_lenm rfl rfl rfl ?_ | refine c_seq ?_ | refine c_cut0 ?_ | refine c_ops ?_ | refine i_nil ?_ | refine e_seq ?_ | refine e_block ?_ | refine c_block ?_ | refine c_skip ?_ | refine c_ret ?_ | refine c_exit ?_ | refine e_exit rfl ?_ | refine i_s0 rfl ?_ | refine c_leaf ?_ | refine i_gt rfl ?_ | refine i_gf rfl ?_ | refine i_gd rfl ?_ | refine c_t rfl ?_ | refine c_f rfl ?_ | refine i_conv rfl (by simp only [InR, List.length_map]; omega) ?_ | refine i_add rfl rfl (by simp only [InR, List.length_map]; omega) ?_ | refine i_sub rfl rfl (by simp only [InR, List.length_map]; omega) ?_ | refine i_ixm rfl rfl (by assumption) ?_ | refine i_iai rfl rfl (by omega) (by assumption) rfl ?_ | refine i_iam rfl rfl (by assumption) rfl ?_ | refine i_tk rfl rfl (by omega) ?_ | refine i_stb rfl ?_ | refine i_alloc rfl ?_ | refine i_box rfl rfl ?_ | refine i_nv rfl ?_ | refine c_node ?_ ?_ | refine i_g rfl (fun h => ?_) (fun h => ?_) | refine c_cond rfl (fun h => ?_) (fun h => ?_) | refine i_f rfl rfl (hF) rfl ?_)
    all_goals first
      | exact e_ret ⟨rfl, _, rfl, rfl⟩
      | (exfalso; clear hF ho; simp at *; omega)
end Hm
end

section
/- Contracts: plans without a step; plans that are shortened. -/
namespace Hm
open Go
set_option maxRecDepth 100000
set_option maxHeartbeats 4000000
set_option linter.unusedSimpArgs false
set_option linter.unusedVariables false
def c_Clone2 : Cmd :=
  (.seq
   (.ops [
   .op (some 2) none (.mov (.c (.sl .nil [])))])
   (.cut
   (.seq
   (.seq
   (.ops [
   .op (some 3) none (.mov (.t 0)),
   .op (some 4) none (.isnil false (.t 3))])
   (.cut
   (.cond (.t 4)
   (.seq
   (.ops [
   .op (some 2) none (.newArr 2176321)])
   .ret)
   .skip)))
   (.cut
   (.seq
   (.ops [
   .op (some 5) none (.bslA 2176321 1 []),
   .op (some 6) none (.mov (.t 0)),
   .op (some 7) none (.append 1 8 (.t 5) (.t 6)),
   .op (some 2) none (.mov (.t 7))])
   .ret)))))
def r_Clone2 : List RVar := [.tmp 2]
def n_Clone2 : Nat := 8
theorem k_Clone2 : chkFn Go.Proofs.Try.prog 34 n_Clone2 r_Clone2 c_Clone2 = true := by kernel_rfl
theorem ct_Clone1 {G : Type} {H : HT G} (s : List Int) (hl : s.length ≤ 17592186044416) (σ : Store) (g : G) (h1 : σ 2176321 = .unused) (hp : ∀ nm, σ nm ≠ .unused → nm ∈ [2176321]) :
    Cc Go.Proofs.Try.prog H 34 [.sl .p (s.map i64V)] [2176321] σ g fun r σ' g' => (∃ gen, r = .msl 2176321 gen 0 s.length ∧ σ' = stOf [(2176321, .arr gen (s.map i64V))]) ∧ g' = g := by
  refine CT.step _ mixed k_Clone2 hp fun hM => ?_
  repeat (first | refine i_len rfl ?_ | refine i_s rfl ?_ | refine i_lenm rfl rfl rfl ?_ | refine c_seq ?_ | refine c_cut0 ?_ | refine c_ops ?_ | refine i_nil ?_ | refine e_seq ?_ | refine e_block ?_ | refine c_block ?_ | refine c_skip ?_ | refine c_ret ?_ | refine c_exit ?_ | refine e_exit rfl ?_ | refine i_s0 rfl ?_ | refine c_leaf ?_ | refine i_gt rfl ?_ | refine i_gf rfl ?_ | refine i_gd rfl ?_ | refine c_t rfl ?_ | refine c_f rfl ?_ | refine i_conv rfl (by simp only [InR, List.length_map]; omega) ?_ | refine i_add rfl rfl (by simp only [InR, List.length_map]; omega) ?_ | refine i_sub rfl rfl (by simp only [InR, List.length_map]; omega) ?_ | refine i_ixm rfl rfl (by assumption) ?_ | refine i_iai rfl rfl (by omega) (by assumption) rfl ?_ | refine i_iam rfl rfl (by assumption) rfl ?_ | refine i_tk rfl rfl (by omega) ?_ | refine i_stb rfl ?_ | refine i_alloc rfl ?_ | refine i_box rfl rfl ?_ | refine i_nv rfl ?_)
  refine i_isnil rfl fun b hb => ?_
  repeat (first | refine i_len rfl ?_ | refine i_s rfl ?_ | refine i_lenm rfl rfl rfl ?_ | refine c_seq ?_ | refine c_cut0 ?_ | refine c_ops ?_ | refine i_nil ?_ | refine e_seq ?_ | refine e_block ?_ | refine c_block ?_ | refine c_skip ?_ | refine c_ret ?_ | refine c_exit ?_ | refine e_exit rfl ?_ | refine i_s0 rfl ?_ | refine c_leaf ?_ | refine i_gt rfl ?_ | refine i_gf rfl ?_ | refine i_gd rfl ?_ | refine c_t rfl ?_ | refine c_f rfl ?_ | refine i_conv rfl (by simp only [InR, List.length_map]; omega) ?_ | refine i_add rfl rfl (by simp only [InR, List.length_map]; omega) ?_ | refine i_sub rfl rfl (by simp only [InR, List.length_map]; omega) ?_ | refine i_ixm rfl rfl (by assumption) ?_ | refine i_iai rfl rfl (by omega) (by assumption) rfl ?_ | refine i_iam rfl rfl (by assumption) rfl ?_ | refine i_tk rfl rfl (by omega) ?_ | refine i_stb rfl ?_ | refine i_alloc rfl ?_ | refine i_box rfl rfl ?_ | refine i_nv rfl ?_)
  refine c_cond rfl (fun h => ?_) (fun h => ?_)
  · have e : s = [] := by simpa using hb (by simpa using h)
    subst e
    repeat (first | refine i_len rfl ?_ | refine i_s rfl ?_ | refine i_lenm rfl rfl rfl ?_ | refine c_seq ?_ | refine c_cut0 ?_ | refine c_ops ?_ | refine i_nil ?_ | refine e_seq ?_ | refine e_block ?_ | refine c_block ?_ | refine c_skip ?_ | refine c_ret ?_ | refine c_exit ?_ | refine e_exit rfl ?_ | refine i_s0 rfl ?_ | refine c_leaf ?_ | refine i_gt rfl ?_ | refine i_gf rfl ?_ | refine i_gd rfl ?_ | refine c_t rfl ?_ | refine c_f rfl ?_ | refine i_conv rfl (by simp only [InR, List.length_map]; omega) ?_ | refine i_add rfl rfl (by simp only [InR, List.length_map]; omega) ?_ | refine i_sub rfl rfl (by simp only [InR, List.length_map]; omega) ?_ | refine i_ixm rfl rfl (by assumption) ?_ | refine i_iai rfl rfl (by omega) (by assumption) rfl ?_ | refine i_iam rfl rfl (by assumption) rfl ?_ | refine i_tk rfl rfl (by omega) ?_ | refine i_stb rfl ?_ | refine i_alloc rfl ?_ | refine i_box rfl rfl ?_ | refine i_nv rfl ?_)
    refine i_na h1 ?_
    repeat (first | refine i_len rfl ?_ | refine i_s rfl ?_ | refine i_lenm rfl rfl rfl ?_ | refine c_seq ?_ | refine c_cut0 ?_ | refine c_ops ?_ | refine i_nil ?_ | refine e_seq ?_ | refine e_block ?_ | refine c_block ?_ | refine c_skip ?_ | refine c_ret ?_ | refine c_exit ?_ | refine e_exit rfl ?_ | refine i_s0 rfl ?_ | refine c_leaf ?_ | refine i_gt rfl ?_ | refine i_gf rfl ?_ | refine i_gd rfl ?_ | refine c_t rfl ?_ | refine c_f rfl ?_ | refine i_conv rfl (by simp only [InR, List.length_map]; omega) ?_ | refine i_add rfl rfl (by simp only [InR, List.length_map]; omega) ?_ | refine i_sub rfl rfl (by simp only [InR, List.length_map]; omega) ?_ | refine i_ixm rfl rfl (by assumption) ?_ | refine i_iai rfl rfl (by omega) (by assumption) rfl ?_ | refine i_iam rfl rfl (by assumption) rfl ?_ | refine i_tk rfl rfl (by omega) ?_ | refine i_stb rfl ?_ | refine i_alloc rfl ?_ | refine i_box rfl rfl ?_ | refine i_nv rfl ?_)
    exact e_ret ⟨rfl, _, rfl, rfl, rfl, ⟨0, rfl, restr_stOf _ _⟩, rfl⟩
  · repeat (first | refine i_len rfl ?_ | refine i_s rfl ?_ | refine i_lenm rfl rfl rfl ?_ | refine c_seq ?_ | refine c_cut0 ?_ | refine c_ops ?_ | refine i_nil ?_ | refine e_seq ?_ | refine e_block ?_ | refine c_block ?_ | refine c_skip ?_ | refine c_ret ?_ | refine c_exit ?_ | refine e_exit rfl ?_ | refine i_s0 rfl ?_ | refine c_leaf ?_ | refine i_gt rfl ?_ | refine i_gf rfl ?_ | refine i_gd rfl ?_ | refine c_t rfl ?_ | refine c_f rfl ?_ | refine i_conv rfl (by simp only [InR, List.length_map]; omega) ?_ | refine i_add rfl rfl (by simp only [InR, List.length_map]; omega) ?_ | refine i_sub rfl rfl (by simp only [InR, List.length_map]; omega) ?_ | refine i_ixm rfl rfl (by assumption) ?_ | refine i_iai rfl rfl (by omega) (by assumption) rfl ?_ | refine i_iam rfl rfl (by assumption) rfl ?_ | refine i_tk rfl rfl (by omega) ?_ | refine i_stb rfl ?_ | refine i_alloc rfl ?_ | refine i_box rfl rfl ?_ | refine i_nv rfl ?_)
    refine i_bsla h1 rfl rfl rfl ?_
    repeat (first | refine i_len rfl ?_ | refine i_s rfl ?_ | refine i_lenm rfl rfl rfl ?_ | refine c_seq ?_ | refine c_cut0 ?_ | refine c_ops ?_ | refine i_nil ?_ | refine e_seq ?_ | refine e_block ?_ | refine c_block ?_ | refine c_skip ?_ | refine c_ret ?_ | refine c_exit ?_ | refine e_exit rfl ?_ | refine i_s0 rfl ?_ | refine c_leaf ?_ | refine i_gt rfl ?_ | refine i_gf rfl ?_ | refine i_gd rfl ?_ | refine c_t rfl ?_ | refine c_f rfl ?_ | refine i_conv rfl (by simp only [InR, List.length_map]; omega) ?_ | refine i_add rfl rfl (by simp only [InR, List.length_map]; omega) ?_ | refine i_sub rfl rfl (by simp only [InR, List.length_map]; omega) ?_ | refine i_ixm rfl rfl (by assumption) ?_ | refine i_iai rfl rfl (by omega) (by assumption) rfl ?_ | refine i_iam rfl rfl (by assumption) rfl ?_ | refine i_tk rfl rfl (by omega) ?_ | refine i_stb rfl ?_ | refine i_alloc rfl ?_ | refine i_box rfl rfl ?_ | refine i_nv rfl ?_)
    refine i_appmM (l := []) (f := i64V) s rfl rfl rfl rfl rfl (fun c hc => ⟨rfl, rfl⟩) (by simp; omega) (by simp; omega) ?_
    repeat (first | refine i_len rfl ?_ | refine i_s rfl ?_ | refine i_lenm rfl rfl rfl ?_ | refine c_seq ?_ | refine c_cut0 ?_ | refine c_ops ?_ | refine i_nil ?_ | refine e_seq ?_ | refine e_block ?_ | refine c_block ?_ | refine c_skip ?_ | refine c_ret ?_ | refine c_exit ?_ | refine e_exit rfl ?_ | refine i_s0 rfl ?_ | refine c_leaf ?_ | refine i_gt rfl ?_ | refine i_gf rfl ?_ | refine i_gd rfl ?_ | refine c_t rfl ?_ | refine c_f rfl ?_ | refine i_conv rfl (by simp only [InR, List.length_map]; omega) ?_ | refine i_add rfl rfl (by simp only [InR, List.length_map]; omega) ?_ | refine i_sub rfl rfl (by simp only [InR, List.length_map]; omega) ?_ | refine i_ixm rfl rfl (by assumption) ?_ | refine i_iai rfl rfl (by omega) (by assumption) rfl ?_ | refine i_iam rfl rfl (by assumption) rfl ?_ | refine i_tk rfl rfl (by omega) ?_ | refine i_stb rfl ?_ | refine i_alloc rfl ?_ | refine i_box rfl rfl ?_ | refine i_nv rfl ?_)
    refine e_ret ⟨rfl, _, rfl, rfl, rfl, ⟨1, rfl, ?_⟩, rfl⟩
    rw [restr_stOf]; rfl
def c_RunB : Cmd :=
  (.seq
   (.ops [
   .op (some 3) none (.box 1792196 4 (.t 0)),
   .op (some 6) none (.mov (.c (.sl .nil [])))])
   (.cut
   (.seq
   (.ops [
   .op (some 10) none (.mov (.t 1)),
   .op (some 11) none (.call .f (.c (.fn 34 [])) [.t 10]),
   .op (some 12) none (.bslO 1792769 1 [.t 11]),
   .op (some 7) none (.mov (.t 12))])
   (.cut
   (.seq
   (.seq
   (.ops [
   .op (some 13) none (.mov (.t 2)),
   .op (some 14) none (.len false (.t 13)),
   .op (some 15) none (.mov (.c (.int .i64 (0))))])
   (.cut
   (.block 0
   (.loop
   (.seq
   (.ops [
   .op (some 16) none (.bin .lss false [] (.t 15) (.t 14))])
   (.cut
   (.seq
   (.cond (.t 16)
   .skip
   (.exit 0))
   (.cut
   (.seq
   (.block 1
   (.seq
   (.ops [
   .op (some 17) none (.iaddr 1 (.t 13) (.t 15)),
   .op (some 18) none (.load false 1 (.t 17)),
   .op (some 9) none (.mov (.t 18))])
   (.cut
   (.seq
   (.seq
   (.ops [
   .op (some 19) none (.load true 4 (.t 3)),
   .op (some 20) none (.mov (.t 1)),
   .op (some 21) none (.mov (.t 9)),
   .op (some 22) none (.call .f (.c (.fn 45 [])) [.t 19, .t 20, .t 21]),
   .op (some 23) none (.not (.t 22))])
   (.cut
   (.cond (.t 23)
   (.exit 0)
   .skip)))
   (.cut
   (.seq
   (.ops [
   .op (some 24) none (.load true 4 (.t 3)),
   .op (some 25) none (.mov (.t 1)),
   .op (some 26) none (.mov (.t 9)),
   .op (some 27) none (.call .f (.c (.fn 46 [])) [.t 24, .t 25, .t 26]),
   .op (some 1) none (.mov (.t 27))])
   (.cut
   (.ops [
   .op (some 28) none (.mov (.t 7)),
   .op (some 29) none (.mov (.t 1)),
   .op (some 30) none (.bsl 1 [.t 29]),
   .op (some 31) none (.append 1 24 (.t 28) (.t 30)),
   .op (some 7) none (.mov (.t 31))]))))))))
   (.cut
   (.ops [
   .op (some 32) none (.bin .add false [] (.t 15) (.c (.int .i64 (1)))),
   .op (some 15) none (.mov (.t 32))])))))))))))
   (.seq (.frz 7) (.cut
   (.seq
   (.ops [
   .op (some 33) none (.mov (.t 7)),
   .op (some 6) none (.mov (.t 33))])
   .ret))))))))
def r_RunB : List RVar := [.tmp 6]
def n_RunB : Nat := 34
theorem k_RunB : chkFn Go.Proofs.Try.prog 28 n_RunB r_RunB c_RunB = true := by kernel_rfl
theorem ct_Run (t : STask) (hv : SV t) (s : List Int) (hs : IsSet t.facts s) (plan : List Int) (hl : plan.length ≤ 1000000) (hp : ∀ x ∈ plan, 0 ≤ x ∧ x < t.ops.length) (gen : Nat) (σ : Store) (hσ : σ 2176321 = .arr gen (plan.map i64V)) (hpn : ∀ nm, σ nm ≠ .unused → nm ∈ [2176321]) :
    Cc Go.Proofs.Try.prog noH 28 [skV t, .sl .p (s.map i64V), .msl 2176321 gen 0 plan.length] [2176321] σ () fun v σ' g' => v = .sl .p ((s :: runT t s plan).map ssV) ∧ σ' = stOf [(2176321, .arr gen (plan.map i64V))] ∧ g' = () := by
  have hsl := set_le hv hs
  have hC := f_slices_Clone_int s (by omega)
  refine CT.step _ mixed k_RunB hpn fun hM => ?_
  refine c_seq ?_
  refine c_ops ?_
  refine i_box (by by_cases h : σ 1792196 = .unused; exact h; have := hpn _ h; simp at this) rfl ?_
  refine i_s rfl ?_
  refine i_nil ?_
  refine e_seq ?_
  refine c_cut [(1, .sl .p (s.map i64V)), (2, .msl 2176321 gen 0 plan.length), (3, .bptr 1792196 0)] [(2176321, .arr gen (plan.map i64V)), (1792196, .box (skV t))] ⟨⟨rfl, rfl, rfl, trivial⟩, ⟨by rw [upt_ne _ _ (by decide)]; exact hσ, by rw [upt_self]; rfl, trivial⟩, rfl⟩ ?_
  repeat (first | refine i_len rfl ?_ | refine i_s rfl ?_ | refine i_lenm rfl rfl rfl ?_ | refine c_seq ?_ | refine c_cut0 ?_ | refine c_ops ?_ | refine i_nil ?_ | refine e_seq ?_ | refine e_block ?_ | refine c_block ?_ | refine c_skip ?_ | refine c_ret ?_ | refine c_exit ?_ | refine e_exit rfl ?_ | refine i_s0 rfl ?_ | refine c_leaf ?_ | refine i_gt rfl ?_ | refine i_gf rfl ?_ | refine i_gd rfl ?_ | refine c_t rfl ?_ | refine c_f rfl ?_ | refine i_conv rfl (by simp only [InR, List.length_map]; omega) ?_ | refine i_add rfl rfl (by simp only [InR, List.length_map]; omega) ?_ | refine i_sub rfl rfl (by simp only [InR, List.length_map]; omega) ?_ | refine i_ixm rfl rfl (by assumption) ?_ | refine i_iai rfl rfl (by omega) (by assumption) rfl ?_ | refine i_iam rfl rfl (by assumption) rfl ?_ | refine i_tk rfl rfl (by omega) ?_ | refine i_stb rfl ?_ | refine i_alloc rfl ?_ | refine i_box rfl rfl ?_ | refine i_nv rfl ?_ | refine i_f rfl rfl (hC) rfl ?_)
  refine i_bslo rfl rfl rfl rfl ?_
  repeat (first | refine i_len rfl ?_ | refine i_s rfl ?_ | refine i_lenm rfl rfl rfl ?_ | refine c_seq ?_ | refine c_cut0 ?_ | refine c_ops ?_ | refine i_nil ?_ | refine e_seq ?_ | refine e_block ?_ | refine c_block ?_ | refine c_skip ?_ | refine c_ret ?_ | refine c_exit ?_ | refine e_exit rfl ?_ | refine i_s0 rfl ?_ | refine c_leaf ?_ | refine i_gt rfl ?_ | refine i_gf rfl ?_ | refine i_gd rfl ?_ | refine c_t rfl ?_ | refine c_f rfl ?_ | refine i_conv rfl (by simp only [InR, List.length_map]; omega) ?_ | refine i_add rfl rfl (by simp only [InR, List.length_map]; omega) ?_ | refine i_sub rfl rfl (by simp only [InR, List.length_map]; omega) ?_ | refine i_ixm rfl rfl (by assumption) ?_ | refine i_iai rfl rfl (by omega) (by assumption) rfl ?_ | refine i_iam rfl rfl (by assumption) rfl ?_ | refine i_tk rfl rfl (by omega) ?_ | refine i_stb rfl ?_ | refine i_alloc rfl ?_ | refine i_box rfl rfl ?_ | refine i_nv rfl ?_)
  refine c_lp (ι := Nat × List Int × List (List Int)) (fun i => [(1, .sl .p (i.2.1.map i64V)), (3, .bptr 1792196 0), (7, .sl (.own 1792769) (i.2.2.map ssV)), (13, .msl 2176321 gen 0 plan.length), (14, .int .i64 plan.length), (15, .int .i64 i.1)])
    (fun i => [(2176321, .arr gen (plan.map i64V)), (1792196, .box (skV t)), (1792769, .vec i.2.2.length)])
    (fun i => i.1 ≤ plan.length ∧ i.2.2.length = i.1 + 1 ∧ IsSet t.facts i.2.1 ∧ i.2.2 ++ runT t i.2.1 (plan.drop i.1) = s :: runT t s plan) (fun i => plan.length - i.1) (0, s, [s]) ⟨Nat.zero_le _, rfl, hs, rfl⟩ ⟨by repeat (first | exact trivial | refine ⟨rfl, ?_⟩), by repeat (first | exact trivial | refine ⟨rfl, ?_⟩), rfl⟩ fun i hi => ?_
  obtain ⟨k, u, acc⟩ := i
  obtain ⟨h1, h2, h3, h4⟩ := hi
  simp only at h1 h2 h3 h4
  have hul := set_le hv h3
  clear hC hs hsl hσ hpn
  repeat (first | refine i_len rfl ?_ | refine i_s rfl ?_ | refine i_lenm rfl rfl rfl ?_ | refine c_seq ?_ | refine c_cut0 ?_ | refine c_ops ?_ | refine i_nil ?_ | refine e_seq ?_ | refine e_block ?_ | refine c_block ?_ | refine c_skip ?_ | refine c_ret ?_ | refine c_exit ?_ | refine e_exit rfl ?_ | refine i_s0 rfl ?_ | refine c_leaf ?_ | refine i_gt rfl ?_ | refine i_gf rfl ?_ | refine i_gd rfl ?_ | refine c_t rfl ?_ | refine c_f rfl ?_ | refine i_conv rfl (by simp only [InR, List.length_map]; omega) ?_ | refine i_add rfl rfl (by simp only [InR, List.length_map]; omega) ?_ | refine i_sub rfl rfl (by simp only [InR, List.length_map]; omega) ?_ | refine i_ixm rfl rfl (by assumption) ?_ | refine i_iai rfl rfl (by omega) (by assumption) rfl ?_ | refine i_iam rfl rfl (by assumption) rfl ?_ | refine i_tk rfl rfl (by omega) ?_ | refine i_stb rfl ?_ | refine i_alloc rfl ?_ | refine i_box rfl rfl ?_ | refine i_nv rfl ?_)
  refine c_cond rfl (fun h => ?_) (fun h => ?_)
  · have hlt : k < plan.length := by simpa using h
    obtain ⟨x, hx⟩ := get_some hlt
    obtain ⟨x0, x1⟩ := hp x (mem_get hx)
    obtain ⟨o, hc⟩ := get_some (l := t.ops) (k := x.toNat) (by omega)
    have hoo := hv.op o (mem_get hc)
    have hC := f_strips_Can t u (by omega) h3.ss x x0 o hc (by have := set_le hv hoo.pre; omega) hoo.pre.ss
    have hN := f_strips_Next t u (by omega) x x0 o hc (by have := set_le hv hoo.add; omega) (by have := set_le hv hoo.del; omega) hoo.del.ss
    have ed : plan.drop k = x :: plan.drop (k + 1) := by
      obtain ⟨h5, h6⟩ := List.getElem?_eq_some_iff.1 hx
      rw [← h6]; exact List.drop_eq_getElem_cons hlt
    have hst := stepS_op (s := u) hc
    rw [ed] at h4
    simp only [runT, hst] at h4
    clear h
    repeat (first | refine i_len rfl ?_ | refine i_s rfl ?_ | refine i_lenm rfl rfl rfl ?_ | refine c_seq ?_ | refine c_cut0 ?_ | refine c_ops ?_ | refine i_nil ?_ | refine e_seq ?_ | refine e_block ?_ | refine c_block ?_ | refine c_skip ?_ | refine c_ret ?_ | refine c_exit ?_ | refine e_exit rfl ?_ | refine i_s0 rfl ?_ | refine c_leaf ?_ | refine i_gt rfl ?_ | refine i_gf rfl ?_ | refine i_gd rfl ?_ | refine c_t rfl ?_ | refine c_f rfl ?_ | refine i_conv rfl (by simp only [InR, List.length_map]; omega) ?_ | refine i_add rfl rfl (by simp only [InR, List.length_map]; omega) ?_ | refine i_sub rfl rfl (by simp only [InR, List.length_map]; omega) ?_ | refine i_ixm rfl rfl (by assumption) ?_ | refine i_iai rfl rfl (by omega) (by assumption) rfl ?_ | refine i_iam rfl rfl (by assumption) rfl ?_ | refine i_tk rfl rfl (by omega) ?_ | refine i_stb rfl ?_ | refine i_alloc rfl ?_ | refine i_box rfl rfl ?_ | refine i_nv rfl ?_)
    refine i_ima rfl rfl rfl rfl (by omega) (by omega) rfl ?_
    refine i_ldp (row := i64V x) rfl rfl rfl (by simp [hx]) rfl ?_
    cases hi : inclB o.pre u with
    | true =>
      rw [hi] at hC
      rw [hi, if_pos rfl] at h4
      repeat (first | refine i_len rfl ?_ | refine i_s rfl ?_ | refine i_lenm rfl rfl rfl ?_ | refine c_seq ?_ | refine c_cut0 ?_ | refine c_ops ?_ | refine i_nil ?_ | refine e_seq ?_ | refine e_block ?_ | refine c_block ?_ | refine c_skip ?_ | refine c_ret ?_ | refine c_exit ?_ | refine e_exit rfl ?_ | refine i_s0 rfl ?_ | refine c_leaf ?_ | refine i_gt rfl ?_ | refine i_gf rfl ?_ | refine i_gd rfl ?_ | refine c_t rfl ?_ | refine c_f rfl ?_ | refine i_conv rfl (by simp only [InR, List.length_map]; omega) ?_ | refine i_add rfl rfl (by simp only [InR, List.length_map]; omega) ?_ | refine i_sub rfl rfl (by simp only [InR, List.length_map]; omega) ?_ | refine i_ixm rfl rfl (by assumption) ?_ | refine i_iai rfl rfl (by omega) (by assumption) rfl ?_ | refine i_iam rfl rfl (by assumption) rfl ?_ | refine i_tk rfl rfl (by omega) ?_ | refine i_stb rfl ?_ | refine i_alloc rfl ?_ | refine i_box rfl rfl ?_ | refine i_nv rfl ?_ | refine i_f rfl rfl (hC) rfl ?_ | refine i_f rfl rfl (hN) rfl ?_)
      refine i_appM (f := ssV) (c := updL u o.add o.del) rfl rfl rfl rfl rfl (by dsimp only; omega) (by dsimp only; omega) ?_
      repeat (first | refine i_len rfl ?_ | refine i_s rfl ?_ | refine i_lenm rfl rfl rfl ?_ | refine c_seq ?_ | refine c_cut0 ?_ | refine c_ops ?_ | refine i_nil ?_ | refine e_seq ?_ | refine e_block ?_ | refine c_block ?_ | refine c_skip ?_ | refine c_ret ?_ | refine c_exit ?_ | refine e_exit rfl ?_ | refine i_s0 rfl ?_ | refine c_leaf ?_ | refine i_gt rfl ?_ | refine i_gf rfl ?_ | refine i_gd rfl ?_ | refine c_t rfl ?_ | refine c_f rfl ?_ | refine i_conv rfl (by simp only [InR, List.length_map]; omega) ?_ | refine i_add rfl rfl (by simp only [InR, List.length_map]; omega) ?_ | refine i_sub rfl rfl (by simp only [InR, List.length_map]; omega) ?_ | refine i_ixm rfl rfl (by assumption) ?_ | refine i_iai rfl rfl (by omega) (by assumption) rfl ?_ | refine i_iam rfl rfl (by assumption) rfl ?_ | refine i_tk rfl rfl (by omega) ?_ | refine i_stb rfl ?_ | refine i_alloc rfl ?_ | refine i_box rfl rfl ?_ | refine i_nv rfl ?_)
      exact e_lp (k + 1, updL u o.add o.del, acc ++ [updL u o.add o.del]) ⟨hlt, by simp [h2], updL_set h3 hoo.add, by simpa using h4⟩ (by simp only; omega) ⟨⟨rfl, rfl, rfl, rfl, rfl, rfl, trivial⟩, ⟨rfl, rfl, by simp; rfl, trivial⟩, rfl⟩
    | false =>
      rw [hi] at hC
      rw [hi, if_neg (by simp), List.append_nil] at h4
      repeat (first | refine i_len rfl ?_ | refine i_s rfl ?_ | refine i_lenm rfl rfl rfl ?_ | refine c_seq ?_ | refine c_cut0 ?_ | refine c_ops ?_ | refine i_nil ?_ | refine e_seq ?_ | refine e_block ?_ | refine c_block ?_ | refine c_skip ?_ | refine c_ret ?_ | refine c_exit ?_ | refine e_exit rfl ?_ | refine i_s0 rfl ?_ | refine c_leaf ?_ | refine i_gt rfl ?_ | refine i_gf rfl ?_ | refine i_gd rfl ?_ | refine c_t rfl ?_ | refine c_f rfl ?_ | refine i_conv rfl (by simp only [InR, List.length_map]; omega) ?_ | refine i_add rfl rfl (by simp only [InR, List.length_map]; omega) ?_ | refine i_sub rfl rfl (by simp only [InR, List.length_map]; omega) ?_ | refine i_ixm rfl rfl (by assumption) ?_ | refine i_iai rfl rfl (by omega) (by assumption) rfl ?_ | refine i_iam rfl rfl (by assumption) rfl ?_ | refine i_tk rfl rfl (by omega) ?_ | refine i_stb rfl ?_ | refine i_alloc rfl ?_ | refine i_box rfl rfl ?_ | refine i_nv rfl ?_ | refine i_f rfl rfl (hC) rfl ?_ | refine i_f rfl rfl (hN) rfl ?_)
      refine c_frzv rfl rfl ?_
      repeat (first | refine i_len rfl ?_ | refine i_s rfl ?_ | refine i_lenm rfl rfl rfl ?_ | refine c_seq ?_ | refine c_cut0 ?_ | refine c_ops ?_ | refine i_nil ?_ | refine e_seq ?_ | refine e_block ?_ | refine c_block ?_ | refine c_skip ?_ | refine c_ret ?_ | refine c_exit ?_ | refine e_exit rfl ?_ | refine i_s0 rfl ?_ | refine c_leaf ?_ | refine i_gt rfl ?_ | refine i_gf rfl ?_ | refine i_gd rfl ?_ | refine c_t rfl ?_ | refine c_f rfl ?_ | refine i_conv rfl (by simp only [InR, List.length_map]; omega) ?_ | refine i_add rfl rfl (by simp only [InR, List.length_map]; omega) ?_ | refine i_sub rfl rfl (by simp only [InR, List.length_map]; omega) ?_ | refine i_ixm rfl rfl (by assumption) ?_ | refine i_iai rfl rfl (by omega) (by assumption) rfl ?_ | refine i_iam rfl rfl (by assumption) rfl ?_ | refine i_tk rfl rfl (by omega) ?_ | refine i_stb rfl ?_ | refine i_alloc rfl ?_ | refine i_box rfl rfl ?_ | refine i_nv rfl ?_)
      refine e_ret ⟨rfl, _, rfl, rfl, rfl, by rw [← h4]; rfl, ?_, rfl⟩
      rw [restr_stOf]; rfl
  · have hge : k = plan.length := by have : ¬ k < plan.length := by simpa using h
                                     omega
    subst hge
    rw [List.drop_length] at h4
    simp only [runT, List.append_nil] at h4
    repeat (first | refine i_len rfl ?_ | refine i_s rfl ?_ | refine i_lenm rfl rfl rfl ?_ | refine c_seq ?_ | refine c_cut0 ?_ | refine c_ops ?_ | refine i_nil ?_ | refine e_seq ?_ | refine e_block ?_ | refine c_block ?_ | refine c_skip ?_ | refine c_ret ?_ | refine c_exit ?_ | refine e_exit rfl ?_ | refine i_s0 rfl ?_ | refine c_leaf ?_ | refine i_gt rfl ?_ | refine i_gf rfl ?_ | refine i_gd rfl ?_ | refine c_t rfl ?_ | refine c_f rfl ?_ | refine i_conv rfl (by simp only [InR, List.length_map]; omega) ?_ | refine i_add rfl rfl (by simp only [InR, List.length_map]; omega) ?_ | refine i_sub rfl rfl (by simp only [InR, List.length_map]; omega) ?_ | refine i_ixm rfl rfl (by assumption) ?_ | refine i_iai rfl rfl (by omega) (by assumption) rfl ?_ | refine i_iam rfl rfl (by assumption) rfl ?_ | refine i_tk rfl rfl (by omega) ?_ | refine i_stb rfl ?_ | refine i_alloc rfl ?_ | refine i_box rfl rfl ?_ | refine i_nv rfl ?_)
    refine c_frzv rfl rfl ?_
    repeat (first | refine i_len rfl ?_ | refine i_s rfl ?_ | refine i_lenm rfl rfl rfl ?_ | refine c_seq ?_ | refine c_cut0 ?_ | refine c_ops ?_ | refine i_nil ?_ | refine e_seq ?_ | refine e_block ?_ | refine c_block ?_ | refine c_skip ?_ | refine c_ret ?_ | refine c_exit ?_ | refine e_exit rfl ?_ | refine i_s0 rfl ?_ | refine c_leaf ?_ | refine i_gt rfl ?_ | refine i_gf rfl ?_ | refine i_gd rfl ?_ | refine c_t rfl ?_ | refine c_f rfl ?_ | refine i_conv rfl (by simp only [InR, List.length_map]; omega) ?_ | refine i_add rfl rfl (by simp only [InR, List.length_map]; omega) ?_ | refine i_sub rfl rfl (by simp only [InR, List.length_map]; omega) ?_ | refine i_ixm rfl rfl (by assumption) ?_ | refine i_iai rfl rfl (by omega) (by assumption) rfl ?_ | refine i_iam rfl rfl (by assumption) rfl ?_ | refine i_tk rfl rfl (by omega) ?_ | refine i_stb rfl ?_ | refine i_alloc rfl ?_ | refine i_box rfl rfl ?_ | refine i_nv rfl ?_)
    refine e_ret ⟨rfl, _, rfl, rfl, rfl, by rw [← h4]; rfl, ?_, rfl⟩
    rw [restr_stOf]; rfl
end Hm
end

section
/- Contracts: plans without a step and what cannot be executed then. -/
namespace Hm
open Go
set_option maxRecDepth 100000
set_option maxHeartbeats 4000000
set_option linter.unusedSimpArgs false
set_option linter.unusedVariables false
theorem i_dr {G : Type} {P : Program} {H : HT G} {pn : List Nat} {Q : Exit → Env → Store → G → Prop} {fs : List (Frm G)} {ρ : Env} {σ : Store} {g : G} {r : List GItem} {d : Nat}
    {α : Type} {f : α → V} {l : List α} {size : Nat} {t : Tag} {k2 : IntKind} {k : Nat} {x : Opd} {lo : Option Opd} (hx : ev ρ x = .sl t (l.map f)) (hlo : loV ρ lo = .int k2 (k : Int)) (h2 : k ≤ l.length) (hw : ∀ c, (f c).cells.length = size)
    (h : WI P H pn Q fs r (upd ρ d (.sl t ((l.drop k).map f))) σ g) : WI P H pn Q fs (.op (some d) none (.slice false size x lo none) :: r) ρ σ g := by
  refine i_sl hx hlo (by omega) (by simpa using h2) (.inr fun row hr => ?_) ?_
  · obtain ⟨c, _, rfl⟩ := List.mem_map.1 hr
    exact hw c
  · rw [Int.toNat_natCast, ← List.map_drop]
    exact h
theorem endS_pre {t : STask} {s a b e : List Int} (h : endS t s (a ++ b) = some e) : ∃ e1, endS t s a = some e1 := by
  rw [endS_append] at h
  cases h2 : endS t s a with
  | some e1 => exact ⟨e1, rfl⟩
  | none => rw [h2] at h; cases h
theorem endS_take {t : STask} {s p e : List Int} (h : endS t s p = some e) (i : Nat) : ∃ e1, endS t s (p.take i) = some e1 := by
  rw [← List.take_append_drop i p] at h
  exact endS_pre h
theorem works_end {t : STask} {s p : List Int} (h : worksB t s p = true) : ∃ e, endS t s p = some e := by
  unfold worksB at h
  cases he : endS t s p with
  | some e => exact ⟨e, rfl⟩
  | none => rw [he] at h; cases h
def c_plans_without : Cmd :=
  (.seq
   (.ops [
   .op (some 3) none (.box 2240196 4 (.t 0)),
   .op (some 6) none (.mov (.c (.sl .nil [])))])
   (.cut
   (.seq
   (.ops [
   .op (some 12) none (.mov (.t 1)),
   .op (some 13) none (.mov (.t 2)),
   .op (some 14) none (.slice false 1 (.t 12) none (some (.t 13))),
   .op (some 15) none (.call (.s [2176321]) (.c (.fn 34 [])) [.t 14]),
   .op (some 7) none (.mov (.t 15))])
   (.cut
   (.seq
   (.ops [
   .op (some 16) none (.load true 4 (.t 3)),
   .op (some 17) none (.faddr 1 (.t 3)),
   .op (some 18) none (.load false 1 (.t 17)),
   .op (some 19) none (.mov (.t 7)),
   .op (some 20) none (.call (.s [2176321]) (.c (.fn 28 [])) [.t 16, .t 18, .t 19]),
   .op (some 8) none (.mov (.t 20))])
   (.cut
   (.seq
   (.ops [
   .op (some 21) none (.mov (.t 8)),
   .op (some 22) none (.mov (.t 8)),
   .op (some 23) none (.len false (.t 22)),
   .op (some 24) none (.bin .sub false [] (.t 23) (.c (.int .i64 (1)))),
   .op (some 25) none (.iaddr 1 (.t 21) (.t 24)),
   .op (some 26) none (.load false 1 (.t 25)),
   .op (some 9) none (.mov (.t 26))])
   (.cut
   (.seq
   (.seq
   (.ops [
   .op (some 27) none (.mov (.t 1)),
   .op (some 28) none (.mov (.t 2)),
   .op (some 29) none (.bin .add false [] (.t 28) (.c (.int .i64 (1)))),
   .op (some 30) none (.slice false 1 (.t 27) (some (.t 29)) none),
   .op (some 31) none (.len false (.t 30)),
   .op (some 32) none (.mov (.c (.int .i64 (0))))])
   (.cut
   (.block 0
   (.loop
   (.seq
   (.ops [
   .op (some 33) none (.bin .lss false [] (.t 32) (.t 31))])
   (.cut
   (.seq
   (.cond (.t 33)
   .skip
   (.exit 0))
   (.cut
   (.seq
   (.block 1
   (.seq
   (.ops [
   .op (some 34) none (.iaddr 1 (.t 30) (.t 32)),
   .op (some 35) none (.load false 1 (.t 34)),
   .op (some 11) none (.mov (.t 35))])
   (.cut
   (.seq
   (.ops [
   .op (some 36) none (.load true 4 (.t 3)),
   .op (some 37) none (.mov (.t 9)),
   .op (some 38) none (.mov (.t 11)),
   .op (some 39) none (.call .f (.c (.fn 45 [])) [.t 36, .t 37, .t 38])])
   (.cut
   (.cond (.t 39)
   (.opsT (.node 3 4 (.leaf [0, 1, 2, 3, 4, 5, 6, 7, 8, 9]) (.leaf [0, 1, 2, 4, 3, 5, 6, 7, 8, 9])) [
   .op (some 40) none (.mov (.t 7)),
   .op (some 41) none (.mov (.t 11)),
   .op (some 42) none (.bsl 1 [.t 41]),
   .op (some 43) none (.append 1 8 (.t 40) (.t 42)),
   .op (some 44) none (.load true 4 (.t 3)),
   .op (some 45) none (.mov (.t 9)),
   .op (some 46) none (.mov (.t 11)),
   .op (some 47) none (.call .f (.c (.fn 46 [])) [.t 44, .t 45, .t 46]),
   .op (some 7) none (.mov (.t 43)),
   .op (some 9) none (.mov (.t 47))])
   .skip))))))
   (.cut
   (.ops [
   .op (some 48) none (.bin .add false [] (.t 32) (.c (.int .i64 (1)))),
   .op (some 32) none (.mov (.t 48))])))))))))))
   (.cut
   (.seq
   (.ops [
   .op (some 49) none (.mov (.t 7)),
   .op (some 6) none (.mov (.t 49))])
   .ret)))))))))))
def r_plans_without : List RVar := [.tmp 6]
def n_plans_without : Nat := 50
theorem k_plans_without : chkFn Go.Proofs.Try.prog 35 n_plans_without r_plans_without c_plans_without = true := by kernel_rfl
theorem f_plans_without (t : STask) (hv : SV t) (plan : List Int) (hl : plan.length ≤ 1000) (hp : ∀ x ∈ plan, 0 ≤ x ∧ x < t.ops.length) (i : Nat) (hi : i < plan.length) (e : List Int) (he : endS t t.init (plan.take i) = some e) :
    Fc Go.Proofs.Try.prog 35 [skV t, .sl .p (plan.map i64V), .int .i64 i] (.sl .p ((omitL t plan i).map i64V)) := by
  have heo : omitL t plan i = plan.take i ++ keepT t e (plan.drop (i + 1)) := by unfold omitL; rw [he]
  rw [heo]
  have hes := endS_set hv _ _ _ hv.init he
  have hlast := run_all he
  have htl : (plan.take i).length = i := by simp; omega
  have hL0 : (t.init :: runT t t.init (plan.take i)).length = i + 1 := by simp [hlast, htl]
  have hx0 := run_get t (plan.take i) t.init
  rw [he, htl] at hx0
  refine Fn.step mixed k_plans_without ?_
  repeat (first | refine i_len rfl ?_ | refine i_s rfl ?_ | refine i_lenm rfl rfl rfl ?_ | refine c_seq ?_ | refine c_cut0 ?_ | refine c_ops ?_ | refine i_nil ?_ | refine e_seq ?_ | refine e_block ?_ | refine c_block ?_ | refine c_skip ?_ | refine c_ret ?_ | refine c_exit ?_ | refine e_exit rfl ?_ | refine i_s0 rfl ?_ | refine c_leaf ?_ | refine i_gt rfl ?_ | refine i_gf rfl ?_ | refine i_gd rfl ?_ | refine c_t rfl ?_ | refine c_f rfl ?_ | refine i_conv rfl (by simp only [InR, List.length_map]; omega) ?_ | refine i_add rfl rfl (by simp only [InR, List.length_map]; omega) ?_ | refine i_sub rfl rfl (by simp only [InR, List.length_map]; omega) ?_ | refine i_ixm rfl rfl (by assumption) ?_ | refine i_iai rfl rfl (by omega) (by assumption) rfl ?_ | refine i_iam rfl rfl (by assumption) rfl ?_ | refine i_tk rfl rfl (by omega) ?_ | refine i_stb rfl ?_ | refine i_alloc rfl ?_ | refine i_box rfl rfl ?_ | refine i_nv rfl ?_)
  refine i_c rfl rfl rfl (ct_Clone1 (plan.take i) (by omega) _ _ rfl fun nm h => restr_mem nm h) ?_
  rintro _ _ _ ⟨⟨gen, rfl, rfl⟩, rfl⟩
  repeat (first | refine i_len rfl ?_ | refine i_s rfl ?_ | refine i_lenm rfl rfl rfl ?_ | refine c_seq ?_ | refine c_cut0 ?_ | refine c_ops ?_ | refine i_nil ?_ | refine e_seq ?_ | refine e_block ?_ | refine c_block ?_ | refine c_skip ?_ | refine c_ret ?_ | refine c_exit ?_ | refine e_exit rfl ?_ | refine i_s0 rfl ?_ | refine c_leaf ?_ | refine i_gt rfl ?_ | refine i_gf rfl ?_ | refine i_gd rfl ?_ | refine c_t rfl ?_ | refine c_f rfl ?_ | refine i_conv rfl (by simp only [InR, List.length_map]; omega) ?_ | refine i_add rfl rfl (by simp only [InR, List.length_map]; omega) ?_ | refine i_sub rfl rfl (by simp only [InR, List.length_map]; omega) ?_ | refine i_ixm rfl rfl (by assumption) ?_ | refine i_iai rfl rfl (by omega) (by assumption) rfl ?_ | refine i_iam rfl rfl (by assumption) rfl ?_ | refine i_tk rfl rfl (by omega) ?_ | refine i_stb rfl ?_ | refine i_alloc rfl ?_ | refine i_box rfl rfl ?_ | refine i_nv rfl ?_)
  refine i_c rfl rfl rfl (ct_Run t hv t.init hv.init (plan.take i) (by omega) (fun x hx => hp x (List.mem_of_mem_take hx)) gen _ rfl fun nm h => restr_mem nm h) ?_
  rintro _ _ _ ⟨rfl, rfl, rfl⟩
  generalize t.init :: runT t t.init (plan.take i) = L at *
  have hix : L[((L.length : Int) - 1).toNat]? = some e := by rw [hL0, show (((i + 1 : Nat) : Int) - 1).toNat = i from by omega]; exact hx0
  repeat (first | refine i_len rfl ?_ | refine i_s rfl ?_ | refine i_lenm rfl rfl rfl ?_ | refine c_seq ?_ | refine c_cut0 ?_ | refine c_ops ?_ | refine i_nil ?_ | refine e_seq ?_ | refine e_block ?_ | refine c_block ?_ | refine c_skip ?_ | refine c_ret ?_ | refine c_exit ?_ | refine e_exit rfl ?_ | refine i_s0 rfl ?_ | refine c_leaf ?_ | refine i_gt rfl ?_ | refine i_gf rfl ?_ | refine i_gd rfl ?_ | refine c_t rfl ?_ | refine c_f rfl ?_ | refine i_conv rfl (by simp only [InR, List.length_map]; omega) ?_ | refine i_add rfl rfl (by simp only [InR, List.length_map]; omega) ?_ | refine i_sub rfl rfl (by simp only [InR, List.length_map]; omega) ?_ | refine i_ixm rfl rfl (by assumption) ?_ | refine i_iai rfl rfl (by omega) (by assumption) rfl ?_ | refine i_iam rfl rfl (by assumption) rfl ?_ | refine i_tk rfl rfl (by omega) ?_ | refine i_stb rfl ?_ | refine i_alloc rfl ?_ | refine i_box rfl rfl ?_ | refine i_nv rfl ?_)
  refine i_dr (f := i64V) (l := plan) (k := i + 1) rfl rfl (by omega) (fun c => rfl) ?_
  repeat (first | refine i_len rfl ?_ | refine i_s rfl ?_ | refine i_lenm rfl rfl rfl ?_ | refine c_seq ?_ | refine c_cut0 ?_ | refine c_ops ?_ | refine i_nil ?_ | refine e_seq ?_ | refine e_block ?_ | refine c_block ?_ | refine c_skip ?_ | refine c_ret ?_ | refine c_exit ?_ | refine e_exit rfl ?_ | refine i_s0 rfl ?_ | refine c_leaf ?_ | refine i_gt rfl ?_ | refine i_gf rfl ?_ | refine i_gd rfl ?_ | refine c_t rfl ?_ | refine c_f rfl ?_ | refine i_conv rfl (by simp only [InR, List.length_map]; omega) ?_ | refine i_add rfl rfl (by simp only [InR, List.length_map]; omega) ?_ | refine i_sub rfl rfl (by simp only [InR, List.length_map]; omega) ?_ | refine i_ixm rfl rfl (by assumption) ?_ | refine i_iai rfl rfl (by omega) (by assumption) rfl ?_ | refine i_iam rfl rfl (by assumption) rfl ?_ | refine i_tk rfl rfl (by omega) ?_ | refine i_stb rfl ?_ | refine i_alloc rfl ?_ | refine i_box rfl rfl ?_ | refine i_nv rfl ?_)
  generalize hrest : plan.drop (i + 1) = rest at *
  have hrl : rest.length ≤ 1000 := by rw [← hrest]; simp; omega
  have hrp : ∀ x ∈ rest, 0 ≤ x ∧ x < t.ops.length := fun x hx => hp x (List.mem_of_mem_drop (hrest ▸ hx))
  generalize plan.take i = tk at *
  refine c_lp (ι := Nat × List Int × List Int) (fun p => [(3, .bptr 2240196 0), (7, .msl 2176321 (gen + p.2.2.length) 0 (tk ++ p.2.2).length), (9, .sl .p (p.2.1.map i64V)), (30, .sl .p (rest.map i64V)), (31, .int .i64 rest.length), (32, .int .i64 p.1)])
    (fun p => [(2176321, .arr (gen + p.2.2.length) ((tk ++ p.2.2).map i64V)), (2240196, .box (skV t))])
    (fun p => p.1 ≤ rest.length ∧ p.2.2.length ≤ p.1 ∧ IsSet t.facts p.2.1 ∧ p.2.2 ++ keepT t p.2.1 (rest.drop p.1) = keepT t e rest) (fun p => rest.length - p.1) (0, e, []) ⟨Nat.zero_le _, Nat.le_refl _, hes, rfl⟩ ⟨⟨rfl, by rw [List.append_nil]; rfl, rfl, rfl, rfl, rfl, trivial⟩, ⟨by rw [List.append_nil]; rfl, rfl, trivial⟩, rfl⟩ fun p hi => ?_
  obtain ⟨k, u, acc⟩ := p
  obtain ⟨h1, h2, h3, h4⟩ := hi
  simp only at h1 h2 h3 h4
  have hul := set_le hv h3
  clear hix hx0 hL0 hes he hlast heo
  repeat (first | refine i_len rfl ?_ | refine i_s rfl ?_ | refine i_lenm rfl rfl rfl ?_ | refine c_seq ?_ | refine c_cut0 ?_ | refine c_ops ?_ | refine i_nil ?_ | refine e_seq ?_ | refine e_block ?_ | refine c_block ?_ | refine c_skip ?_ | refine c_ret ?_ | refine c_exit ?_ | refine e_exit rfl ?_ | refine i_s0 rfl ?_ | refine c_leaf ?_ | refine i_gt rfl ?_ | refine i_gf rfl ?_ | refine i_gd rfl ?_ | refine c_t rfl ?_ | refine c_f rfl ?_ | refine i_conv rfl (by simp only [InR, List.length_map]; omega) ?_ | refine i_add rfl rfl (by simp only [InR, List.length_map]; omega) ?_ | refine i_sub rfl rfl (by simp only [InR, List.length_map]; omega) ?_ | refine i_ixm rfl rfl (by assumption) ?_ | refine i_iai rfl rfl (by omega) (by assumption) rfl ?_ | refine i_iam rfl rfl (by assumption) rfl ?_ | refine i_tk rfl rfl (by omega) ?_ | refine i_stb rfl ?_ | refine i_alloc rfl ?_ | refine i_box rfl rfl ?_ | refine i_nv rfl ?_)
  refine c_cond rfl (fun h => ?_) (fun h => ?_)
  · have hlt : k < rest.length := by simpa using h
    obtain ⟨x, hx⟩ := get_some hlt
    obtain ⟨x0, x1⟩ := hrp x (mem_get hx)
    obtain ⟨o, hc⟩ := get_some (l := t.ops) (k := x.toNat) (by omega)
    have hoo := hv.op o (mem_get hc)
    have hC := f_strips_Can t u (by omega) h3.ss x x0 o hc (by have := set_le hv hoo.pre; omega) hoo.pre.ss
    have hN := f_strips_Next t u (by omega) x x0 o hc (by have := set_le hv hoo.add; omega) (by have := set_le hv hoo.del; omega) hoo.del.ss
    have ed : rest.drop k = x :: rest.drop (k + 1) := by
      obtain ⟨h5, h6⟩ := List.getElem?_eq_some_iff.1 hx
      rw [← h6]; exact List.drop_eq_getElem_cons hlt
    have hst := stepS_op (s := u) hc
    rw [ed] at h4
    simp only [keepT, hst] at h4
    have hal : (tk ++ acc).length ≤ 2000 := by simp; omega
    clear h
    cases hin : inclB o.pre u with
    | true =>
      rw [hin] at hC
      rw [hin, if_pos rfl] at h4
      repeat (first | refine i_len rfl ?_ | refine i_s rfl ?_ | refine i_lenm rfl rfl rfl ?_ | refine c_seq ?_ | refine c_cut0 ?_ | refine c_ops ?_ | refine i_nil ?_ | refine e_seq ?_ | refine e_block ?_ | refine c_block ?_ | refine c_skip ?_ | refine c_ret ?_ | refine c_exit ?_ | refine e_exit rfl ?_ | refine i_s0 rfl ?_ | refine c_leaf ?_ | refine i_gt rfl ?_ | refine i_gf rfl ?_ | refine i_gd rfl ?_ | refine c_t rfl ?_ | refine c_f rfl ?_ | refine i_conv rfl (by simp only [InR, List.length_map]; omega) ?_ | refine i_add rfl rfl (by simp only [InR, List.length_map]; omega) ?_ | refine i_sub rfl rfl (by simp only [InR, List.length_map]; omega) ?_ | refine i_ixm rfl rfl (by assumption) ?_ | refine i_iai rfl rfl (by omega) (by assumption) rfl ?_ | refine i_iam rfl rfl (by assumption) rfl ?_ | refine i_tk rfl rfl (by omega) ?_ | refine i_stb rfl ?_ | refine i_alloc rfl ?_ | refine i_box rfl rfl ?_ | refine i_nv rfl ?_ | refine i_f rfl rfl (hC) rfl ?_)
      refine c_node ?_ ?_
      all_goals
        repeat (first | refine i_len rfl ?_ | refine i_s rfl ?_ | refine i_lenm rfl rfl rfl ?_ | refine c_seq ?_ | refine c_cut0 ?_ | refine c_ops ?_ | refine i_nil ?_ | refine e_seq ?_ | refine e_block ?_ | refine c_block ?_ | refine c_skip ?_ | refine c_ret ?_ | refine c_exit ?_ | refine e_exit rfl ?_ | refine i_s0 rfl ?_ | refine c_leaf ?_ | refine i_gt rfl ?_ | refine i_gf rfl ?_ | refine i_gd rfl ?_ | refine c_t rfl ?_ | refine c_f rfl ?_ | refine i_conv rfl (by simp only [InR, List.length_map]; omega) ?_ | refine i_add rfl rfl (by simp only [InR, List.length_map]; omega) ?_ | refine i_sub rfl rfl (by simp only [InR, List.length_map]; omega) ?_ | refine i_ixm rfl rfl (by assumption) ?_ | refine i_iai rfl rfl (by omega) (by assumption) rfl ?_ | refine i_iam rfl rfl (by assumption) rfl ?_ | refine i_tk rfl rfl (by omega) ?_ | refine i_stb rfl ?_ | refine i_alloc rfl ?_ | refine i_box rfl rfl ?_ | refine i_nv rfl ?_ | refine i_f rfl rfl (hN) rfl ?_)
        refine i_appmM [x] rfl rfl rfl rfl rfl (fun c hc => ⟨rfl, rfl⟩) (by simp only [List.length_singleton]; omega) (by simp only [List.length_singleton]; omega) ?_
        repeat (first | refine i_len rfl ?_ | refine i_s rfl ?_ | refine i_lenm rfl rfl rfl ?_ | refine c_seq ?_ | refine c_cut0 ?_ | refine c_ops ?_ | refine i_nil ?_ | refine e_seq ?_ | refine e_block ?_ | refine c_block ?_ | refine c_skip ?_ | refine c_ret ?_ | refine c_exit ?_ | refine e_exit rfl ?_ | refine i_s0 rfl ?_ | refine c_leaf ?_ | refine i_gt rfl ?_ | refine i_gf rfl ?_ | refine i_gd rfl ?_ | refine c_t rfl ?_ | refine c_f rfl ?_ | refine i_conv rfl (by simp only [InR, List.length_map]; omega) ?_ | refine i_add rfl rfl (by simp only [InR, List.length_map]; omega) ?_ | refine i_sub rfl rfl (by simp only [InR, List.length_map]; omega) ?_ | refine i_ixm rfl rfl (by assumption) ?_ | refine i_iai rfl rfl (by omega) (by assumption) rfl ?_ | refine i_iam rfl rfl (by assumption) rfl ?_ | refine i_tk rfl rfl (by omega) ?_ | refine i_stb rfl ?_ | refine i_alloc rfl ?_ | refine i_box rfl rfl ?_ | refine i_nv rfl ?_ | refine i_f rfl rfl (hN) rfl ?_)
        refine e_lp (k + 1, updL u o.add o.del, acc ++ [x]) ⟨hlt, by simp; omega, updL_set h3 hoo.add, by simpa using h4⟩ (by simp only; omega) ⟨⟨rfl, ?_, rfl, rfl, rfl, rfl, trivial⟩, ⟨?_, rfl, trivial⟩, rfl⟩
        · simp only
          rw [← List.append_assoc, show (acc ++ [x]).length = acc.length + 1 from by simp]
          rfl
        · simp only
          rw [← List.append_assoc, show (acc ++ [x]).length = acc.length + 1 from by simp]
          rfl
    | false =>
      rw [hin] at hC
      rw [hin, if_neg (by simp)] at h4
      repeat (first | refine i_len rfl ?_ | refine i_s rfl ?_ | refine i_lenm rfl rfl rfl ?_ | refine c_seq ?_ | refine c_cut0 ?_ | refine c_ops ?_ | refine i_nil ?_ | refine e_seq ?_ | refine e_block ?_ | refine c_block ?_ | refine c_skip ?_ | refine c_ret ?_ | refine c_exit ?_ | refine e_exit rfl ?_ | refine i_s0 rfl ?_ | refine c_leaf ?_ | refine i_gt rfl ?_ | refine i_gf rfl ?_ | refine i_gd rfl ?_ | refine c_t rfl ?_ | refine c_f rfl ?_ | refine i_conv rfl (by simp only [InR, List.length_map]; omega) ?_ | refine i_add rfl rfl (by simp only [InR, List.length_map]; omega) ?_ | refine i_sub rfl rfl (by simp only [InR, List.length_map]; omega) ?_ | refine i_ixm rfl rfl (by assumption) ?_ | refine i_iai rfl rfl (by omega) (by assumption) rfl ?_ | refine i_iam rfl rfl (by assumption) rfl ?_ | refine i_tk rfl rfl (by omega) ?_ | refine i_stb rfl ?_ | refine i_alloc rfl ?_ | refine i_box rfl rfl ?_ | refine i_nv rfl ?_ | refine i_f rfl rfl (hC) rfl ?_)
      exact e_lp (k + 1, u, acc) ⟨hlt, by simp only; omega, h3, h4⟩ (by simp only; omega) ⟨by repeat (first | exact trivial | refine ⟨rfl, ?_⟩), by repeat (first | exact trivial | refine ⟨rfl, ?_⟩), rfl⟩
  · have hge : k = rest.length := by have : ¬ k < rest.length := by simpa using h
                                     omega
    subst hge
    rw [List.drop_length] at h4
    simp only [keepT, List.append_nil] at h4
    rw [← h4]
    repeat (first | refine i_len rfl ?_ | refine i_s rfl ?_ | refine i_lenm rfl rfl rfl ?_ | refine c_seq ?_ | refine c_cut0 ?_ | refine c_ops ?_ | refine i_nil ?_ | refine e_seq ?_ | refine e_block ?_ | refine c_block ?_ | refine c_skip ?_ | refine c_ret ?_ | refine c_exit ?_ | refine e_exit rfl ?_ | refine i_s0 rfl ?_ | refine c_leaf ?_ | refine i_gt rfl ?_ | refine i_gf rfl ?_ | refine i_gd rfl ?_ | refine c_t rfl ?_ | refine c_f rfl ?_ | refine i_conv rfl (by simp only [InR, List.length_map]; omega) ?_ | refine i_add rfl rfl (by simp only [InR, List.length_map]; omega) ?_ | refine i_sub rfl rfl (by simp only [InR, List.length_map]; omega) ?_ | refine i_ixm rfl rfl (by assumption) ?_ | refine i_iai rfl rfl (by omega) (by assumption) rfl ?_ | refine i_iam rfl rfl (by assumption) rfl ?_ | refine i_tk rfl rfl (by omega) ?_ | refine i_stb rfl ?_ | refine i_alloc rfl ?_ | refine i_box rfl rfl ?_ | refine i_nv rfl ?_)
    exact e_ret ⟨rfl, _, rfl, ((er_msl (i := 0) (len := (tk ++ acc).length) (n := 5) rfl).trans (msl_all rfl)).symm⟩
end Hm
end

section
/- Contracts: the reference's plans without a step; plans that are shortened. -/
namespace Hm
open Go
set_option maxRecDepth 100000
set_option maxHeartbeats 4000000
set_option linter.unusedSimpArgs false
set_option linter.unusedVariables false
theorem Fc_any {P : Program} {f : Nat} {args : List V} {a b : V} (h : Fc P f args (.tup [a, b])) : Fc P f args (.tup [.any, b]) := by
  obtain ⟨h1, h2⟩ := h.out
  refine ⟨h1, fun w S xs hS hxs => (h2 w S xs hS hxs).mono fun e w' he => ?_⟩
  obtain ⟨x', S', e1, hr, r1, r2, r3⟩ := he
  refine ⟨x', S', e1, ?_, r1, r2, r3⟩
  cases hr with
  | tup l xs hl h =>
    refine .tup _ xs (by simpa using hl) fun i v x h3 h4 => ?_
    cases i with
    | zero => simp at h3; subst h3; exact .any x
    | succ i => exact h (i + 1) v x h3 h4
def c_CopyB : Cmd :=
  (.seq
   (.ops [
   .op (some 2) none (.mov (.c (.sl .nil [])))])
   (.cut
   (.seq
   (.ops [
   .op (some 3) none (.newArr 1344257)])
   (.cut
   (.seq
   (.ops [
   .op (some 4) none (.mov (.t 3)),
   .op (some 5) none (.mov (.t 0)),
   .op (some 6) none (.append 1 8 (.t 4) (.t 5)),
   .op (some 2) none (.mov (.t 6))])
   .ret)))))
def r_CopyB : List RVar := [.tmp 2]
def n_CopyB : Nat := 7
theorem k_CopyB : chkFn Go.Proofs.Try.prog 21 n_CopyB r_CopyB c_CopyB = true := by kernel_rfl
theorem ct_CopyM {G : Type} {H : HT G} (gen : Nat) (s : List Int) (hl : s.length ≤ 17592186044416) (σ : Store) (g : G) (h3 : σ 1344193 = .arr gen (s.map i64V)) (h4 : σ 1344257 = .unused) (hp : ∀ nm, σ nm ≠ .unused → nm ∈ [1344193, 1344257]) :
    Cc Go.Proofs.Try.prog H 21 [.msl 1344193 gen 0 s.length] [1344193, 1344257] σ g fun r σ' g' => r = .msl 1344257 1 0 s.length ∧ σ' = stOf [(1344193, .arr gen (s.map i64V)), (1344257, .arr 1 (s.map i64V))] ∧ g' = g := by
  refine CT.step _ mixed k_CopyB hp fun hM => ?_
  refine c_seq ?_
  refine c_ops ?_
  refine i_s rfl ?_
  refine i_nil ?_
  refine e_seq ?_
  refine c_cut [(0, .msl 1344193 gen 0 s.length)] [(1344193, .arr gen (s.map i64V)), (1344257, .unused)] ⟨⟨rfl, trivial⟩, ⟨h3, h4, trivial⟩, rfl⟩ ?_
  repeat (first | refine i_len rfl ?_ | refine i_s rfl ?_ | refine i_lenm rfl rfl rfl ?_ | refine c_seq ?_ | refine c_cut0 ?_ | refine c_ops ?_ | refine i_nil ?_ | refine e_seq ?_ | refine e_block ?_ | refine c_block ?_ | refine c_skip ?_ | refine c_ret ?_ | refine c_exit ?_ | refine e_exit rfl ?_ | refine i_s0 rfl ?_ | refine c_leaf ?_ | refine i_gt rfl ?_ | refine i_gf rfl ?_ | refine i_gd rfl ?_ | refine c_t rfl ?_ | refine c_f rfl ?_ | refine i_conv rfl (by simp only [InR, List.length_map]; omega) ?_ | refine i_add rfl rfl (by simp only [InR, List.length_map]; omega) ?_ | refine i_sub rfl rfl (by simp only [InR, List.length_map]; omega) ?_ | refine i_ixm rfl rfl (by assumption) ?_ | refine i_iai rfl rfl (by omega) (by assumption) rfl ?_ | refine i_iam rfl rfl (by assumption) rfl ?_ | refine i_tk rfl rfl (by omega) ?_ | refine i_stb rfl ?_ | refine i_alloc rfl ?_ | refine i_box rfl rfl ?_ | refine i_nv rfl ?_)
  refine i_na rfl ?_
  repeat (first | refine i_len rfl ?_ | refine i_s rfl ?_ | refine i_lenm rfl rfl rfl ?_ | refine c_seq ?_ | refine c_cut0 ?_ | refine c_ops ?_ | refine i_nil ?_ | refine e_seq ?_ | refine e_block ?_ | refine c_block ?_ | refine c_skip ?_ | refine c_ret ?_ | refine c_exit ?_ | refine e_exit rfl ?_ | refine i_s0 rfl ?_ | refine c_leaf ?_ | refine i_gt rfl ?_ | refine i_gf rfl ?_ | refine i_gd rfl ?_ | refine c_t rfl ?_ | refine c_f rfl ?_ | refine i_conv rfl (by simp only [InR, List.length_map]; omega) ?_ | refine i_add rfl rfl (by simp only [InR, List.length_map]; omega) ?_ | refine i_sub rfl rfl (by simp only [InR, List.length_map]; omega) ?_ | refine i_ixm rfl rfl (by assumption) ?_ | refine i_iai rfl rfl (by omega) (by assumption) rfl ?_ | refine i_iam rfl rfl (by assumption) rfl ?_ | refine i_tk rfl rfl (by omega) ?_ | refine i_stb rfl ?_ | refine i_alloc rfl ?_ | refine i_box rfl rfl ?_ | refine i_nv rfl ?_)
  have e0 : (((s.map i64V).drop 0).take s.length) = s.map i64V := by rw [List.drop_zero, List.take_of_length_le (by simp)]
  refine i_appms rfl rfl rfl rfl rfl rfl rfl (fun row hrow => ?_) (by rw [e0]; simp; omega) (by rw [e0]; simp; omega) ?_
  · rw [e0] at hrow
    obtain ⟨n, _, rfl⟩ := List.mem_map.1 hrow
    exact ⟨rfl, rfl⟩
  rw [e0]
  repeat (first | refine i_len rfl ?_ | refine i_s rfl ?_ | refine i_lenm rfl rfl rfl ?_ | refine c_seq ?_ | refine c_cut0 ?_ | refine c_ops ?_ | refine i_nil ?_ | refine e_seq ?_ | refine e_block ?_ | refine c_block ?_ | refine c_skip ?_ | refine c_ret ?_ | refine c_exit ?_ | refine e_exit rfl ?_ | refine i_s0 rfl ?_ | refine c_leaf ?_ | refine i_gt rfl ?_ | refine i_gf rfl ?_ | refine i_gd rfl ?_ | refine c_t rfl ?_ | refine c_f rfl ?_ | refine i_conv rfl (by simp only [InR, List.length_map]; omega) ?_ | refine i_add rfl rfl (by simp only [InR, List.length_map]; omega) ?_ | refine i_sub rfl rfl (by simp only [InR, List.length_map]; omega) ?_ | refine i_ixm rfl rfl (by assumption) ?_ | refine i_iai rfl rfl (by omega) (by assumption) rfl ?_ | refine i_iam rfl rfl (by assumption) rfl ?_ | refine i_tk rfl rfl (by omega) ?_ | refine i_stb rfl ?_ | refine i_alloc rfl ?_ | refine i_box rfl rfl ?_ | refine i_nv rfl ?_)
  refine e_ret ⟨rfl, _, rfl, rfl, rfl, ?_, ?_, rfl⟩
  · show V.msl _ _ _ _ = V.msl _ _ _ _
    simp
  · rw [restr_stOf]; rfl
def c_R2_omitted : Cmd :=
  (.seq
   (.ops [
   .op (some 3) none (.box 2368196 4 (.t 0)),
   .op (some 6) none (.mov (.c (.sl .nil [])))])
   (.cut
   (.seq
   (.ops [
   .op (some 11) none (.mov (.t 1)),
   .op (some 12) none (.mov (.t 2)),
   .op (some 13) none (.slice false 1 (.t 11) none (some (.t 12))),
   .op (some 14) none (.call (.s [1344193]) (.c (.fn 21 [])) [.t 13]),
   .op (some 7) none (.mov (.t 14))])
   (.cut
   (.seq
   (.seq
   (.ops [
   .op (some 15) none (.mov (.t 2)),
   .op (some 16) none (.bin .add false [] (.t 15) (.c (.int .i64 (1)))),
   .op (some 8) none (.mov (.t 16))])
   (.cut
   (.block 0
   (.loop
   (.seq
   (.seq
   (.ops [
   .op (some 17) none (.mov (.t 8)),
   .op (some 18) none (.mov (.t 1)),
   .op (some 19) none (.len false (.t 18)),
   .op (some 20) none (.bin .lss false [] (.t 17) (.t 19))])
   (.cut
   (.cond (.t 20)
   .skip
   (.exit 0))))
   (.cut
   (.seq
   (.block 1
   (.seq
   (.opsT (.node 0 4 (.node 1 4 (.node 2 4 (.node 4 5 (.node 4 6 (.leaf [0, 1, 2, 3, 4, 5, 6, 7, 8, 9, 10, 11, 12, 13, 14, 15, 16]) (.leaf [0, 1, 2, 3, 6, 4, 5, 7, 8, 9, 10, 11, 12, 13, 14, 15, 16])) (.node 4 6 (.leaf [0, 1, 2, 3, 5, 4, 6, 7, 8, 9, 10, 11, 12, 13, 14, 15, 16]) (.node 4 7 (.leaf [0, 1, 2, 3, 5, 6, 4, 7, 8, 9, 10, 11, 12, 13, 14, 15, 16]) (.node 4 8 (.leaf [0, 1, 2, 3, 5, 6, 7, 4, 8, 9, 10, 11, 12, 13, 14, 15, 16]) (.node 4 9 (.leaf [0, 1, 2, 3, 5, 6, 7, 8, 4, 9, 10, 11, 12, 13, 14, 15, 16]) (.leaf [0, 1, 2, 3, 5, 6, 7, 8, 9, 4, 10, 11, 12, 13, 14, 15, 16])))))) (.node 4 5 (.node 4 6 (.node 2 10 (.leaf [0, 1, 3, 4, 2, 5, 6, 7, 8, 9, 10, 11, 12, 13, 14, 15, 16]) (.leaf [0, 1, 3, 4, 5, 6, 7, 8, 9, 10, 2, 11, 12, 13, 14, 15, 16])) (.node 2 10 (.leaf [0, 1, 3, 6, 4, 2, 5, 7, 8, 9, 10, 11, 12, 13, 14, 15, 16]) (.leaf [0, 1, 3, 6, 4, 5, 7, 8, 9, 10, 2, 11, 12, 13, 14, 15, 16]))) (.node 4 6 (.node 2 10 (.leaf [0, 1, 3, 5, 4, 2, 6, 7, 8, 9, 10, 11, 12, 13, 14, 15, 16]) (.leaf [0, 1, 3, 5, 4, 6, 7, 8, 9, 10, 2, 11, 12, 13, 14, 15, 16])) (.node 4 7 (.node 2 10 (.leaf [0, 1, 3, 5, 6, 4, 2, 7, 8, 9, 10, 11, 12, 13, 14, 15, 16]) (.leaf [0, 1, 3, 5, 6, 4, 7, 8, 9, 10, 2, 11, 12, 13, 14, 15, 16])) (.node 4 8 (.node 2 10 (.leaf [0, 1, 3, 5, 6, 7, 4, 2, 8, 9, 10, 11, 12, 13, 14, 15, 16]) (.leaf [0, 1, 3, 5, 6, 7, 4, 8, 9, 10, 2, 11, 12, 13, 14, 15, 16])) (.node 4 9 (.node 2 10 (.leaf [0, 1, 3, 5, 6, 7, 8, 4, 2, 9, 10, 11, 12, 13, 14, 15, 16]) (.leaf [0, 1, 3, 5, 6, 7, 8, 4, 9, 10, 2, 11, 12, 13, 14, 15, 16])) (.node 2 10 (.leaf [0, 1, 3, 5, 6, 7, 8, 9, 4, 2, 10, 11, 12, 13, 14, 15, 16]) (.leaf [0, 1, 3, 5, 6, 7, 8, 9, 4, 10, 2, 11, 12, 13, 14, 15, 16])))))))) (.node 4 5 (.node 4 6 (.node 1 10 (.node 2 10 (.leaf [0, 3, 4, 1, 2, 5, 6, 7, 8, 9, 10, 11, 12, 13, 14, 15, 16]) (.leaf [0, 3, 4, 1, 5, 6, 7, 8, 9, 10, 2, 11, 12, 13, 14, 15, 16])) (.leaf [0, 3, 4, 5, 6, 7, 8, 9, 10, 1, 2, 11, 12, 13, 14, 15, 16])) (.node 1 10 (.node 2 10 (.leaf [0, 3, 6, 4, 1, 2, 5, 7, 8, 9, 10, 11, 12, 13, 14, 15, 16]) (.leaf [0, 3, 6, 4, 1, 5, 7, 8, 9, 10, 2, 11, 12, 13, 14, 15, 16])) (.leaf [0, 3, 6, 4, 5, 7, 8, 9, 10, 1, 2, 11, 12, 13, 14, 15, 16]))) (.node 4 6 (.node 1 10 (.node 2 10 (.leaf [0, 3, 5, 4, 1, 2, 6, 7, 8, 9, 10, 11, 12, 13, 14, 15, 16]) (.leaf [0, 3, 5, 4, 1, 6, 7, 8, 9, 10, 2, 11, 12, 13, 14, 15, 16])) (.leaf [0, 3, 5, 4, 6, 7, 8, 9, 10, 1, 2, 11, 12, 13, 14, 15, 16])) (.node 4 7 (.node 1 10 (.node 2 10 (.leaf [0, 3, 5, 6, 4, 1, 2, 7, 8, 9, 10, 11, 12, 13, 14, 15, 16]) (.leaf [0, 3, 5, 6, 4, 1, 7, 8, 9, 10, 2, 11, 12, 13, 14, 15, 16])) (.leaf [0, 3, 5, 6, 4, 7, 8, 9, 10, 1, 2, 11, 12, 13, 14, 15, 16])) (.node 4 8 (.node 1 10 (.node 2 10 (.leaf [0, 3, 5, 6, 7, 4, 1, 2, 8, 9, 10, 11, 12, 13, 14, 15, 16]) (.leaf [0, 3, 5, 6, 7, 4, 1, 8, 9, 10, 2, 11, 12, 13, 14, 15, 16])) (.leaf [0, 3, 5, 6, 7, 4, 8, 9, 10, 1, 2, 11, 12, 13, 14, 15, 16])) (.node 4 9 (.node 1 10 (.node 2 10 (.leaf [0, 3, 5, 6, 7, 8, 4, 1, 2, 9, 10, 11, 12, 13, 14, 15, 16]) (.leaf [0, 3, 5, 6, 7, 8, 4, 1, 9, 10, 2, 11, 12, 13, 14, 15, 16])) (.leaf [0, 3, 5, 6, 7, 8, 4, 9, 10, 1, 2, 11, 12, 13, 14, 15, 16])) (.node 1 10 (.node 2 10 (.leaf [0, 3, 5, 6, 7, 8, 9, 4, 1, 2, 10, 11, 12, 13, 14, 15, 16]) (.leaf [0, 3, 5, 6, 7, 8, 9, 4, 1, 10, 2, 11, 12, 13, 14, 15, 16])) (.leaf [0, 3, 5, 6, 7, 8, 9, 4, 10, 1, 2, 11, 12, 13, 14, 15, 16])))))))) (.node 1 4 (.node 2 4 (.node 4 5 (.node 4 6 (.node 0 10 (.leaf [1, 2, 3, 4, 0, 5, 6, 7, 8, 9, 10, 11, 12, 13, 14, 15, 16]) (.leaf [1, 2, 3, 4, 5, 6, 7, 8, 9, 10, 0, 11, 12, 13, 14, 15, 16])) (.node 0 10 (.leaf [1, 2, 3, 6, 4, 0, 5, 7, 8, 9, 10, 11, 12, 13, 14, 15, 16]) (.leaf [1, 2, 3, 6, 4, 5, 7, 8, 9, 10, 0, 11, 12, 13, 14, 15, 16]))) (.node 4 6 (.node 0 10 (.leaf [1, 2, 3, 5, 4, 0, 6, 7, 8, 9, 10, 11, 12, 13, 14, 15, 16]) (.leaf [1, 2, 3, 5, 4, 6, 7, 8, 9, 10, 0, 11, 12, 13, 14, 15, 16])) (.node 4 7 (.node 0 10 (.leaf [1, 2, 3, 5, 6, 4, 0, 7, 8, 9, 10, 11, 12, 13, 14, 15, 16]) (.leaf [1, 2, 3, 5, 6, 4, 7, 8, 9, 10, 0, 11, 12, 13, 14, 15, 16])) (.node 4 8 (.node 0 10 (.leaf [1, 2, 3, 5, 6, 7, 4, 0, 8, 9, 10, 11, 12, 13, 14, 15, 16]) (.leaf [1, 2, 3, 5, 6, 7, 4, 8, 9, 10, 0, 11, 12, 13, 14, 15, 16])) (.node 4 9 (.node 0 10 (.leaf [1, 2, 3, 5, 6, 7, 8, 4, 0, 9, 10, 11, 12, 13, 14, 15, 16]) (.leaf [1, 2, 3, 5, 6, 7, 8, 4, 9, 10, 0, 11, 12, 13, 14, 15, 16])) (.node 0 10 (.leaf [1, 2, 3, 5, 6, 7, 8, 9, 4, 0, 10, 11, 12, 13, 14, 15, 16]) (.leaf [1, 2, 3, 5, 6, 7, 8, 9, 4, 10, 0, 11, 12, 13, 14, 15, 16]))))))) (.node 4 5 (.node 4 6 (.node 0 10 (.node 2 10 (.leaf [1, 3, 4, 0, 2, 5, 6, 7, 8, 9, 10, 11, 12, 13, 14, 15, 16]) (.leaf [1, 3, 4, 0, 5, 6, 7, 8, 9, 10, 2, 11, 12, 13, 14, 15, 16])) (.node 2 10 (.leaf [1, 3, 4, 2, 5, 6, 7, 8, 9, 10, 0, 11, 12, 13, 14, 15, 16]) (.leaf [1, 3, 4, 5, 6, 7, 8, 9, 10, 0, 2, 11, 12, 13, 14, 15, 16]))) (.node 0 10 (.node 2 10 (.leaf [1, 3, 6, 4, 0, 2, 5, 7, 8, 9, 10, 11, 12, 13, 14, 15, 16]) (.leaf [1, 3, 6, 4, 0, 5, 7, 8, 9, 10, 2, 11, 12, 13, 14, 15, 16])) (.node 2 10 (.leaf [1, 3, 6, 4, 2, 5, 7, 8, 9, 10, 0, 11, 12, 13, 14, 15, 16]) (.leaf [1, 3, 6, 4, 5, 7, 8, 9, 10, 0, 2, 11, 12, 13, 14, 15, 16])))) (.node 4 6 (.node 0 10 (.node 2 10 (.leaf [1, 3, 5, 4, 0, 2, 6, 7, 8, 9, 10, 11, 12, 13, 14, 15, 16]) (.leaf [1, 3, 5, 4, 0, 6, 7, 8, 9, 10, 2, 11, 12, 13, 14, 15, 16])) (.node 2 10 (.leaf [1, 3, 5, 4, 2, 6, 7, 8, 9, 10, 0, 11, 12, 13, 14, 15, 16]) (.leaf [1, 3, 5, 4, 6, 7, 8, 9, 10, 0, 2, 11, 12, 13, 14, 15, 16]))) (.node 4 7 (.node 0 10 (.node 2 10 (.leaf [1, 3, 5, 6, 4, 0, 2, 7, 8, 9, 10, 11, 12, 13, 14, 15, 16]) (.leaf [1, 3, 5, 6, 4, 0, 7, 8, 9, 10, 2, 11, 12, 13, 14, 15, 16])) (.node 2 10 (.leaf [1, 3, 5, 6, 4, 2, 7, 8, 9, 10, 0, 11, 12, 13, 14, 15, 16]) (.leaf [1, 3, 5, 6, 4, 7, 8, 9, 10, 0, 2, 11, 12, 13, 14, 15, 16]))) (.node 4 8 (.node 0 10 (.node 2 10 (.leaf [1, 3, 5, 6, 7, 4, 0, 2, 8, 9, 10, 11, 12, 13, 14, 15, 16]) (.leaf [1, 3, 5, 6, 7, 4, 0, 8, 9, 10, 2, 11, 12, 13, 14, 15, 16])) (.node 2 10 (.leaf [1, 3, 5, 6, 7, 4, 2, 8, 9, 10, 0, 11, 12, 13, 14, 15, 16]) (.leaf [1, 3, 5, 6, 7, 4, 8, 9, 10, 0, 2, 11, 12, 13, 14, 15, 16]))) (.node 4 9 (.node 0 10 (.node 2 10 (.leaf [1, 3, 5, 6, 7, 8, 4, 0, 2, 9, 10, 11, 12, 13, 14, 15, 16]) (.leaf [1, 3, 5, 6, 7, 8, 4, 0, 9, 10, 2, 11, 12, 13, 14, 15, 16])) (.node 2 10 (.leaf [1, 3, 5, 6, 7, 8, 4, 2, 9, 10, 0, 11, 12, 13, 14, 15, 16]) (.leaf [1, 3, 5, 6, 7, 8, 4, 9, 10, 0, 2, 11, 12, 13, 14, 15, 16]))) (.node 0 10 (.node 2 10 (.leaf [1, 3, 5, 6, 7, 8, 9, 4, 0, 2, 10, 11, 12, 13, 14, 15, 16]) (.leaf [1, 3, 5, 6, 7, 8, 9, 4, 0, 10, 2, 11, 12, 13, 14, 15, 16])) (.node 2 10 (.leaf [1, 3, 5, 6, 7, 8, 9, 4, 2, 10, 0, 11, 12, 13, 14, 15, 16]) (.leaf [1, 3, 5, 6, 7, 8, 9, 4, 10, 0, 2, 11, 12, 13, 14, 15, 16]))))))))) (.node 4 5 (.node 4 6 (.node 0 10 (.node 1 10 (.node 2 10 (.leaf [3, 4, 0, 1, 2, 5, 6, 7, 8, 9, 10, 11, 12, 13, 14, 15, 16]) (.leaf [3, 4, 0, 1, 5, 6, 7, 8, 9, 10, 2, 11, 12, 13, 14, 15, 16])) (.leaf [3, 4, 0, 5, 6, 7, 8, 9, 10, 1, 2, 11, 12, 13, 14, 15, 16])) (.node 1 10 (.node 2 10 (.leaf [3, 4, 1, 2, 5, 6, 7, 8, 9, 10, 0, 11, 12, 13, 14, 15, 16]) (.leaf [3, 4, 1, 5, 6, 7, 8, 9, 10, 0, 2, 11, 12, 13, 14, 15, 16])) (.leaf [3, 4, 5, 6, 7, 8, 9, 10, 0, 1, 2, 11, 12, 13, 14, 15, 16]))) (.node 0 10 (.node 1 10 (.node 2 10 (.leaf [3, 6, 4, 0, 1, 2, 5, 7, 8, 9, 10, 11, 12, 13, 14, 15, 16]) (.leaf [3, 6, 4, 0, 1, 5, 7, 8, 9, 10, 2, 11, 12, 13, 14, 15, 16])) (.leaf [3, 6, 4, 0, 5, 7, 8, 9, 10, 1, 2, 11, 12, 13, 14, 15, 16])) (.node 1 10 (.node 2 10 (.leaf [3, 6, 4, 1, 2, 5, 7, 8, 9, 10, 0, 11, 12, 13, 14, 15, 16]) (.leaf [3, 6, 4, 1, 5, 7, 8, 9, 10, 0, 2, 11, 12, 13, 14, 15, 16])) (.leaf [3, 6, 4, 5, 7, 8, 9, 10, 0, 1, 2, 11, 12, 13, 14, 15, 16])))) (.node 4 6 (.node 0 10 (.node 1 10 (.node 2 10 (.leaf [3, 5, 4, 0, 1, 2, 6, 7, 8, 9, 10, 11, 12, 13, 14, 15, 16]) (.leaf [3, 5, 4, 0, 1, 6, 7, 8, 9, 10, 2, 11, 12, 13, 14, 15, 16])) (.leaf [3, 5, 4, 0, 6, 7, 8, 9, 10, 1, 2, 11, 12, 13, 14, 15, 16])) (.node 1 10 (.node 2 10 (.leaf [3, 5, 4, 1, 2, 6, 7, 8, 9, 10, 0, 11, 12, 13, 14, 15, 16]) (.leaf [3, 5, 4, 1, 6, 7, 8, 9, 10, 0, 2, 11, 12, 13, 14, 15, 16])) (.leaf [3, 5, 4, 6, 7, 8, 9, 10, 0, 1, 2, 11, 12, 13, 14, 15, 16]))) (.node 4 7 (.node 0 10 (.node 1 10 (.node 2 10 (.leaf [3, 5, 6, 4, 0, 1, 2, 7, 8, 9, 10, 11, 12, 13, 14, 15, 16]) (.leaf [3, 5, 6, 4, 0, 1, 7, 8, 9, 10, 2, 11, 12, 13, 14, 15, 16])) (.leaf [3, 5, 6, 4, 0, 7, 8, 9, 10, 1, 2, 11, 12, 13, 14, 15, 16])) (.node 1 10 (.node 2 10 (.leaf [3, 5, 6, 4, 1, 2, 7, 8, 9, 10, 0, 11, 12, 13, 14, 15, 16]) (.leaf [3, 5, 6, 4, 1, 7, 8, 9, 10, 0, 2, 11, 12, 13, 14, 15, 16])) (.leaf [3, 5, 6, 4, 7, 8, 9, 10, 0, 1, 2, 11, 12, 13, 14, 15, 16]))) (.node 4 8 (.node 0 10 (.node 1 10 (.node 2 10 (.leaf [3, 5, 6, 7, 4, 0, 1, 2, 8, 9, 10, 11, 12, 13, 14, 15, 16]) (.leaf [3, 5, 6, 7, 4, 0, 1, 8, 9, 10, 2, 11, 12, 13, 14, 15, 16])) (.leaf [3, 5, 6, 7, 4, 0, 8, 9, 10, 1, 2, 11, 12, 13, 14, 15, 16])) (.node 1 10 (.node 2 10 (.leaf [3, 5, 6, 7, 4, 1, 2, 8, 9, 10, 0, 11, 12, 13, 14, 15, 16]) (.leaf [3, 5, 6, 7, 4, 1, 8, 9, 10, 0, 2, 11, 12, 13, 14, 15, 16])) (.leaf [3, 5, 6, 7, 4, 8, 9, 10, 0, 1, 2, 11, 12, 13, 14, 15, 16]))) (.node 4 9 (.node 0 10 (.node 1 10 (.node 2 10 (.leaf [3, 5, 6, 7, 8, 4, 0, 1, 2, 9, 10, 11, 12, 13, 14, 15, 16]) (.leaf [3, 5, 6, 7, 8, 4, 0, 1, 9, 10, 2, 11, 12, 13, 14, 15, 16])) (.leaf [3, 5, 6, 7, 8, 4, 0, 9, 10, 1, 2, 11, 12, 13, 14, 15, 16])) (.node 1 10 (.node 2 10 (.leaf [3, 5, 6, 7, 8, 4, 1, 2, 9, 10, 0, 11, 12, 13, 14, 15, 16]) (.leaf [3, 5, 6, 7, 8, 4, 1, 9, 10, 0, 2, 11, 12, 13, 14, 15, 16])) (.leaf [3, 5, 6, 7, 8, 4, 9, 10, 0, 1, 2, 11, 12, 13, 14, 15, 16]))) (.node 0 10 (.node 1 10 (.node 2 10 (.leaf [3, 5, 6, 7, 8, 9, 4, 0, 1, 2, 10, 11, 12, 13, 14, 15, 16]) (.leaf [3, 5, 6, 7, 8, 9, 4, 0, 1, 10, 2, 11, 12, 13, 14, 15, 16])) (.leaf [3, 5, 6, 7, 8, 9, 4, 0, 10, 1, 2, 11, 12, 13, 14, 15, 16])) (.node 1 10 (.node 2 10 (.leaf [3, 5, 6, 7, 8, 9, 4, 1, 2, 10, 0, 11, 12, 13, 14, 15, 16]) (.leaf [3, 5, 6, 7, 8, 9, 4, 1, 10, 0, 2, 11, 12, 13, 14, 15, 16])) (.leaf [3, 5, 6, 7, 8, 9, 4, 10, 0, 1, 2, 11, 12, 13, 14, 15, 16])))))))))) [
   .op (some 24) none (.load true 4 (.t 3)),
   .op (some 25) none (.faddr 1 (.t 3)),
   .op (some 26) none (.load false 1 (.t 25)),
   .op (some 27) none (.mov (.t 7)),
   .op (some 28) none (.call (.s [1344193,1344257]) (.c (.fn 21 [])) [.t 27]),
   .op (some 29) none (.mov (.t 1)),
   .op (some 30) none (.mov (.t 8)),
   .op (some 31) none (.iaddr 1 (.t 29) (.t 30)),
   .op (some 32) none (.load false 1 (.t 31)),
   .op (some 33) none (.bsl 1 [.t 32]),
   .op (some 34) none (.append 1 8 (.t 28) (.t 33)),
   .op (some 35) none (.call .f (.c (.fn 31 [])) [.t 24, .t 26, .t 34]),
   .op (some 23) none (.mov (.t 35)),
   .op (some 36) none (.extract (.t 23) 0),
   .op (some 37) none (.extract (.t 23) 1),
   .op (some 9) none (.mov (.t 36)),
   .op (some 10) none (.mov (.t 37))])
   (.cut
   (.seq
   (.ops [
   .op (some 38) none (.mov (.t 10))])
   (.cut
   (.cond (.t 38)
   (.ops [
   .op (some 39) none (.mov (.t 7)),
   .op (some 40) none (.mov (.t 1)),
   .op (some 41) none (.mov (.t 8)),
   .op (some 42) none (.iaddr 1 (.t 40) (.t 41)),
   .op (some 43) none (.load false 1 (.t 42)),
   .op (some 44) none (.bsl 1 [.t 43]),
   .op (some 45) none (.append 1 8 (.t 39) (.t 44)),
   .op (some 7) none (.mov (.t 45))])
   .skip))))))
   (.cut
   (.ops [
   .op (some 21) none (.mov (.t 8)),
   .op (some 22) none (.bin .add false [] (.t 21) (.c (.int .i64 (1)))),
   .op (some 8) none (.mov (.t 22))])))))))))
   (.cut
   (.seq
   (.ops [
   .op (some 46) none (.mov (.t 7)),
   .op (some 6) none (.mov (.t 46))])
   .ret)))))))
def r_R2_omitted : List RVar := [.tmp 6]
def n_R2_omitted : Nat := 47
theorem k_R2_omitted : chkFn Go.Proofs.Try.prog 37 n_R2_omitted r_R2_omitted c_R2_omitted = true := by kernel_rfl
theorem f_R2_omitted (t : STask) (hv : SV t) (plan : List Int) (hl : plan.length ≤ 1000) (hp : ∀ x ∈ plan, 0 ≤ x ∧ x < t.ops.length) (i : Nat) (hi : i < plan.length) (e : List Int) (he : endS t t.init (plan.take i) = some e) :
    Fc Go.Proofs.Try.prog 37 [skV t, .sl .p (plan.map i64V), .int .i64 i] (.sl .p ((omitL t plan i).map i64V)) := by
  have heo : omitL t plan i = plan.take i ++ keepT t e (plan.drop (i + 1)) := by unfold omitL; rw [he]
  rw [heo]
  have hes := endS_set hv _ _ _ hv.init he
  have htl : (plan.take i).length = i := by simp; omega
  have htp : ∀ x ∈ plan.take i, 0 ≤ x ∧ x < t.ops.length := fun x hx => hp x (List.mem_of_mem_take hx)
  have hsub : ∀ acc : List Int, acc.Sublist plan → ∀ x ∈ acc, 0 ≤ x ∧ x < t.ops.length := fun acc h x hx => hp x (h.subset hx)
  refine Fn.step mixed k_R2_omitted ?_
  repeat (first | refine i_len rfl ?_ | refine i_s rfl ?_ | refine i_lenm rfl rfl rfl ?_ | refine c_seq ?_ | refine c_cut0 ?_ | refine c_ops ?_ | refine i_nil ?_ | refine e_seq ?_ | refine e_block ?_ | refine c_block ?_ | refine c_skip ?_ | refine c_ret ?_ | refine c_exit ?_ | refine e_exit rfl ?_ | refine i_s0 rfl ?_ | refine c_leaf ?_ | refine i_gt rfl ?_ | refine i_gf rfl ?_ | refine i_gd rfl ?_ | refine c_t rfl ?_ | refine c_f rfl ?_ | refine i_conv rfl (by simp only [InR, List.length_map]; omega) ?_ | refine i_add rfl rfl (by simp only [InR, List.length_map]; omega) ?_ | refine i_sub rfl rfl (by simp only [InR, List.length_map]; omega) ?_ | refine i_ixm rfl rfl (by assumption) ?_ | refine i_iai rfl rfl (by omega) (by assumption) rfl ?_ | refine i_iam rfl rfl (by assumption) rfl ?_ | refine i_tk rfl rfl (by omega) ?_ | refine i_stb rfl ?_ | refine i_alloc rfl ?_ | refine i_box rfl rfl ?_ | refine i_nv rfl ?_)
  refine i_c rfl rfl rfl (ct_R1_Copy1 (plan.take i) (by omega) _ _ rfl fun nm h => restr_mem nm h) ?_
  rintro _ _ _ ⟨rfl, rfl, rfl⟩
  repeat (first | refine i_len rfl ?_ | refine i_s rfl ?_ | refine i_lenm rfl rfl rfl ?_ | refine c_seq ?_ | refine c_cut0 ?_ | refine c_ops ?_ | refine i_nil ?_ | refine e_seq ?_ | refine e_block ?_ | refine c_block ?_ | refine c_skip ?_ | refine c_ret ?_ | refine c_exit ?_ | refine e_exit rfl ?_ | refine i_s0 rfl ?_ | refine c_leaf ?_ | refine i_gt rfl ?_ | refine i_gf rfl ?_ | refine i_gd rfl ?_ | refine c_t rfl ?_ | refine c_f rfl ?_ | refine i_conv rfl (by simp only [InR, List.length_map]; omega) ?_ | refine i_add rfl rfl (by simp only [InR, List.length_map]; omega) ?_ | refine i_sub rfl rfl (by simp only [InR, List.length_map]; omega) ?_ | refine i_ixm rfl rfl (by assumption) ?_ | refine i_iai rfl rfl (by omega) (by assumption) rfl ?_ | refine i_iam rfl rfl (by assumption) rfl ?_ | refine i_tk rfl rfl (by omega) ?_ | refine i_stb rfl ?_ | refine i_alloc rfl ?_ | refine i_box rfl rfl ?_ | refine i_nv rfl ?_)
  refine c_lp (ι := Nat × List Int × List Int) (fun p => [(1, .sl .p (plan.map i64V)), (3, .bptr 2368196 0), (7, .msl 1344193 (1 + p.2.2.length) 0 (plan.take i ++ p.2.2).length), (8, .int .i64 p.1)])
    (fun p => [(1344193, .arr (1 + p.2.2.length) ((plan.take i ++ p.2.2).map i64V)), (2368196, .box (skV t))])
    (fun p => i + 1 ≤ p.1 ∧ p.1 ≤ plan.length ∧ p.2.2.length + i + 1 ≤ p.1 ∧ (∀ x ∈ p.2.2, 0 ≤ x ∧ x < t.ops.length) ∧ endS t t.init (plan.take i ++ p.2.2) = some p.2.1 ∧ p.2.2 ++ keepT t p.2.1 (plan.drop p.1) = keepT t e (plan.drop (i + 1))) (fun p => plan.length - p.1) (i + 1, e, [])
    ⟨Nat.le_refl _, by simp only; omega, by simp, by simp, by simpa using he, rfl⟩ ⟨⟨rfl, rfl, by rw [List.append_nil]; rfl, rfl, trivial⟩, ⟨by rw [List.append_nil]; rfl, rfl, trivial⟩, rfl⟩ fun p hi => ?_
  obtain ⟨k, u, acc⟩ := p
  obtain ⟨h0, h1, h2, hap, h3, h4⟩ := hi
  simp only at h0 h1 h2 hap h3 h4
  clear hes he heo
  repeat (first | refine i_len rfl ?_ | refine i_s rfl ?_ | refine i_lenm rfl rfl rfl ?_ | refine c_seq ?_ | refine c_cut0 ?_ | refine c_ops ?_ | refine i_nil ?_ | refine e_seq ?_ | refine e_block ?_ | refine c_block ?_ | refine c_skip ?_ | refine c_ret ?_ | refine c_exit ?_ | refine e_exit rfl ?_ | refine i_s0 rfl ?_ | refine c_leaf ?_ | refine i_gt rfl ?_ | refine i_gf rfl ?_ | refine i_gd rfl ?_ | refine c_t rfl ?_ | refine c_f rfl ?_ | refine i_conv rfl (by simp only [InR, List.length_map]; omega) ?_ | refine i_add rfl rfl (by simp only [InR, List.length_map]; omega) ?_ | refine i_sub rfl rfl (by simp only [InR, List.length_map]; omega) ?_ | refine i_ixm rfl rfl (by assumption) ?_ | refine i_iai rfl rfl (by omega) (by assumption) rfl ?_ | refine i_iam rfl rfl (by assumption) rfl ?_ | refine i_tk rfl rfl (by omega) ?_ | refine i_stb rfl ?_ | refine i_alloc rfl ?_ | refine i_box rfl rfl ?_ | refine i_nv rfl ?_)
  refine c_cond rfl (fun h => ?_) (fun h => ?_)
  · have hlt : k < plan.length := by simpa using h
    obtain ⟨x, hx⟩ := get_some hlt
    have hxr := hp x (mem_get hx)
    have hal : (plan.take i ++ acc).length ≤ 2000 := by simp; omega
    have hE := Fc_any (f_R1_Ends t hv t.init hv.init ((plan.take i ++ acc) ++ [x]) (by simp at hal ⊢; omega) (fun y hy => by
      rcases List.mem_append.1 hy with hy | hy
      · rcases List.mem_append.1 hy with hy | hy
        · exact htp y hy
        · exact hap y hy
      · simp at hy; subst hy; exact hxr) |> fun h => (show Fc Go.Proofs.Try.prog 31 _ (.tup [(match endS t t.init ((plan.take i ++ acc) ++ [x]) with | some e => .sl .p (e.map i64V) | none => .sl .p []), .bool (endS t t.init ((plan.take i ++ acc) ++ [x])).isSome]) from by
        unfold endV at h
        cases hq : endS t t.init ((plan.take i ++ acc) ++ [x]) with
        | some e => rw [hq] at h; exact h
        | none => rw [hq] at h; exact h))
    have hen : endS t t.init ((plan.take i ++ acc) ++ [x]) = stepS t u x := by
      rw [endS_append, h3]
      simp only [endS]
      cases stepS t u x <;> rfl
    have ed : plan.drop k = x :: plan.drop (k + 1) := by
      obtain ⟨h5, h6⟩ := List.getElem?_eq_some_iff.1 hx
      rw [← h6]; exact List.drop_eq_getElem_cons hlt
    rw [ed] at h4
    simp only [keepT] at h4
    rw [hen] at hE
    have e9 : V.sl .p ((((plan.take i ++ acc) ++ [x])).map i64V) = .sl .p (((((plan.take i ++ acc) ++ [x]).map i64V).drop 0).take ((plan.take i ++ acc) ++ [x]).length) := (msl_all rfl).symm
    rw [e9] at hE
    clear h e9
    have hk0 : (0 : Int) ≤ (k : Int) := by omega
    generalize hbb : (stepS t u x).isSome = bb at hE
    repeat (first | refine i_len rfl ?_ | refine i_s rfl ?_ | refine i_lenm rfl rfl rfl ?_ | refine c_seq ?_ | refine c_cut0 ?_ | refine c_ops ?_ | refine i_nil ?_ | refine e_seq ?_ | refine e_block ?_ | refine c_block ?_ | refine c_skip ?_ | refine c_ret ?_ | refine c_exit ?_ | refine e_exit rfl ?_ | refine i_s0 rfl ?_ | refine c_leaf ?_ | refine i_gt rfl ?_ | refine i_gf rfl ?_ | refine i_gd rfl ?_ | refine c_t rfl ?_ | refine c_f rfl ?_ | refine i_conv rfl (by simp only [InR, List.length_map]; omega) ?_ | refine i_add rfl rfl (by simp only [InR, List.length_map]; omega) ?_ | refine i_sub rfl rfl (by simp only [InR, List.length_map]; omega) ?_ | refine i_ixm rfl rfl (by assumption) ?_ | refine i_iai rfl rfl (by omega) (by assumption) rfl ?_ | refine i_iam rfl rfl (by assumption) rfl ?_ | refine i_tk rfl rfl (by omega) ?_ | refine i_stb rfl ?_ | refine i_alloc rfl ?_ | refine i_box rfl rfl ?_ | refine i_nv rfl ?_)
    refine c_join noH_mono (fun e ρ' σ' g' => e = .normal ∧ Fits [] [(1, .sl .p (plan.map i64V)), (3, .bptr 2368196 0), (7, .msl 1344193 (1 + acc.length) 0 (plan.take i ++ acc).length), (8, .int .i64 k), (10, .bool bb)]
      [(1344193, .arr (1 + acc.length) ((plan.take i ++ acc).map i64V)), (2368196, .box (skV t))] ρ' σ') ?_ ?_
    · repeat' (refine c_node ?_ ?_)
      all_goals
        repeat (first | refine i_len rfl ?_ | refine i_s rfl ?_ | refine i_lenm rfl rfl rfl ?_ | refine c_seq ?_ | refine c_cut0 ?_ | refine c_ops ?_ | refine i_nil ?_ | refine e_seq ?_ | refine e_block ?_ | refine c_block ?_ | refine c_skip ?_ | refine c_ret ?_ | refine c_exit ?_ | refine e_exit rfl ?_ | refine i_s0 rfl ?_ | refine c_leaf ?_ | refine i_gt rfl ?_ | refine i_gf rfl ?_ | refine i_gd rfl ?_ | refine c_t rfl ?_ | refine c_f rfl ?_ | refine i_conv rfl (by simp only [InR, List.length_map]; omega) ?_ | refine i_add rfl rfl (by simp only [InR, List.length_map]; omega) ?_ | refine i_sub rfl rfl (by simp only [InR, List.length_map]; omega) ?_ | refine i_ixm rfl rfl (by assumption) ?_ | refine i_iai rfl rfl (by omega) (by assumption) rfl ?_ | refine i_iam rfl rfl (by assumption) rfl ?_ | refine i_tk rfl rfl (by omega) ?_ | refine i_stb rfl ?_ | refine i_alloc rfl ?_ | refine i_box rfl rfl ?_ | refine i_nv rfl ?_)
        refine i_c rfl rfl rfl (ct_CopyM (1 + acc.length) (plan.take i ++ acc) (by omega) _ _ rfl rfl fun nm h => restr_mem nm h) ?_
        rintro _ _ _ ⟨rfl, rfl, rfl⟩
        repeat (first | refine i_len rfl ?_ | refine i_s rfl ?_ | refine i_lenm rfl rfl rfl ?_ | refine c_seq ?_ | refine c_cut0 ?_ | refine c_ops ?_ | refine i_nil ?_ | refine e_seq ?_ | refine e_block ?_ | refine c_block ?_ | refine c_skip ?_ | refine c_ret ?_ | refine c_exit ?_ | refine e_exit rfl ?_ | refine i_s0 rfl ?_ | refine c_leaf ?_ | refine i_gt rfl ?_ | refine i_gf rfl ?_ | refine i_gd rfl ?_ | refine c_t rfl ?_ | refine c_f rfl ?_ | refine i_conv rfl (by simp only [InR, List.length_map]; omega) ?_ | refine i_add rfl rfl (by simp only [InR, List.length_map]; omega) ?_ | refine i_sub rfl rfl (by simp only [InR, List.length_map]; omega) ?_ | refine i_ixm rfl rfl (by assumption) ?_ | refine i_iai rfl rfl (by omega) (by assumption) rfl ?_ | refine i_iam rfl rfl (by assumption) rfl ?_ | refine i_tk rfl rfl (by omega) ?_ | refine i_stb rfl ?_ | refine i_alloc rfl ?_ | refine i_box rfl rfl ?_ | refine i_nv rfl ?_)
        refine i_appmM [x] rfl rfl rfl rfl rfl (fun c hc => ⟨rfl, rfl⟩) (by simp only [List.length_singleton]; omega) (by simp only [List.length_singleton]; omega) ?_
        repeat (first | refine i_len rfl ?_ | refine i_s rfl ?_ | refine i_lenm rfl rfl rfl ?_ | refine c_seq ?_ | refine c_cut0 ?_ | refine c_ops ?_ | refine i_nil ?_ | refine e_seq ?_ | refine e_block ?_ | refine c_block ?_ | refine c_skip ?_ | refine c_ret ?_ | refine c_exit ?_ | refine e_exit rfl ?_ | refine i_s0 rfl ?_ | refine c_leaf ?_ | refine i_gt rfl ?_ | refine i_gf rfl ?_ | refine i_gd rfl ?_ | refine c_t rfl ?_ | refine c_f rfl ?_ | refine i_conv rfl (by simp only [InR, List.length_map]; omega) ?_ | refine i_add rfl rfl (by simp only [InR, List.length_map]; omega) ?_ | refine i_sub rfl rfl (by simp only [InR, List.length_map]; omega) ?_ | refine i_ixm rfl rfl (by assumption) ?_ | refine i_iai rfl rfl (by omega) (by assumption) rfl ?_ | refine i_iam rfl rfl (by assumption) rfl ?_ | refine i_tk rfl rfl (by omega) ?_ | refine i_stb rfl ?_ | refine i_alloc rfl ?_ | refine i_box rfl rfl ?_ | refine i_nv rfl ?_ | refine i_f rfl rfl (hE) rfl ?_)
        exact e_end ⟨rfl, ⟨by repeat (first | exact trivial | refine ⟨rfl, ?_⟩), by repeat (first | exact trivial | refine ⟨rfl, ?_⟩), rfl⟩⟩
    rintro e0 ρ' σ' g' ⟨rfl, hf0⟩
    refine e_seq ?_
    refine c_cut _ _ hf0 ?_
    clear hf0 ρ' σ' hE
    cases hst : stepS t u x with
    | some u' =>
      rw [hst] at h4 hen hbb
      cases hbb
      repeat (first | refine i_len rfl ?_ | refine i_s rfl ?_ | refine i_lenm rfl rfl rfl ?_ | refine c_seq ?_ | refine c_cut0 ?_ | refine c_ops ?_ | refine i_nil ?_ | refine e_seq ?_ | refine e_block ?_ | refine c_block ?_ | refine c_skip ?_ | refine c_ret ?_ | refine c_exit ?_ | refine e_exit rfl ?_ | refine i_s0 rfl ?_ | refine c_leaf ?_ | refine i_gt rfl ?_ | refine i_gf rfl ?_ | refine i_gd rfl ?_ | refine c_t rfl ?_ | refine c_f rfl ?_ | refine i_conv rfl (by simp only [InR, List.length_map]; omega) ?_ | refine i_add rfl rfl (by simp only [InR, List.length_map]; omega) ?_ | refine i_sub rfl rfl (by simp only [InR, List.length_map]; omega) ?_ | refine i_ixm rfl rfl (by assumption) ?_ | refine i_iai rfl rfl (by omega) (by assumption) rfl ?_ | refine i_iam rfl rfl (by assumption) rfl ?_ | refine i_tk rfl rfl (by omega) ?_ | refine i_stb rfl ?_ | refine i_alloc rfl ?_ | refine i_box rfl rfl ?_ | refine i_nv rfl ?_)
      refine i_appmM [x] rfl rfl rfl rfl rfl (fun c hc => ⟨rfl, rfl⟩) (by simp only [List.length_singleton]; omega) (by simp only [List.length_singleton]; omega) ?_
      repeat (first | refine i_len rfl ?_ | refine i_s rfl ?_ | refine i_lenm rfl rfl rfl ?_ | refine c_seq ?_ | refine c_cut0 ?_ | refine c_ops ?_ | refine i_nil ?_ | refine e_seq ?_ | refine e_block ?_ | refine c_block ?_ | refine c_skip ?_ | refine c_ret ?_ | refine c_exit ?_ | refine e_exit rfl ?_ | refine i_s0 rfl ?_ | refine c_leaf ?_ | refine i_gt rfl ?_ | refine i_gf rfl ?_ | refine i_gd rfl ?_ | refine c_t rfl ?_ | refine c_f rfl ?_ | refine i_conv rfl (by simp only [InR, List.length_map]; omega) ?_ | refine i_add rfl rfl (by simp only [InR, List.length_map]; omega) ?_ | refine i_sub rfl rfl (by simp only [InR, List.length_map]; omega) ?_ | refine i_ixm rfl rfl (by assumption) ?_ | refine i_iai rfl rfl (by omega) (by assumption) rfl ?_ | refine i_iam rfl rfl (by assumption) rfl ?_ | refine i_tk rfl rfl (by omega) ?_ | refine i_stb rfl ?_ | refine i_alloc rfl ?_ | refine i_box rfl rfl ?_ | refine i_nv rfl ?_)
      refine e_lp (k + 1, u', acc ++ [x]) ⟨by simp only; omega, hlt, by simp; omega, fun y hy => ?_, by simp only; rw [← List.append_assoc]; exact hen, by simpa using h4⟩ (by simp only; omega) ⟨⟨rfl, rfl, ?_, rfl, trivial⟩, ⟨?_, rfl, trivial⟩, rfl⟩
      · rcases List.mem_append.1 hy with hy | hy
        · exact hap y hy
        · simp at hy; subst hy; exact hxr
      · simp only
        rw [← List.append_assoc, show (acc ++ [x]).length = acc.length + 1 from by simp]
        rfl
      · simp only
        rw [← List.append_assoc, show (acc ++ [x]).length = acc.length + 1 from by simp]
        rfl
    | none =>
      rw [hst] at h4 hen hbb
      cases hbb
      repeat (first | refine i_len rfl ?_ | refine i_s rfl ?_ | refine i_lenm rfl rfl rfl ?_ | refine c_seq ?_ | refine c_cut0 ?_ | refine c_ops ?_ | refine i_nil ?_ | refine e_seq ?_ | refine e_block ?_ | refine c_block ?_ | refine c_skip ?_ | refine c_ret ?_ | refine c_exit ?_ | refine e_exit rfl ?_ | refine i_s0 rfl ?_ | refine c_leaf ?_ | refine i_gt rfl ?_ | refine i_gf rfl ?_ | refine i_gd rfl ?_ | refine c_t rfl ?_ | refine c_f rfl ?_ | refine i_conv rfl (by simp only [InR, List.length_map]; omega) ?_ | refine i_add rfl rfl (by simp only [InR, List.length_map]; omega) ?_ | refine i_sub rfl rfl (by simp only [InR, List.length_map]; omega) ?_ | refine i_ixm rfl rfl (by assumption) ?_ | refine i_iai rfl rfl (by omega) (by assumption) rfl ?_ | refine i_iam rfl rfl (by assumption) rfl ?_ | refine i_tk rfl rfl (by omega) ?_ | refine i_stb rfl ?_ | refine i_alloc rfl ?_ | refine i_box rfl rfl ?_ | refine i_nv rfl ?_)
      exact e_lp (k + 1, u, acc) ⟨by simp only; omega, hlt, by simp only; omega, hap, h3, h4⟩ (by simp only; omega) ⟨by repeat (first | exact trivial | refine ⟨rfl, ?_⟩), by repeat (first | exact trivial | refine ⟨rfl, ?_⟩), rfl⟩
  · have hge : k = plan.length := by have : ¬ k < plan.length := by simpa using h
                                     omega
    subst hge
    rw [List.drop_length] at h4
    simp only [keepT, List.append_nil] at h4
    rw [← h4]
    repeat (first | refine i_len rfl ?_ | refine i_s rfl ?_ | refine i_lenm rfl rfl rfl ?_ | refine c_seq ?_ | refine c_cut0 ?_ | refine c_ops ?_ | refine i_nil ?_ | refine e_seq ?_ | refine e_block ?_ | refine c_block ?_ | refine c_skip ?_ | refine c_ret ?_ | refine c_exit ?_ | refine e_exit rfl ?_ | refine i_s0 rfl ?_ | refine c_leaf ?_ | refine i_gt rfl ?_ | refine i_gf rfl ?_ | refine i_gd rfl ?_ | refine c_t rfl ?_ | refine c_f rfl ?_ | refine i_conv rfl (by simp only [InR, List.length_map]; omega) ?_ | refine i_add rfl rfl (by simp only [InR, List.length_map]; omega) ?_ | refine i_sub rfl rfl (by simp only [InR, List.length_map]; omega) ?_ | refine i_ixm rfl rfl (by assumption) ?_ | refine i_iai rfl rfl (by omega) (by assumption) rfl ?_ | refine i_iam rfl rfl (by assumption) rfl ?_ | refine i_tk rfl rfl (by omega) ?_ | refine i_stb rfl ?_ | refine i_alloc rfl ?_ | refine i_box rfl rfl ?_ | refine i_nv rfl ?_)
    exact e_ret ⟨rfl, _, rfl, ((er_msl (i := 0) (len := (plan.take i ++ acc).length) (n := 5) rfl).trans (msl_all rfl)).symm⟩
end Hm
end
